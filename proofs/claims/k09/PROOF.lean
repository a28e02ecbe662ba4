import PyProof.Rows.All
import Wide.All
import OpenK.AllK
import Wide.FinOn
import HandS.ForMost
import HandS.ForExc
import HandS.Property
import HandS.IsInst
import HandS.Flow
import HandS.WideBits
import HandS.TupAny
import HandS.SortInts
import HandS.Conv
import HandS.Lambda
import HandS.HotCalls
import HandS.Deep
import HandS.TupMul
import HandS.Wide
import HandS.Small
import HandS.Replace
import HandS.Text
import PyProof.ReprRoads
import HandS.Ends
import HandS.SetTxt0
import HandS.SetFor
import HandS.Strs
import HandS.ExcValue
import HandS.Style
import KE.KDictList
import HandS.TupLe
import HandS.Zip
import KE.KFmtOwn
import KE.KDictZip
import KE.KItemsList
import HandS.EndBits
import HandS.SortOrd
import KE.KExcInit
import KE.KTryMore
import KE.KExcIs
import HandS.EndTab
import PyProof.NeKinds
import HandS.ClsMeth
import HandS.TryOnly
import HandS.Codes
import HandS.HeadHook3
import PyProof.Rows.RegReprOcc
import PyProof.TupleOfStr
import PyProof.SliceStr2
import PyProof.Rows.SortShellAny
import PyProof.EqKinds
import PyProof.FactsAll.dict_1
import PyProof.Rows.Range3
import KE.GoesEnum
import KE.GoesNew
import PySem.Challenge.RW_nevermixed_k09_whole_covers_by_knots
set_option Elab.async false
set_option linter.all false
set_option maxRecDepth 100000
set_option maxHeartbeats 4000000
namespace DL
open PySem L2

/-! ### data -/
abbrev Cs := List Nat
def toS (cs : Cs) : Str := ⟨cs.toArray⟩
def sz : Nat := 16777216
def okS (cs : Cs) : Prop := cs.length ≤ sz ∧ ∀ c ∈ cs, c < 0x110000
instance (cs : Cs) : Decidable (okS cs) := by unfold okS; infer_instance
inductive DK where
  | i (n : Int) | s (cs : Cs)
  deriving DecidableEq
def okK : DK → Prop
  | .i _ => True
  | .s cs => okS cs
def DK.key : DK → Key
  | .i n => .inl n
  | .s cs => .inr (toS cs)
inductive D where
  | non | bl (b : Bool) | int (i : Int) | str (cs : Cs)
  | tup (xs : List D) | lst (xs : List D) | dct (kvs : List (DK × D))
  | ins (c : String) (fs : List (String × D))
  | gl (x : String) | ty (n : String)
instance : Inhabited D := ⟨.non⟩

theorem toS_inj {a b : Cs} (h : toS a = toS b) : a = b := by
  have := congrArg (fun s => s.cps.toList) h
  simpa [toS] using this
theorem toS_surj (x : Str) : ∃ cs, x = toS cs := ⟨x.cps.toList, by cases x; simp [toS]⟩
theorem toS_cps (cs : Cs) : (toS cs).cps.toList = cs := by simp [toS]
theorem toS_length (cs : Cs) : (toS cs).length = cs.length := by simp [toS, Str.length]
theorem key_inj {a b : DK} (h : a.key = b.key) : a = b := by
  cases a <;> cases b <;> simp [DK.key] at h
  · rw [h]
  · rw [toS_inj h]

section
variable (K : PySem.W.Frag) (mg : Str → Option Value)
mutual
inductive Dn (F : Hp) : V → D → Prop where
  | non : Dn F .non .non
  | bl (b : Bool) : Dn F (.bl b) (.bl b)
  | int (i : Int) : Dn F (.int i) (.int i)
  | str (cs : Cs) (h : okS cs) : Dn F (.str (toS cs)) (.str cs)
  | ty (n : String) : Dn F (.ty n) (.ty n)
  | gl {x : String} {a : Addr} (h : mg (Str.ofString x) = some (.ref a)) : Dn F (.ref a) (.gl x)
  | tup {a : Addr} {vs : List V} {ds : List D} (h : SqT K F a vs) (r : Dns F vs ds) (hl : ds.length ≤ sz) : Dn F (.ref a) (.tup ds)
  | lst {a : Addr} {vs : List V} {ds : List D} (h : Rd F a (.lst vs)) (r : Dns F vs ds) (hl : ds.length ≤ sz) : Dn F (.ref a) (.lst ds)
  | dct {a : Addr} {kvs : List (Key × V)} {kds : List (DK × D)} {o : Obj} (h : F a = some (.frz o (.dK kvs))) (r : Dkv F kvs kds) (hl : kds.length ≤ sz) : Dn F (.ref a) (.dct kds)
  | ins {a C dx : Addr} {c : String} {vs : List (Str × V)} {fs : List (String × D)} (g : mg (Str.ofString c) = some (.ref C)) (h : F a = some (.ins C dx vs)) (r : Dfs F vs fs) : Dn F (.ref a) (.ins c fs)
inductive Dns (F : Hp) : List V → List D → Prop where
  | nil : Dns F [] []
  | cons {v : V} {d : D} {vs : List V} {ds : List D} (h : Dn F v d) (r : Dns F vs ds) : Dns F (v :: vs) (d :: ds)
inductive Dkv (F : Hp) : List (Key × V) → List (DK × D) → Prop where
  | nil : Dkv F [] []
  | cons {k : DK} {v : V} {d : D} {vs : List (Key × V)} {ds : List (DK × D)} (hk : okK k) (h : Dn F v d) (r : Dkv F vs ds) : Dkv F ((k.key, v) :: vs) ((k, d) :: ds)
inductive Dfs (F : Hp) : List (Str × V) → List (String × D) → Prop where
  | nil : Dfs F [] []
  | cons {k : String} {v : V} {d : D} {vs : List (Str × V)} {ds : List (String × D)} (h : Dn F v d) (r : Dfs F vs ds) : Dfs F ((Str.ofString k, v) :: vs) ((k, d) :: ds)
end
end

section
variable {K : PySem.W.Frag} {mg : Str → Option Value} {F F' H H' : Hp}
theorem same_rd {a : Addr} {u : HO} (e : Same F F') (h : Rd F a u) : Rd F' a u := by
  rcases h with h | ⟨o, h⟩
  · exact .inl (e _ _ h)
  · exact .inr ⟨o, e _ _ h⟩
theorem same_t {a : Addr} {xs : List V} (e : Same F F') (h : SqT K F a xs) : SqT K F' a xs := by
  rcases h with h | h
  · exact .inl (same_rd e h)
  · exact .inr h
theorem same_l {a : Addr} {xs : List V} (e : Same F F') (h : SqL K F a xs) : SqL K F' a xs := e.seq h
mutual
theorem Dn.mono (e : Same F F') : ∀ {v : V} {d : D}, Dn K mg F v d → Dn K mg F' v d
  | _, _, .non => .non
  | _, _, .bl b => .bl b
  | _, _, .int i => .int i
  | _, _, .str cs h => .str cs h
  | _, _, .ty n => .ty n
  | _, _, .gl h => .gl h
  | _, _, .tup h r hl => .tup (same_t e h) (r.mono e) hl
  | _, _, .lst h r hl => .lst (same_rd e h) (r.mono e) hl
  | _, _, .dct h r hl => .dct (e _ _ h) (r.mono e) hl
  | _, _, .ins g h r => .ins g (e _ _ h) (r.mono e)
theorem Dns.mono (e : Same F F') : ∀ {v : List V} {d : List D}, Dns K mg F v d → Dns K mg F' v d
  | _, _, .nil => .nil
  | _, _, .cons h r => .cons (h.mono e) (r.mono e)
theorem Dkv.mono (e : Same F F') : ∀ {v : List (Key × V)} {d : List (DK × D)}, Dkv K mg F v d → Dkv K mg F' v d
  | _, _, .nil => .nil
  | _, _, .cons hk h r => .cons hk (h.mono e) (r.mono e)
theorem Dfs.mono (e : Same F F') : ∀ {v : List (Str × V)} {d : List (String × D)}, Dfs K mg F v d → Dfs K mg F' v d
  | _, _, .nil => .nil
  | _, _, .cons h r => .cons (h.mono e) (r.mono e)
end
theorem Dns.length : ∀ {v : List V} {d : List D}, Dns K mg F v d → v.length = d.length
  | _, _, .nil => rfl
  | _, _, .cons _ r => by simp [r.length]
theorem Dns.get : ∀ {vs : List V} {ds : List D} {i : Nat} {d : D}, Dns K mg F vs ds → ds[i]? = some d → ∃ v, vs[i]? = some v ∧ Dn K mg F v d
  | _, _, _, _, .nil, e => by simp at e
  | _, _, 0, _, .cons h _, e => by simp at e; subst e; exact ⟨_, rfl, h⟩
  | _, _, i + 1, d, .cons _ r, e => by
    obtain ⟨v, h1, h2⟩ := Dns.get (i := i) (d := d) r (by simpa using e)
    exact ⟨v, by simpa using h1, h2⟩
theorem Dns.getV : ∀ {vs : List V} {ds : List D} {i : Nat} {v : V}, Dns K mg F vs ds → vs[i]? = some v → ∃ d, ds[i]? = some d ∧ Dn K mg F v d
  | _, _, _, _, .nil, e => by simp at e
  | _, _, 0, _, .cons h _, e => by simp at e; subst e; exact ⟨_, rfl, h⟩
  | _, _, i + 1, d, .cons _ r, e => by
    obtain ⟨v, h1, h2⟩ := Dns.getV (i := i) (v := d) r (by simpa using e)
    exact ⟨v, by simpa using h1, h2⟩
theorem Dns.append : ∀ {vs ws : List V} {ds es : List D}, Dns K mg F vs ds → Dns K mg F ws es → Dns K mg F (vs ++ ws) (ds ++ es)
  | _, _, _, _, .nil, s => s
  | _, _, _, _, .cons h r, s => .cons h (r.append s)
theorem Dns.take : ∀ {vs : List V} {ds : List D} (n : Nat), Dns K mg F vs ds → Dns K mg F (vs.take n) (ds.take n)
  | _, _, 0, _ => .nil
  | _, _, _ + 1, .nil => .nil
  | _, _, n + 1, .cons h r => .cons h (r.take n)
theorem Dns.drop : ∀ {vs : List V} {ds : List D} (n : Nat), Dns K mg F vs ds → Dns K mg F (vs.drop n) (ds.drop n)
  | _, _, 0, r => r
  | _, _, _ + 1, .nil => .nil
  | _, _, n + 1, .cons h r => r.drop n
theorem Dns.set {v : V} {d : D} (h : Dn K mg F v d) : ∀ {vs : List V} {ds : List D} (n : Nat), Dns K mg F vs ds → Dns K mg F (vs.set n v) (ds.set n d)
  | _, _, _, .nil => .nil
  | _, _, 0, .cons _ r => .cons h r
  | _, _, n + 1, .cons q r => .cons q (r.set h n)
theorem Dns.eraseIdx : ∀ {vs : List V} {ds : List D} (n : Nat), Dns K mg F vs ds → Dns K mg F (vs.eraseIdx n) (ds.eraseIdx n)
  | _, _, _, .nil => .nil
  | _, _, 0, .cons _ r => r
  | _, _, n + 1, .cons q r => .cons q (r.eraseIdx n)
theorem Dns.snoc {vs : List V} {ds : List D} {v : V} {d : D} (r : Dns K mg F vs ds) (h : Dn K mg F v d) : Dns K mg F (vs ++ [v]) (ds ++ [d]) := r.append (.cons h .nil)
end

structure Base where
  P : Program
  w : World
  K : PySem.W.Frag
  mg : Str → Option Value
  base : Heap
  /-- the tables of code objects that may grow -/
  T : List (Addr × Str)
structure Stat extends Base where
  N : List Str
  sc : Scope
  raw : Scope
  k : Nat
  np : Nat
  /-- an exception may be handled while this runs -/
  hot : Bool
  /-- the exception that is in hand -/
  xe : Option (Addr × Obj)
  /-- the def's qualified name and its code object, where that is asked -/
  lam : Option (Str × Addr) := none
  /-- a def's own frame runs -/
  fr : Bool := false
structure Xt where
  T : List (Addr × Str)
  xe : Option (Addr × Obj)
abbrev Stat.xt (c : Stat) : Xt := ⟨c.T, c.xe⟩
/-! ### states -/
structure Xc where
  c : String
  fs : List (String × D)
inductive Sl where
  | un | fz (d : D) | ow (d : D) | xc (x : Xc)
abbrev En := List Sl
/-- an exception: class and fields -/
def XRel (mg : Str → Option Value) (K : PySem.W.Frag) (F : Hp) (cls : Value) (d : Option Addr) (x : Xc) : Prop :=
  ∃ C, mg (Str.ofString x.c) = some (.ref C) ∧ cls = .ref C ∧ ((x.fs = [] ∧ d = none) ∨ ∃ dd vs, d = some dd ∧ F dd = some (.xd vs) ∧ Dfs K mg F vs x.fs)
theorem XRel.mono {mg : Str → Option Value} {K : PySem.W.Frag} {F F' : Hp} {cls : Value} {d : Option Addr} {x : Xc} (e : Same F F') (h : XRel mg K F cls d x) : XRel mg K F' cls d x := by
  obtain ⟨C, h1, h2, h3⟩ := h
  refine ⟨C, h1, h2, ?_⟩
  rcases h3 with h3 | ⟨dd, vs, q1, q2, q3⟩
  · exact .inl h3
  · exact .inr ⟨dd, vs, q1, e _ _ q2, q3.mono e⟩
inductive Out (α : Type) where
  | ok (a : α) (ρ : En) | err (x : Xc) (ρ : En) | bad
abbrev M (α : Type) := En → Out α

structure Ent where
  F0 : Hp
  H0 : Hp
  pa : List (Nat × Addr)

section
variable (K : PySem.W.Frag) (mg : Str → Option Value)
/-- what a mutable thing of its own holds -/
def OwnAt (F H : Hp) (a : Addr) : D → Prop
  | .lst ds => ∃ vs, H a = some (.lst vs) ∧ Dns K mg F vs ds
  | .dct kds => ∃ kvs, H a = some (.dK kvs) ∧ Dkv K mg F kvs kds
  | .ins c fs => ∃ C dx vs, mg (Str.ofString c) = some (.ref C) ∧ H a = some (.ins C dx vs) ∧ Dfs K mg F vs fs
  | _ => False
structure Ow (G : Ent) (F H : Hp) (a : Addr) (d : D) : Prop where
  nf : F a = none
  nh : G.H0 a = none ∨ ∃ p ∈ G.pa, p.2 = a
  at_ : OwnAt K mg F H a d
/-- the tables stand, no frozen thing is one -/
structure TbOk (T : List (Addr × Str)) (F H : Hp) : Prop where
  t : LamX.Tabs T H
  n : ∀ p ∈ T, F p.1 = none
structure Rel (xt : Xt) (G : Ent) (F H : Hp) (σ : L2.St) (ρ : En) : Prop where
  f0 : Same G.F0 F
  fh : Same F H
  kept : ∀ b o, G.H0 b = some o → (∀ ps, o ≠ .tbl ps) → (∀ p ∈ G.pa, p.2 ≠ b) → H b = some o
  par : ∀ p ∈ G.pa, σ[p.1]? = some (some (.ref p.2))
  fz : ∀ (i : Nat) (d : D), ρ[i]? = some (.fz d) → ∃ v, σ[i]? = some (some v) ∧ Dn K mg F v d
  ow : ∀ (i : Nat) (d : D), ρ[i]? = some (.ow d) → ∃ a, σ[i]? = some (some (.ref a)) ∧ Ow K mg G F H a d
  ne : ∀ (i j : Nat) (a : Addr) (d e : D), i ≠ j → ρ[i]? = some (.ow d) → ρ[j]? = some (.ow e) → σ[i]? = some (some (.ref a)) → σ[j]? ≠ some (some (.ref a))
  len : σ.length = ρ.length
  pw : ∀ p ∈ G.pa, ∃ d, ρ[p.1]? = some (.ow d)
  fn : ∀ b, G.H0 b ≠ none → F b = G.F0 b
  tbs : ∀ b ps, G.H0 b = some (.tbl ps) → ∃ qs, H b = some (.tbl qs)
  tb : TbOk xt.T F H
  xc : ∀ (i : Nat) (x : Xc), ρ[i]? = some (.xc x) → ∃ p cls d, xt.xe = some p ∧ σ[i]? = some (some (.ref p.1)) ∧ Zc cls d p.2 ∧ (∃ vs, p.2.data = .fields vs) ∧ XRel mg K F cls d x
/-- no table and no code object stands there -/
structure PlainA (H : Hp) (a : Addr) : Prop where
  t : ∀ ps, H a ≠ some (.tbl ps)
  c : ∀ b q, H a ≠ some (LamX.CodeO b q)
theorem PlainA.none {H : Hp} {a : Addr} (h : H a = .none) : PlainA H a := ⟨(fun ps q => by rw [h] at q; cases q), (fun b x q => by rw [h] at q; cases q)⟩
theorem PlainA.lst {H : Hp} {a : Addr} {l : List V} (h : H a = some (.lst l)) : PlainA H a := ⟨(fun ps q => by rw [h] at q; cases q), (fun b x q => by rw [h] at q; unfold LamX.CodeO at q; cases q)⟩
theorem PlainA.dK {H : Hp} {a : Addr} {l : List (Key × V)} (h : H a = some (.dK l)) : PlainA H a := ⟨(fun ps q => by rw [h] at q; cases q), (fun b x q => by rw [h] at q; unfold LamX.CodeO at q; cases q)⟩
theorem PlainA.ins {H : Hp} {a C dx : Addr} {l : List (Str × V)} (h : H a = some (.ins C dx l)) : PlainA H a := ⟨(fun ps q => by rw [h] at q; cases q), (fun b x q => by rw [h] at q; unfold LamX.CodeO at q; cases q)⟩
theorem tabs_upd {T : List (Addr × Str)} {H : Hp} {a : Addr} {o : HO} (t : LamX.Tabs T H) (p : PlainA H a) : LamX.Tabs T (upd H a o) := fun r hr => by
  obtain ⟨ps, h1, h2, h3⟩ := t r hr
  refine ⟨ps, by rw [upd_ne fun e => p.t ps (by rw [← e]; exact h1)]; exact h1, h2, fun pos cv hc => ?_⟩
  obtain ⟨c, e1, e2⟩ := h3 pos cv hc
  exact ⟨c, e1, by rw [upd_ne fun e => p.c c r.2 (by rw [← e]; exact e2)]; exact e2⟩
theorem TbOk.ne {T : List (Addr × Str)} {F H : Hp} {a : Addr} (k : TbOk T F H) (p : PlainA H a) : ∀ q ∈ T, q.1 ≠ a := fun q hq e => by
  obtain ⟨ps, h1, _⟩ := k.t q hq
  exact p.t ps (by rw [← e]; exact h1)
theorem TbOk.upd {T : List (Addr × Str)} {F H : Hp} {a : Addr} {o : HO} (k : TbOk T F H) (p : PlainA H a) : TbOk T F (upd H a o) := ⟨tabs_upd k.t p, k.n⟩
theorem TbOk.updF {T : List (Addr × Str)} {F H : Hp} {a : Addr} {o : HO} (k : TbOk T F H) (p : PlainA H a) : TbOk T (L2.upd F a o) H := ⟨k.t, fun q hq => by rw [upd_ne (k.ne p q hq)]; exact k.n q hq⟩
/-- new frozen things come beside -/
structure Ext (F H F' H' : Hp) : Prop where
  ff : Same F F'
  fh : Same F' H'
  hh : Same H H'
  nn : ∀ b, H b ≠ none → F' b = F b
end
section
variable {K : PySem.W.Frag} {mg : Str → Option Value} {xt : Xt} {F F' F2 H H' H2 : Hp} {G : Ent} {σ : L2.St} {ρ : En}
theorem Rel.xcSet {σ' : L2.St} {i : Nat} {s : Sl} (R : Rel K mg xt G F H σ ρ) (hs : ∀ x, s ≠ .xc x) (hσ : ∀ j, j ≠ i → σ'[j]? = σ[j]?) : ∀ (j : Nat) (x : Xc), (ρ.set i s)[j]? = some (.xc x) → ∃ p cls d, xt.xe = some p ∧ σ'[j]? = some (some (.ref p.1)) ∧ Zc cls d p.2 ∧ (∃ vs, p.2.data = .fields vs) ∧ XRel mg K F cls d x := fun j x q => by
  by_cases hj : j = i
  · subst hj
    by_cases hl : j < ρ.length
    · rw [List.getElem?_set_self hl] at q
      exact absurd (Option.some.inj q) (hs x)
    · rw [List.getElem?_eq_none (by rw [List.length_set]; omega)] at q; cases q
  · rw [List.getElem?_set_ne (Ne.symm hj)] at q
    rw [hσ j hj]
    exact R.xc j x q
theorem xcMono' {F' : Hp} {xt : Xt} {F : Hp} {σ : L2.St} {ρ : En} (e : Same F F') (h : ∀ (j : Nat) (x : Xc), ρ[j]? = some (.xc x) → ∃ p cls d, xt.xe = some p ∧ σ[j]? = some (some (.ref p.1)) ∧ Zc cls d p.2 ∧ (∃ vs, p.2.data = .fields vs) ∧ XRel mg K F cls d x) :
    ∀ (j : Nat) (x : Xc), ρ[j]? = some (.xc x) → ∃ p cls d, xt.xe = some p ∧ σ[j]? = some (some (.ref p.1)) ∧ Zc cls d p.2 ∧ (∃ vs, p.2.data = .fields vs) ∧ XRel mg K F' cls d x := fun j x q =>
  let ⟨p, cls, d, h1, h2, h3, h4, h5⟩ := h j x q; ⟨p, cls, d, h1, h2, h3, h4, h5.mono e⟩
theorem OwnAt.mono {a : Addr} {d : D} (e : Same F F') (hh : ∀ o, H a = some o → H' a = some o) (h : OwnAt K mg F H a d) : OwnAt K mg F' H' a d := by
  cases d <;> try exact h.elim
  · obtain ⟨vs, h1, h2⟩ := h; exact ⟨vs, hh _ h1, h2.mono e⟩
  · obtain ⟨vs, h1, h2⟩ := h; exact ⟨vs, hh _ h1, h2.mono e⟩
  · obtain ⟨C, dx, vs, g, h1, h2⟩ := h; exact ⟨C, dx, vs, g, hh _ h1, h2.mono e⟩
theorem OwnAt.mono' {a : Addr} {d : D} (e : Same F F') (hh : ∀ o, (∀ ps, o ≠ .tbl ps) → H a = some o → H' a = some o) (h : OwnAt K mg F H a d) : OwnAt K mg F' H' a d := by
  cases d <;> try exact h.elim
  · obtain ⟨vs, h1, h2⟩ := h; exact ⟨vs, hh _ (fun _ q => by cases q) h1, h2.mono e⟩
  · obtain ⟨vs, h1, h2⟩ := h; exact ⟨vs, hh _ (fun _ q => by cases q) h1, h2.mono e⟩
  · obtain ⟨C, dx, vs, g, h1, h2⟩ := h; exact ⟨C, dx, vs, g, hh _ (fun _ q => by cases q) h1, h2.mono e⟩
theorem OwnAt.plain {a : Addr} {d : D} (h : OwnAt K mg F H a d) : PlainA H a := by
  cases d <;> try exact h.elim
  · obtain ⟨vs, h1, h2⟩ := h; exact .lst h1
  · obtain ⟨vs, h1, h2⟩ := h; exact .dK h1
  · obtain ⟨C, dx, vs, g, h1, h2⟩ := h; exact .ins h1
theorem OwnAt.some {a : Addr} {d : D} (h : OwnAt K mg F H a d) : H a ≠ none := by
  cases d <;> try exact h.elim
  · obtain ⟨vs, h1, h2⟩ := h; rw [h1]; exact nofun
  · obtain ⟨vs, h1, h2⟩ := h; rw [h1]; exact nofun
  · obtain ⟨C, dx, vs, g, h1, h2⟩ := h; rw [h1]; exact nofun
theorem TbOk.ext {T : List (Addr × Str)} (k : TbOk T F H) (e : Ext F H F' H') : TbOk T F' H' := ⟨k.t.ext fun b o q => e.hh _ _ q, fun p hp => by
  obtain ⟨ps, h1, _⟩ := k.t p hp
  rw [e.nn p.1 (by rw [h1]; exact nofun)]; exact k.n p hp⟩
theorem Ext.refl (e : Same F H) : Ext F H F H := ⟨Same.refl _, e, Same.refl _, fun _ _ => rfl⟩
theorem Ext.trans (a : Ext F H F' H') (b : Ext F' H' F2 H2) : Ext F H F2 H2 :=
  ⟨a.ff.trans b.ff, b.fh, a.hh.trans b.hh, fun c h => by
    have h' : H' c ≠ none := by
      cases q : H c with
      | none => exact absurd q h
      | some o => rw [a.hh _ _ q]; exact nofun
    rw [b.nn c h', a.nn c h]⟩
theorem Ext.new {p : Addr} {o : HO} (e : Same F H) (hp : H p = none) : Ext F H (upd F p o) (upd H p o) := by
  have fp : F p = none := e.free hp
  refine ⟨fun a u q => ?_, fun a u q => ?_, fun a u q => ?_, fun b h => ?_⟩
  · rw [upd_ne (ne_of_none q fp)]; exact q
  · by_cases ha : a = p
    · subst ha; rw [upd_same] at q ⊢; exact q
    · rw [upd_ne ha] at q ⊢; exact e _ _ q
  · rw [upd_ne (ne_of_none q hp)]; exact q
  · have : b ≠ p := fun z => by subst z; exact h hp
    rw [upd_ne this]
theorem Rel.h0_none (R : Rel K mg xt G F H σ ρ) {a : Addr} (h : H a = none) : G.H0 a = none := by
  cases e : G.H0 a with
  | none => rfl
  | some o =>
    by_cases hp : ∀ p ∈ G.pa, p.2 ≠ a
    · by_cases ht : ∀ ps, o ≠ .tbl ps
      · rw [R.kept a o e ht hp] at h; cases h
      · obtain ⟨ps, hps⟩ := Classical.not_forall.mp ht
        have hps := Classical.not_not.mp hps
        subst hps
        obtain ⟨qs, hq⟩ := R.tbs a ps e
        rw [hq] at h; cases h
    · exfalso
      obtain ⟨p, hp⟩ := Classical.not_forall.mp hp
      obtain ⟨hm, hp⟩ := Classical.not_imp.mp hp
      have hp : p.2 = a := Classical.not_not.mp hp
      subst hp
      obtain ⟨d, q⟩ := R.pw p hm
      obtain ⟨a', h1, h2⟩ := R.ow p.1 d q
      rw [R.par p hm] at h1
      cases h1
      exact h2.at_.some h
theorem Rel.h_some (R : Rel K mg xt G F H σ ρ) {a : Addr} (h : G.H0 a ≠ none) : H a ≠ none := fun e => h (R.h0_none e)
theorem Rel.ext (R : Rel K mg xt G F H σ ρ) (e : Ext F H F' H') : Rel K mg xt G F' H' σ ρ where
  f0 := R.f0.trans e.ff
  fh := e.fh
  kept := fun b o h1 h2 h3 => e.hh _ _ (R.kept b o h1 h2 h3)
  par := R.par
  fz := fun i d h => let ⟨v, h1, h2⟩ := R.fz i d h; ⟨v, h1, h2.mono e.ff⟩
  ow := fun i d h => let ⟨a, h1, h2⟩ := R.ow i d h; ⟨a, h1, ⟨by rw [e.nn _ h2.at_.some]; exact h2.nf, h2.nh, h2.at_.mono e.ff (fun o q => e.hh _ _ q)⟩⟩
  ne := R.ne
  len := R.len
  pw := R.pw
  fn := fun b h => by rw [e.nn b (R.h_some h)]; exact R.fn b h
  tbs := fun b ps h => let ⟨qs, q⟩ := R.tbs b ps h; ⟨qs, e.hh _ _ q⟩
  tb := R.tb.ext e
  xc := fun i x h => let ⟨p, cls, d, h1, h2, h3, h4, h5⟩ := R.xc i x h; ⟨p, cls, d, h1, h2, h3, h4, h5.mono e.ff⟩
end

/-! ### contexts and judgements -/
structure Cz (c : Stat) (X : Cx) (W : WX) : Prop where
  P : X.prog = c.P
  w : X.w = c.w
  K : X.K = c.K
  mg : X.mg = c.mg
  base : X.base = c.base
  N : X.N = c.N
  sc : X.env.scope = c.sc
  nd : c.N.Nodup
  fnc : ∀ y, c.raw.names.lookup y = some .cell → X.fn y = true
  calm : c.hot = false → X.calm = true
  room : L2H.RoomH c.k X.A
  hd : c.hot = false → X.A.handled = none
  xp : ∀ p, c.xe = some p → p ∈ X.pn
  xh : c.hot = false → c.xe = none
  gd : X.A.guards = some []
  lm : ∀ q a, c.lam = some (q, a) → X.env.qual = q ∧ X.env.code = .ref a
  fr : c.fr = true → X.stack = X.env :: X.outer ∧ X.env.frame = some X.env.locals
  tk : Takes X W
  po : PassesOwn (model X.prog X.w) X.A X.env X.xe
theorem _root_.L2H.RoomH.units {k : Nat} {A : Around} (r : L2H.RoomH k A) : A.units + 64 < cLine := by have := r.un; omega
theorem _root_.L2H.RoomH.units0 {k : Nat} {A : Around} (r : L2H.RoomH k A) : A.units < cLine := by have := r.un; omega
theorem Cz.cold {c : Stat} {X : Cx} {W : WX} (z : Cz c X W) (h : c.hot = false) : Room c.k X.A := ⟨z.hd h, z.room.dp, z.room.un⟩
def Post {α β : Type} (R : Hp → β → α → Prop) (c : Stat) (G : Ent) (W : WX) (F : Hp) (σ : L2.St) (o : Out α) (Q : β → Hp → Prop) : Prop :=
  match o with
  | .ok a ρ' => ∀ b F' H', Same F F' → Rel c.K c.mg c.xt G F' H' σ ρ' → R F' b a → Q b H'
  | .err x ρ' => ∀ F' H' cls d, Same F F' → Rel c.K c.mg c.xt G F' H' σ ρ' → XRel c.mg c.K F' cls d x → W cls d σ H'
  | .bad => False
/-- a reading over data -/
def tG {α β : Type} (R : Hp → β → α → Prop) (c : Stat) (G : Ent) (W : WX) (m : M α) : L2.St → Hp → (β → Hp → Prop) → Prop := fun σ H Q => ∃ F ρ, Rel c.K c.mg c.xt G F H σ ρ ∧ Post R c G W F σ (m ρ) Q
abbrev tD (c : Stat) (G : Ent) (W : WX) (m : M D) : TE := tG (Dn c.K c.mg) c G W m
abbrev tT (c : Stat) (G : Ent) (W : WX) (m : M Bool) : TT := tG (fun _ (b a : Bool) => b = a) c G W m
abbrev tA (c : Stat) (G : Ent) (W : WX) (m : M (List D)) : TA := tG (Dns c.K c.mg) c G W m
abbrev tO (c : Stat) (G : Ent) (W : WX) (m : M (Option Int)) : TO := tG (fun _ (b a : Option Int) => b = a) c G W m
inductive Fl where
  | nx | bk | ct | rt (d : D) | ro (d : D)
def PostS (c : Stat) (G : Ent) (W : WX) (F : Hp) (o : Out Fl) (Z : Ends) : Prop :=
  match o with
  | .ok .nx ρ' => ∀ σ' F' H', Same F F' → Rel c.K c.mg c.xt G F' H' σ' ρ' → Z.nx σ' H'
  | .ok .bk ρ' => ∀ σ' F' H', Same F F' → Rel c.K c.mg c.xt G F' H' σ' ρ' → Z.bk σ' H'
  | .ok .ct ρ' => ∀ σ' F' H', Same F F' → Rel c.K c.mg c.xt G F' H' σ' ρ' → Z.ct σ' H'
  | .ok (.rt d) ρ' => ∀ v σ' F' H', Same F F' → Rel c.K c.mg c.xt G F' H' σ' ρ' → Dn c.K c.mg F' v d → Z.rt v H'
  | .ok (.ro d) ρ' => ∀ a σ' F' H', Same F F' → Rel c.K c.mg c.xt G F' H' σ' ρ' → Ow c.K c.mg G F' H' a d → (∀ (i : Nat) (e : D), ρ'[i]? = some (.ow e) → σ'[i]? ≠ some (some (.ref a))) → Z.rt (.ref a) H'
  | .err x ρ' => ∀ σ' F' H' cls d, Same F F' → Rel c.K c.mg c.xt G F' H' σ' ρ' → XRel c.mg c.K F' cls d x → W cls d σ' H'
  | .bad => False
def tS (c : Stat) (G : Ent) (W : WX) (m : M Fl) : TS := fun Z σ H => ∃ F ρ, Rel c.K c.mg c.xt G F H σ ρ ∧ PostS c G W F (m ρ) Z

def ED (c : Stat) (e : Expr) (m : M D) : Prop := ∀ G X W, Cz c X W → PE X e (tD c G W m)
def ET (c : Stat) (e : Expr) (m : M Bool) : Prop := ∀ G X W, Cz c X W → PT X e (tT c G W m)
def EA (c : Stat) (es : List Expr) (m : M (List D)) : Prop := ∀ G X W, Cz c X W → PA X es (tA c G W m)
def EO (c : Stat) (e : Option Expr) (m : M (Option Int)) : Prop := ∀ G X W, Cz c X W → PO X e (tO c G W m)
def EW (c : Stat) (e : Expr) (m : M Bool) : Prop := ∀ G X W, Cz c X W → PW X e (tT c G W m)
def PaOk (c : Stat) (G : Ent) : Prop := ∀ p ∈ G.pa, p.1 < c.np
def ES (c : Stat) (s : Stmt) (m : M Fl) : Prop := ∀ G X W, PaOk c G → Cz c X W → PS X s (tS c G W m)
def ESs (c : Stat) (ss : List Stmt) (m : M Fl) : Prop := ∀ G X W, PaOk c G → Cz c X W → PSs X ss (tS c G W m)

section
variable {c : Stat} {G : Ent} {W : WX} {σ : L2.St} {F F' H : Hp}
theorem Post.mono {α β : Type} {R : Hp → β → α → Prop} {o : Out α} {Q : β → Hp → Prop} (s : Same F F') (h : Post R c G W F σ o Q) : Post R c G W F' σ o Q := by
  cases o with
  | ok a ρ => exact fun b F2 H2 s2 => h b F2 H2 (s.trans s2)
  | err x ρ => exact fun F2 H2 cls d s2 => h F2 H2 cls d (s.trans s2)
  | bad => exact h
theorem PostS.mono {o : Out Fl} {Z : Ends} (s : Same F F') (h : PostS c G W F o Z) : PostS c G W F' o Z := by
  cases o with
  | ok a ρ =>
    cases a with
    | nx => exact fun σ2 F2 H2 s2 => h σ2 F2 H2 (s.trans s2)
    | bk => exact fun σ2 F2 H2 s2 => h σ2 F2 H2 (s.trans s2)
    | ct => exact fun σ2 F2 H2 s2 => h σ2 F2 H2 (s.trans s2)
    | rt d => exact fun v σ2 F2 H2 s2 => h v σ2 F2 H2 (s.trans s2)
    | ro d => exact fun v σ2 F2 H2 s2 => h v σ2 F2 H2 (s.trans s2)
  | err x ρ => exact fun σ2 F2 H2 cls d s2 => h σ2 F2 H2 cls d (s.trans s2)
  | bad => exact h
theorem tG_at {α β : Type} {R : Hp → β → α → Prop} {m : M α} {Q : β → Hp → Prop} {ρ : En} (r : Rel c.K c.mg c.xt G F H σ ρ) (h : Post R c G W F σ (m ρ) Q) : tG R c G W m σ H Q := ⟨F, ρ, r, h⟩
end
section
variable {X : Cx} {c : Stat} {G : Ent} {W : WX}
theorem pe_imp {e : Expr} {t t' : TE} (h : PE X e t) (i : ∀ σ H Q, t' σ H Q → t σ H Q) : PE X e t' := ⟨fun pins s σ H Q I q => h.run pins s σ H Q I (i _ _ _ q)⟩
theorem pt_imp {e : Expr} {t t' : TT} (h : PT X e t) (i : ∀ σ H Q, t' σ H Q → t σ H Q) : PT X e t' := ⟨fun pins s σ H Q I q => h.run pins s σ H Q I (i _ _ _ q)⟩
theorem pa_imp {e : List Expr} {t t' : TA} (h : PA X e t) (i : ∀ σ H Q, t' σ H Q → t σ H Q) : PA X e t' := ⟨fun pos pins s σ H Q I q => h.run pos pins s σ H Q I (i _ _ _ q)⟩
theorem po_imp {e : Option Expr} {t t' : TO} (h : PO X e t) (i : ∀ σ H Q, t' σ H Q → t σ H Q) : PO X e t' := ⟨fun pins s σ H Q I q => h.run pins s σ H Q I (i _ _ _ q)⟩
theorem pw_imp {e : Expr} {t t' : TT} (h : PW X e t) (i : ∀ σ H Q, t' σ H Q → t σ H Q) : PW X e t' := ⟨fun wh pins s σ H Q I q => h.run wh pins s σ H Q I (i _ _ _ q)⟩
theorem ps_imp {e : Stmt} {t t' : TS} (h : PS X e t) (i : ∀ D σ H, t' D σ H → t D σ H) : PS X e t' := ⟨fun pins s σ H D I q => h.run pins s σ H D I (i _ _ _ q)⟩
theorem pss_imp {e : List Stmt} {t t' : TS} (h : PSs X e t) (i : ∀ D σ H, t' D σ H → t D σ H) : PSs X e t' := ⟨fun pins s σ H D I q => h.run pins s σ H D I (i _ _ _ q)⟩
end
end DL

namespace DL
open PySem L2

/-! ### the words of the readings -/
def bnd {α β : Type} (m : M α) (f : α → M β) : M β := fun ρ => match m ρ with
  | .ok a ρ' => f a ρ'
  | .err x ρ' => .err x ρ'
  | .bad => .bad
def ret {α : Type} (a : α) : M α := fun ρ => .ok a ρ
def lift {α : Type} (o : Option α) : M α := fun ρ => match o with
  | some a => .ok a ρ
  | none => .bad
def v (i : Nat) : M D := fun ρ => match ρ[i]? with
  | some (.fz d) => .ok d ρ
  | _ => .bad
def cn (d : D) : M D := fun ρ => .ok d ρ
def op1 (r : D → Option D) (a : M D) : M D := bnd a fun x => lift (r x)
def op2 (r : D → D → Option D) (a b : M D) : M D := bnd a fun x => bnd b fun y => lift (r x y)
def args0 : M (List D) := ret []
def argc (a : M D) (r : M (List D)) : M (List D) := bnd a fun x => bnd r fun xs => ret (x :: xs)
def opL (r : List D → Option D) (a : M (List D)) : M D := bnd a fun xs => lift (r xs)
def opM (r : D → List D → Option D) (o : M D) (a : M (List D)) : M D := bnd o fun x => bnd a fun xs => lift (r x xs)

/-! ### how values answer data -/
section
variable (c : Stat)
/-- behind an operation: d at v, new things beside -/
def After (F H : Hp) (d : D) (Q : VK) : Prop := ∀ v F' H', Ext F H F' H' → Dn c.K c.mg F' v d → Q v H'
def R1ok (rV : V → Hp → VK → Prop) (r : D → Option D) : Prop := ∀ F H x dx d Q, Same F H → Dn c.K c.mg F x dx → r dx = some d → After c F H d Q → rV x H Q
def R2ok (rV : R2) (r : D → D → Option D) : Prop := ∀ F H x y dx dy d Q, Same F H → Dn c.K c.mg F x dx → Dn c.K c.mg F y dy → r dx dy = some d → After c F H d Q → rV x y H Q
def RLok (rV : List V → Hp → VK → Prop) (r : List D → Option D) : Prop := ∀ F H xs ds d Q, Same F H → Dns c.K c.mg F xs ds → r ds = some d → After c F H d Q → rV xs H Q
def BOp (op : Operator) (r : D → D → Option D) : Prop := ∀ X W, Cz c X W → ∃ rV, OpR X (binaryOp op) rV ∧ R2ok c rV r
def COp (op : CmpOp) (r : D → D → Option D) : Prop := ∀ X W, Cz c X W → ∃ rV, OpR X (compareOp op) rV ∧ R2ok c rV r
def UOp (op : UnaryOp) (r : D → Option D) : Prop := ∀ X W, Cz c X W → ∃ rV, UnR X (unaryOp op) rV ∧ R1ok c rV r
def BCl (f : Value) (r : List D → Option D) : Prop := ∀ X W, Cz c X W → ∃ rV, CallR X f rV ∧ RLok c rV r
end

section
variable {c : Stat}
theorem After.here {F H : Hp} {d : D} {Q : VK} {x : V} (e : Same F H) (h : After c F H d Q) (r : Dn c.K c.mg F x d) : Q x H := h x F H (Ext.refl e) r
theorem After.new {F H : Hp} {d : D} {Q : VK} {p : Addr} {o : HO} (e : Same F H) (h : After c F H d Q) (hp : H p = none) (r : Dn c.K c.mg (upd F p o) (.ref p) d) : Q (.ref p) (upd H p o) := h _ _ _ (Ext.new e hp) r

section
variable {G : Ent} {W : WX} {σ : L2.St} {H : Hp}
/-- a part, then what is done with its value -/
theorem tG_bind {α β α2 β2 : Type} {R : Hp → β → α → Prop} {R2 : Hp → β2 → α2 → Prop} {m : M α} {f : α → M α2} {k : β → Hp → Prop} {Q : β2 → Hp → Prop} {F : Hp} {ρ : En} (r : Rel c.K c.mg c.xt G F H σ ρ) (h : Post R2 c G W F σ (bnd m f ρ) Q)
    (hk : ∀ F' H1 ρ' b a, Same F F' → Rel c.K c.mg c.xt G F' H1 σ ρ' → R F' b a → Post R2 c G W F' σ (f a ρ') Q → k b H1) : tG R c G W m σ H k := by
  refine ⟨F, ρ, r, ?_⟩
  unfold bnd at h
  cases e : m ρ with
  | bad => rw [e] at h; exact h
  | err x ρ' => rw [e] at h; exact h
  | ok a ρ' =>
    rw [e] at h
    exact fun b F' H' s r' rb => hk F' H' ρ' b a s r' rb (Post.mono s h)
theorem tG_bindS {α β : Type} {R : Hp → β → α → Prop} {m : M α} {f : α → M Fl} {k : β → Hp → Prop} {Z : Ends} {F : Hp} {ρ : En} (r : Rel c.K c.mg c.xt G F H σ ρ) (h : PostS c G W F (bnd m f ρ) Z)
    (hk : ∀ F' H1 ρ' b a, Same F F' → Rel c.K c.mg c.xt G F' H1 σ ρ' → R F' b a → PostS c G W F' (f a ρ') Z → k b H1) : tG R c G W m σ H k := by
  refine ⟨F, ρ, r, ?_⟩
  unfold bnd at h
  cases e : m ρ with
  | bad => rw [e] at h; exact h
  | err x ρ' => rw [e] at h; exact fun F2 H2 cls d s2 r2 x2 => h σ F2 H2 cls d s2 r2 x2
  | ok a ρ' =>
    rw [e] at h
    exact fun b F' H' s r' rb => hk F' H' ρ' b a s r' rb (PostS.mono s h)
/-- the end: an operation gives d -/
theorem Post.lift {F : Hp} {ρ : En} {o : Option D} {Q : VK} (r : Rel c.K c.mg c.xt G F H σ ρ) (h : Post (Dn c.K c.mg) c G W F σ (lift o ρ) Q) : ∃ d, o = some d ∧ After c F H d Q := by
  cases o with
  | none => exact h.elim
  | some d => exact ⟨d, rfl, fun v F' H' ex rv => h v F' H' ex.ff (r.ext ex) rv⟩
end

/-! ### plain expressions -/
theorem ed_const {e : Expr} {d : D} {w : V} (h : ∀ X, PE X e (tC w)) (r : ∀ F, Dn c.K c.mg F w d) : ED c e (cn d) := fun G X W z => pe_imp (h X) fun σ H Q ⟨F, ρ, R, q⟩ => q w F H (Same.refl _) R (r F)
theorem ed_int {i : Int} {j pos} : ED c (.Constant (.int i) j pos) (cn (.int i)) := ed_const (fun _ => pe_int) fun _ => .int i
theorem ed_bl {b : Bool} {j pos} : ED c (.Constant (.bool b) j pos) (cn (.bl b)) := ed_const (fun _ => pe_bl) fun _ => .bl b
theorem ed_non {j pos} : ED c (.Constant .none j pos) (cn .non) := ed_const (fun _ => pe_non) fun _ => .non
theorem ed_str {x : Str} {cs : Cs} {j pos} (e : x = toS cs := by rfl) (h : okS cs := by decide) : ED c (.Constant (.str x) j pos) (cn (.str cs)) := by
  subst e
  exact ed_const (fun _ => pe_str) fun _ => .str cs h
/-- every name of the list is the def's own -/
def NmAll (c : Stat) : Prop := ∀ (i : Nat) (x : Str), c.N[i]? = some x → Vis c.sc x → (x == ("__debug__" : Str)) = false ∧ (x == ("__classdict__" : Str)) = false
theorem ed_var {i : Nat} {x : Str} {pos : Pos} (hN : c.N[i]? = some x) (hv : Vis c.sc x) (hd : (x == ("__debug__" : Str)) = false := by decide) (hcd : (x == ("__classdict__" : Str)) = false := by decide) : ED c (.Name x pos) (v i) := fun G X W z => by
  refine pe_imp (pe_var (i := i) (by rw [z.N]; exact hN) (by rw [z.sc]; exact hv) hd hcd) fun σ H Q ⟨F, ρ, R, q⟩ => ?_
  unfold v at q
  cases e : ρ[i]? with
  | none => rw [e] at q; exact q.elim
  | some s =>
    cases s with
    | un => rw [e] at q; exact q.elim
    | xc d => rw [e] at q; exact q.elim
    | ow d => rw [e] at q; exact q.elim
    | fz d =>
      rw [e] at q
      obtain ⟨v, h1, h2⟩ := R.fz i d e
      exact ⟨v, h1, q v F H (Same.refl _) R h2⟩
theorem ed_op2 {e a b : Expr} {f g : M D} {r : D → D → Option D} (ha : ED c a f) (hb : ED c b g)
    (h : ∀ X W, Cz c X W → ∃ rV, R2ok c rV r ∧ ∀ ta tb, PE X a ta → PE X b tb → PE X e (tOp rV ta tb)) : ED c e (op2 r f g) := fun G X W z => by
  obtain ⟨rV, ok, hp⟩ := h X W z
  refine pe_imp (hp _ _ (ha G X W z) (hb G X W z)) fun σ H Q ⟨F, ρ, R, q⟩ => ?_
  refine tG_bind R q fun F1 H1 ρ1 x dx s1 R1 rx q1 => ?_
  refine tG_bind R1 q1 fun F2 H2 ρ2 y dy s2 R2 ry q2 => ?_
  obtain ⟨d, e, af⟩ := q2.lift R2
  exact ok F2 H2 x y dx dy d Q R2.fh (rx.mono s2) ry e af
theorem ed_op1 {e a : Expr} {f : M D} {r : D → Option D} (ha : ED c a f)
    (h : ∀ X W, Cz c X W → ∃ rV, R1ok c rV r ∧ ∀ ta, PE X a ta → PE X e (tUn rV ta)) : ED c e (op1 r f) := fun G X W z => by
  obtain ⟨rV, ok, hp⟩ := h X W z
  refine pe_imp (hp _ (ha G X W z)) fun σ H Q ⟨F, ρ, R, q⟩ => ?_
  refine tG_bind R q fun F1 H1 ρ1 x dx s1 R1 rx q1 => ?_
  obtain ⟨d, e, af⟩ := q1.lift R1
  exact ok F1 H1 x dx d Q R1.fh rx e af
theorem ed_bin {op : Operator} {r : D → D → Option D} {a b : Expr} {f g : M D} {pos : Pos} (h : BOp c op r) (ha : ED c a f) (hb : ED c b g) : ED c (.BinOp a op b pos) (op2 r f g) :=
  ed_op2 ha hb fun X W z => let ⟨rV, o, k⟩ := h X W z; ⟨rV, k, fun _ _ pa pb => pe_op o pa pb⟩
theorem ed_cmp {op : CmpOp} {r : D → D → Option D} {a b : Expr} {f g : M D} {pos : Pos} (h : COp c op r) (ha : ED c a f) (hb : ED c b g) (hm : behindInMarks op b = false) : ED c (.Compare a [op] [b] pos) (op2 r f g) :=
  ed_op2 ha hb fun X W z => let ⟨rV, o, k⟩ := h X W z; ⟨rV, k, fun _ _ pa pb => pe_cmpR o pa pb hm⟩
theorem ed_un {op : UnaryOp} {r : D → Option D} {a : Expr} {f : M D} {pos : Pos} (h : UOp c op r) (ha : ED c a f) : ED c (.UnaryOp op a pos) (op1 r f) :=
  ed_op1 ha fun X W z => let ⟨rV, o, k⟩ := h X W z; ⟨rV, k, fun _ pa => pe_un o pa⟩

/-! ### arguments, displays -/
theorem ea_nil : EA c [] args0 := fun G X W z => pa_imp pa_nil fun σ H Q ⟨F, ρ, R, q⟩ => q [] F H (Same.refl _) R .nil
theorem ea_cons {e : Expr} {es : List Expr} {f : M D} {g : M (List D)} (ha : ED c e f) (hr : EA c es g) (hs : ∀ env, starEach (e :: es) env = (false, eval e env) :: starEach es env := by intro _; rfl) : EA c (e :: es) (argc f g) := fun G X W z => by
  refine pa_imp (pa_cons (ha G X W z) (hr G X W z) (hs _)) fun σ H Q ⟨F, ρ, R, q⟩ => ?_
  refine tG_bind R q fun F1 H1 ρ1 x dx s1 R1 rx q1 => ?_
  refine tG_bind R1 q1 fun F2 H2 ρ2 xs ds s2 R2 rxs q2 => ?_
  exact q2 (x :: xs) F2 H2 (Same.refl _) R2 (.cons (rx.mono s2) rxs)
theorem ed_opL {e : Expr} {es : List Expr} {f : M (List D)} {r : List D → Option D} (ha : EA c es f)
    (h : ∀ X W, Cz c X W → ∃ rV, RLok c rV r ∧ ∀ ta, PA X es ta → PE X e (tCB rV ta)) : ED c e (opL r f) := fun G X W z => by
  obtain ⟨rV, ok, hp⟩ := h X W z
  refine pe_imp (hp _ (ha G X W z)) fun σ H Q ⟨F, ρ, R, q⟩ => ?_
  refine tG_bind R q fun F1 H1 ρ1 x dx s1 R1 rx q1 => ?_
  obtain ⟨d, e, af⟩ := q1.lift R1
  exact ok F1 H1 x dx d Q R1.fh rx e af
theorem sz_eq : sizeLine = sz := sizeLine_eq
def mkT (xs : List D) : Option D := if xs.length ≤ sz then some (.tup xs) else none
def mkL (xs : List D) : Option D := if xs.length ≤ sz then some (.lst xs) else none
theorem dn_tup {F : Hp} {p : Addr} {vs : List V} {ds : List D} (hp : F p = none) (r : Dns c.K c.mg F vs ds) (hl : ds.length ≤ sz) : Dn c.K c.mg (upd F p (.tup vs)) (.ref p) (.tup ds) :=
  .tup (.inl (.inl upd_same)) (r.mono fun a o e => by rw [upd_ne (ne_of_none e hp)]; exact e) hl
theorem dn_lst {F : Hp} {p : Addr} {vs : List V} {ds : List D} (hp : F p = none) (r : Dns c.K c.mg F vs ds) (hl : ds.length ≤ sz) : Dn c.K c.mg (upd F p (.lst vs)) (.ref p) (.lst ds) :=
  .lst (.inl upd_same) (r.mono fun a o e => by rw [upd_ne (ne_of_none e hp)]; exact e) hl
theorem after_tup {F H : Hp} {p : Addr} {vs : List V} {ds : List D} {Q : VK} (e : Same F H) (h : After c F H (.tup ds) Q) (hp : H p = none) (r : Dns c.K c.mg F vs ds) (hl : ds.length ≤ sz) : Q (.ref p) (upd H p (.tup vs)) := h.new e hp (dn_tup (e.free hp) r hl)
theorem after_lst {F H : Hp} {p : Addr} {vs : List V} {ds : List D} {Q : VK} (e : Same F H) (h : After c F H (.lst ds) Q) (hp : H p = none) (r : Dns c.K c.mg F vs ds) (hl : ds.length ≤ sz) : Q (.ref p) (upd H p (.lst vs)) := h.new e hp (dn_lst (e.free hp) r hl)
theorem ed_tup {es : List Expr} {f : M (List D)} {x1 pos} (ha : EA c es f) : ED c (.Tuple es x1 pos) (opL mkT f) := by
  refine ed_opL ha fun X W z => ⟨fun xs H Q => xs.length ≤ sizeLine ∧ ∀ p, H p = none → Q (.ref p) (upd H p (.tup xs)), ?_, fun ta h => pe_tup h⟩
  intro F H xs ds d Q s r e a
  unfold mkT at e
  split at e
  · rename_i hl
    cases e
    exact ⟨by rw [sz_eq, r.length]; exact hl, fun p hp => after_tup s a hp r hl⟩
  · cases e
theorem ed_lst {es : List Expr} {f : M (List D)} {pos} (ha : EA c es f) : ED c (.List es pos) (opL mkL f) := by
  refine ed_opL ha fun X W z => ⟨fun xs H Q => xs.length ≤ sizeLine ∧ ∀ p, H p = none → Q (.ref p) (upd H p (.lst xs)), ?_, fun ta h => pe_lst h⟩
  intro F H xs ds d Q s r e a
  unfold mkL at e
  split at e
  · rename_i hl
    cases e
    exact ⟨by rw [sz_eq, r.length]; exact hl, fun p hp => after_lst s a hp r hl⟩
  · cases e
/-- a built-in by its name -/
def Gn (c : Stat) (x : Str) : Prop := c.sc.names.lookup x = some .globalImplicit
theorem Gn.gl {X : Cx} {W : WX} {x : Str} (h : Gn c x) (z : Cz c X W) : Gl X x := by
  show X.env.scope.names.lookup x = _
  rw [z.sc]; exact h
theorem ed_callB {id : String} {x : Str} {p pos : Pos} {e : Expr} {es : List Expr} {f : M (List D)} {r : List D → Option D} (h : BCl c (.builtin id) r) (hg : Gn c x) (hm : c.mg x = none) (hv : bootBuiltins x = some (.builtin id)) (ha : EA c (e :: es) f)
    (hn : x ≠ "__name__" := by decide) (hdb : (x == ("__debug__" : Str)) = false := by decide) (he : ∀ env, starEach (e :: es) env = (false, eval e env) :: starEach es env := by intro _; rfl) (hpl : ∀ env, (backTo pos (starEach es env)).any (·.1) = false := by intro _; rfl) :
    ED c (.Call (.Name x p) (e :: es) [] pos) (opL r f) :=
  ed_opL ha fun X W z => let ⟨rV, o, k⟩ := h X W z; ⟨rV, k, fun _ pa => pe_callB o (hg.gl z) (by rw [z.mg]; exact hm) hv pa hn hdb (he _) (hpl _)⟩
theorem ed_callTy {T : String} {x : Str} {p pos : Pos} {e : Expr} {es : List Expr} {f : M (List D)} {r : List D → Option D} (h : BCl c (.type T) r) (hg : Gn c x) (hm : c.mg x = none) (hv : bootBuiltins x = some (.type T)) (ha : EA c (e :: es) f)
    (hn : x ≠ "__name__" := by decide) (hdb : (x == ("__debug__" : Str)) = false := by decide) (he : ∀ env, starEach (e :: es) env = (false, eval e env) :: starEach es env := by intro _; rfl) (hpl : ∀ env, (backTo pos (starEach es env)).any (·.1) = false := by intro _; rfl) :
    ED c (.Call (.Name x p) (e :: es) [] pos) (opL r f) :=
  ed_opL ha fun X W z => let ⟨rV, o, k⟩ := h X W z; ⟨rV, k, fun _ pa => pe_callTy o (hg.gl z) (by rw [z.mg]; exact hm) hv pa hn hdb (he _) (hpl _)⟩
end
end DL

namespace DL
open PySem L2
section
variable {c : Stat}
/-! ### what data is pure, and equality -/
mutual
def isP : D → Bool
  | .non => true | .bl _ => true | .int _ => true | .str _ => true
  | .tup xs => isPs xs | .lst xs => isPs xs
  | .dct _ => false | .ins _ _ => false | .gl _ => false | .ty _ => false
def isPs : List D → Bool
  | [] => true
  | x :: xs => isP x && isPs xs
end
mutual
def py : D → PyData
  | .non => .none | .bl b => .bool b | .int i => .int i | .str cs => .str (toS cs)
  | .tup xs => .tuple (pys xs) | .lst xs => .list (pys xs)
  | .dct _ => .none | .ins _ _ => .none | .gl _ => .none | .ty _ => .none
def pys : List D → List PyData
  | [] => []
  | x :: xs => py x :: pys xs
end
mutual
def dep : D → Nat
  | .tup xs => deps xs + 1 | .lst xs => deps xs + 1
  | .non => 0 | .bl _ => 0 | .int _ => 0 | .str _ => 0
  | .dct _ => 0 | .ins _ _ => 0 | .gl _ => 0 | .ty _ => 0
def deps : List D → Nat
  | [] => 0
  | x :: xs => max (dep x) (deps xs)
end
mutual
def deq : D → D → Bool
  | .non, .non => true
  | .bl a, .bl b => a == b
  | .bl a, .int j => (if a then 1 else 0) == j
  | .int i, .bl b => i == (if b then 1 else 0)
  | .int i, .int j => i == j
  | .str x, .str y => x == y
  | .lst xs, .lst ys => deqs xs ys
  | .tup xs, .tup ys => deqs xs ys
  | _, _ => false
def deqs : List D → List D → Bool
  | [], [] => true
  | x :: xs, y :: ys => deq x y && deqs xs ys
  | _, _ => false
end
mutual
theorem dep_py : ∀ d : D, (py d).depth = dep d
  | .non => by simp [py, dep, PyData.depth] | .bl _ => by simp [py, dep, PyData.depth] | .int _ => by simp [py, dep, PyData.depth] | .str _ => by simp [py, dep, PyData.depth]
  | .tup xs => by simp [py, dep, PyData.depth, deps_pys xs] | .lst xs => by simp [py, dep, PyData.depth, deps_pys xs]
  | .dct _ => by simp [py, dep, PyData.depth] | .ins _ _ => by simp [py, dep, PyData.depth] | .gl _ => by simp [py, dep, PyData.depth] | .ty _ => by simp [py, dep, PyData.depth]
theorem deps_pys : ∀ d : List D, PyData.depthAll (pys d) = deps d
  | [] => by simp [pys, deps, PyData.depthAll]
  | x :: xs => by simp [pys, deps, PyData.depthAll, dep_py x, deps_pys xs]
end
theorem toS_beq (a b : Cs) : (toS a == toS b) = (a == b) := by
  by_cases h : a = b
  · subst h; simp
  · have : toS a ≠ toS b := fun e => h (toS_inj e)
    rw [beq_eq_false_iff_ne.mpr this, beq_eq_false_iff_ne.mpr h]
mutual
theorem eqv_py : ∀ a b : D, isP a = true → isP b = true → PyData.eqv (py a) (py b) = deq a b
  | .tup xs, .tup ys, h, k => by simp only [py, deq, PyData.eqv]; exact eqvs_py xs ys (by simpa [isP] using h) (by simpa [isP] using k)
  | .lst xs, .lst ys, h, k => by simp only [py, deq, PyData.eqv]; exact eqvs_py xs ys (by simpa [isP] using h) (by simpa [isP] using k)
  | .str x, .str y, _, _ => by simp only [py, deq, PyData.eqv]; exact toS_beq x y
  | .non, b, h, k => by cases b <;> simp_all [py, deq, PyData.eqv, isP]
  | .bl _, b, h, k => by cases b <;> simp_all [py, deq, PyData.eqv, isP]
  | .int _, b, h, k => by cases b <;> simp_all [py, deq, PyData.eqv, isP]
  | .str _, .non, h, k => by simp [py, deq, PyData.eqv]
  | .str _, .bl _, h, k => by simp [py, deq, PyData.eqv]
  | .str _, .int _, h, k => by simp [py, deq, PyData.eqv]
  | .str _, .tup _, h, k => by simp [py, deq, PyData.eqv]
  | .str _, .lst _, h, k => by simp [py, deq, PyData.eqv]
  | .str _, .dct _, h, k => by simp [isP] at k
  | .str _, .ins _ _, h, k => by simp [isP] at k
  | .str _, .gl _, h, k => by simp [isP] at k
  | .str _, .ty _, h, k => by simp [isP] at k
  | .tup _, .non, h, k => by simp [py, deq, PyData.eqv]
  | .tup _, .bl _, h, k => by simp [py, deq, PyData.eqv]
  | .tup _, .int _, h, k => by simp [py, deq, PyData.eqv]
  | .tup _, .str _, h, k => by simp [py, deq, PyData.eqv]
  | .tup _, .lst _, h, k => by simp [py, deq, PyData.eqv]
  | .tup _, .dct _, h, k => by simp [isP] at k
  | .tup _, .ins _ _, h, k => by simp [isP] at k
  | .tup _, .gl _, h, k => by simp [isP] at k
  | .tup _, .ty _, h, k => by simp [isP] at k
  | .lst _, .non, h, k => by simp [py, deq, PyData.eqv]
  | .lst _, .bl _, h, k => by simp [py, deq, PyData.eqv]
  | .lst _, .int _, h, k => by simp [py, deq, PyData.eqv]
  | .lst _, .str _, h, k => by simp [py, deq, PyData.eqv]
  | .lst _, .tup _, h, k => by simp [py, deq, PyData.eqv]
  | .lst _, .dct _, h, k => by simp [isP] at k
  | .lst _, .ins _ _, h, k => by simp [isP] at k
  | .lst _, .gl _, h, k => by simp [isP] at k
  | .lst _, .ty _, h, k => by simp [isP] at k
  | .dct _, _, h, _ => by simp [isP] at h
  | .ins _ _, _, h, _ => by simp [isP] at h
  | .gl _, _, h, _ => by simp [isP] at h
  | .ty _, _, h, _ => by simp [isP] at h
theorem eqvs_py : ∀ a b : List D, isPs a = true → isPs b = true → PyData.eqvAll (pys a) (pys b) = deqs a b
  | [], [], _, _ => by simp [pys, deqs, PyData.eqvAll]
  | [], _ :: _, _, _ => by simp [pys, deqs, PyData.eqvAll]
  | _ :: _, [], _, _ => by simp [pys, deqs, PyData.eqvAll]
  | x :: xs, y :: ys, h, k => by
    have h' : isP x = true ∧ isPs xs = true := by simpa [isPs] using h
    have k' : isP y = true ∧ isPs ys = true := by simpa [isPs] using k
    simp only [pys, deqs, PyData.eqvAll]
    rw [eqv_py x y h'.1 k'.1, eqvs_py xs ys h'.2 k'.2]
end
mutual
theorem Dn.dp {K : PySem.W.Frag} {mg : Str → Option Value} {F H : Hp} (e : Same F H) : ∀ {v : V} {d : D}, Dn K mg F v d → isP d = true → Dp K H v (py d)
  | _, _, .non, _ => by simp only [py]; exact .non
  | _, _, .bl b, _ => by simp only [py]; exact .bl b
  | _, _, .int i, _ => by simp only [py]; exact .int i
  | _, _, .str cs h, _ => by simp only [py]; exact .str _
  | _, _, .ty n, h => by simp [isP] at h
  | _, _, .gl _, h => by simp [isP] at h
  | _, _, .tup h r _, k => by simp only [py]; exact .tup (same_t e h) (r.dp e (by simpa [isP] using k))
  | _, _, .lst h r _, k => by simp only [py]; exact .lst (.inl (same_rd e h)) (r.dp e (by simpa [isP] using k))
  | _, _, .dct _ _ _, h => by simp [isP] at h
  | _, _, .ins _ _ _, h => by simp [isP] at h
theorem Dns.dp {K : PySem.W.Frag} {mg : Str → Option Value} {F H : Hp} (e : Same F H) : ∀ {v : List V} {d : List D}, Dns K mg F v d → isPs d = true → DpAll K H v (pys d)
  | _, _, .nil, _ => by simp only [pys]; exact .nil
  | _, _, .cons h r, k => by
    have k' := k
    simp only [isPs, Bool.and_eq_true] at k'
    simp only [pys]
    exact .cons (h.dp e k'.1) (r.dp e k'.2)
end
theorem okS_strOk {cs : Cs} (h : okS cs) : PyData.strOk (toS cs) = true := by
  unfold PyData.strOk toS
  simp only [List.all_toArray, List.all_eq_true, decide_eq_true_eq]
  exact h.2
mutual
theorem Dn.lay {K : PySem.W.Frag} {mg : Str → Option Value} {F : Hp} : ∀ {v : V} {d : D}, Dn K mg F v d → isP d = true → (py d).canLay0 = true
  | _, _, .non, _ => by simp [py, PyData.canLay0]
  | _, _, .bl b, _ => by simp [py, PyData.canLay0]
  | _, _, .int i, _ => by simp [py, PyData.canLay0]
  | _, _, .str cs h, _ => by simp only [py, PyData.canLay0]; exact okS_strOk h
  | _, _, .ty n, h => by simp [isP] at h
  | _, _, .gl _, h => by simp [isP] at h
  | _, _, .tup h r _, k => by simp only [py, PyData.canLay0]; exact r.lay (by simpa [isP] using k)
  | _, _, .lst h r _, k => by simp only [py, PyData.canLay0]; exact r.lay (by simpa [isP] using k)
  | _, _, .dct _ _ _, h => by simp [isP] at h
  | _, _, .ins _ _ _, h => by simp [isP] at h
theorem Dns.lay {K : PySem.W.Frag} {mg : Str → Option Value} {F : Hp} : ∀ {v : List V} {d : List D}, Dns K mg F v d → isPs d = true → PyData.canLayAll0 (pys d) = true
  | _, _, .nil, _ => by simp [pys, PyData.canLayAll0]
  | _, _, .cons h r, k => by
    have k' := k
    simp only [isPs, Bool.and_eq_true] at k'
    simp only [pys, PyData.canLayAll0, h.lay k'.1, r.lay k'.2, Bool.and_self]
end
def dEq (x y : D) : Option D := if isP x && isP y && decide (min (dep x) (dep y) ≤ 64) then some (.bl (deq x y)) else none
def dNe (x y : D) : Option D := if isP x && isP y && decide (min (dep x) (dep y) ≤ 64) then some (.bl (!deq x y)) else none
def rEqM (c : Stat) (b : Bool) : R2 := fun x y H Q => ∃ F dx dy, Same F H ∧ Dn c.K c.mg F x dx ∧ Dn c.K c.mg F y dy ∧ isP dx = true ∧ isP dy = true ∧ min (dep dx) (dep dy) ≤ 64 ∧ Q (.bl (if b then deq dx dy else !deq dx dy)) H
theorem op_eqM {X : Cx} {W : WX} (z : Cz c X W) : OpR X (compareOp .Eq) (rEqM c true) := by
  intro pins s σ H x y v u Q I rx ry ⟨F, dx, dy, e, hx, hy, px, py', hd, q⟩
  have hx' : Dp X.K H x (py dx) := by rw [z.K]; exact hx.dp e px
  have hy' : Dp X.K H y (py dy) := by rw [z.K]; exact hy.dp e py'
  obtain ⟨as, r1⟩ := Dp.reads I _ x v hx' rx
  obtain ⟨bs, r2⟩ := Dp.reads I _ y u hy' ry
  have hu := z.room.units
  refine SeqAt.compareEq_reads r1 r2 (hx.lay px) (hy.lay py') (by rw [dep_py, dep_py]; omega) ⟨.bl _, H, I, rfl, ?_⟩
  rw [eqv_py _ _ px py']
  exact q
theorem op_neM {X : Cx} {W : WX} (z : Cz c X W) : OpR X (compareOp .NotEq) (rEqM c false) := by
  intro pins s σ H x y v u Q I rx ry ⟨F, dx, dy, e, hx, hy, px, py', hd, q⟩
  have hx' : Dp X.K H x (py dx) := by rw [z.K]; exact hx.dp e px
  have hy' : Dp X.K H y (py dy) := by rw [z.K]; exact hy.dp e py'
  obtain ⟨as, r1⟩ := Dp.reads I _ x v hx' rx
  obtain ⟨bs, r2⟩ := Dp.reads I _ y u hy' ry
  have hu := z.room.units
  refine SeqAt.compareNe_reads r1 r2 (hx.lay px) (hy.lay py') (by rw [dep_py, dep_py]; omega) ⟨.bl _, H, I, rfl, ?_⟩
  rw [eqv_py _ _ px py']
  exact q
theorem c_eq : COp c .Eq dEq := fun X W z => ⟨_, op_eqM z, fun F H x y dx dy d Q e hx hy h a => by
  unfold dEq at h
  split at h
  · rename_i k
    simp only [Bool.and_eq_true, decide_eq_true_eq] at k
    cases h
    exact ⟨F, dx, dy, e, hx, hy, k.1.1, k.1.2, k.2, a.here e (.bl _)⟩
  · cases h⟩
theorem c_ne : COp c .NotEq dNe := fun X W z => ⟨_, op_neM z, fun F H x y dx dy d Q e hx hy h a => by
  unfold dNe at h
  split at h
  · rename_i k
    simp only [Bool.and_eq_true, decide_eq_true_eq] at k
    cases h
    exact ⟨F, dx, dy, e, hx, hy, k.1.1, k.1.2, k.2, a.here e (.bl _)⟩
  · cases h⟩

/-! ### numbers, texts -/
def dSub : D → D → Option D
  | .int i, .int j => some (.int (i - j))
  | _, _ => none
def dMod : D → D → Option D
  | .int i, .int j => if 0 < j then some (.int (i % j)) else none
  | _, _ => none
def dFdv : D → D → Option D
  | .int i, .int j => if 0 < j ∧ j.natAbs.log2 < 9000 then some (.int (i / j)) else none
  | _, _ => none
def dPow : D → D → Option D
  | .int i, .int j => if 0 ≤ j ∧ j ≤ 1000000 ∧ i.natAbs < 2 ^ 64 then some (.int (i ^ j.toNat)) else none
  | _, _ => none
theorem r2_int {C : Int → Int → Prop} [∀ i j, Decidable (C i j)] {g : Int → Int → D} {gV : Int → Int → V} {r : D → D → Option D} (hr : ∀ x y d, r x y = some d → ∃ i j, x = .int i ∧ y = .int j ∧ C i j ∧ d = g i j) (hg : ∀ F i j, Dn c.K c.mg F (gV i j) (g i j)) : R2ok c (rI C gV) r := by
  intro F H x y dx dy d Q e hx hy h a
  obtain ⟨i, j, rfl, rfl, hc, rfl⟩ := hr _ _ _ h
  cases hx; cases hy
  exact ⟨i, j, rfl, rfl, hc, a.here e (hg F i j)⟩
theorem r2_int0 {g : Int → Int → D} {gV : Int → Int → V} {r : D → D → Option D} (hr : ∀ x y d, r x y = some d → ∃ i j, x = .int i ∧ y = .int j ∧ d = g i j) (hg : ∀ F i j, Dn c.K c.mg F (gV i j) (g i j)) : R2ok c (rI0 gV) r := by
  intro F H x y dx dy d Q e hx hy h a
  obtain ⟨i, j, rfl, rfl, rfl⟩ := hr _ _ _ h
  cases hx; cases hy
  exact ⟨i, j, rfl, rfl, a.here e (hg F i j)⟩
theorem b_sub : BOp c .Sub dSub := fun X W z => ⟨_, op_sub, r2_int0 (g := fun i j => .int (i - j)) (fun x y d h => by
  cases x <;> cases y <;> simp [dSub] at h
  exact ⟨_, _, rfl, rfl, h.symm⟩) fun F i j => .int _⟩
theorem b_mod : BOp c .Mod dMod := fun X W z => ⟨_, op_mod, r2_int (g := fun i j => .int (i % j)) (fun x y d h => by
  cases x <;> cases y <;> simp [dMod] at h
  exact ⟨_, _, rfl, rfl, h.1, h.2.symm⟩) fun F i j => .int _⟩
theorem b_fdv : BOp c .FloorDiv dFdv := fun X W z => ⟨_, op_fdivW, fun F H x y dx dy d Q e hx hy h a => by
  cases dx <;> cases dy <;> simp [dFdv] at h
  cases hx; cases hy
  obtain ⟨⟨h1, h2⟩, rfl⟩ := h
  exact ⟨_, _, rfl, rfl, ⟨h1, h2⟩, a.here e (.int _)⟩⟩
theorem b_pow : BOp c .Pow dPow := fun X W z => ⟨_, op_pow, fun F H x y dx dy d Q e hx hy h a => by
  cases dx <;> cases dy <;> simp only [dPow] at h <;> try cases h
  split at h
  · rename_i k
    cases hx; cases hy; cases h
    exact ⟨_, _, rfl, rfl, ⟨k.1, k.2.1, k.2.2⟩, a.here e (.int _)⟩
  · cases h⟩
def dNeg : D → Option D
  | .int i => some (.int (-i))
  | _ => none
theorem u_neg : UOp c .USub dNeg := fun X W z => ⟨_, un_neg, fun F H x dx d Q e hx h a => by
  cases dx <;> simp [dNeg] at h
  cases hx
  subst h
  exact ⟨_, rfl, a.here e (.int _)⟩⟩
theorem OpR.or3 {X : Cx} {f : Value → Value → Sem Value} {r1 r2 r3 : R2} (h1 : OpR X f r1) (h2 : OpR X f r2) (h3 : OpR X f r3) : OpR X f (fun x y H Q => r1 x y H Q ∨ r2 x y H Q ∨ r3 x y H Q) := OpR.or h1 (OpR.or h2 h3)
def dLt : D → D → Option D
  | .int i, .int j => some (.bl (decide (i < j)))
  | .str a, .str b => some (.bl (decide (a < b)))
  | _, _ => none
def dLe : D → D → Option D
  | .int i, .int j => some (.bl (decide (i ≤ j)))
  | .str a, .str b => some (.bl (!decide (b < a)))
  | _, _ => none
def dGt : D → D → Option D
  | .int i, .int j => some (.bl (decide (j < i)))
  | .str a, .str b => some (.bl (decide (b < a)))
  | _, _ => none
def dGe : D → D → Option D
  | .int i, .int j => some (.bl (decide (j ≤ i)))
  | .str a, .str b => some (.bl (!decide (a < b)))
  | _, _ => none
theorem c_ord {op : CmpOp} {r : D → D → Option D} {p : Int → Int → Bool} {q : Cs → Cs → Bool} (hr : ∀ x y d, r x y = some d → (∃ i j, x = .int i ∧ y = .int j ∧ d = .bl (p i j)) ∨ ∃ a b, x = .str a ∧ y = .str b ∧ d = .bl (q a b))
    (h1 : ∀ X, OpR X (compareOp op) (rI0 fun i j => .bl (p i j))) (h2 : ∀ X, OpR X (compareOp op) (fun x y H Q => ∃ i j, x = .str i ∧ y = .str j ∧ Q (.bl (q i.cps.toList j.cps.toList)) H)) : COp c op r := fun X W z => ⟨_, OpR.or (h1 X) (h2 X), fun F H x y dx dy d Q e hx hy h a => by
  rcases hr _ _ _ h with ⟨i, j, rfl, rfl, rfl⟩ | ⟨a', b', rfl, rfl, rfl⟩
  · cases hx; cases hy
    exact .inl ⟨i, j, rfl, rfl, a.here e (.bl _)⟩
  · cases hx; cases hy
    exact .inr ⟨_, _, rfl, rfl, by rw [toS_cps, toS_cps]; exact a.here e (.bl _)⟩⟩
theorem c_lt : COp c .Lt dLt := c_ord (p := fun i j => decide (i < j)) (q := fun a b => decide (a < b)) (fun x y d h => by
  cases x <;> cases y <;> simp [dLt] at h
  · exact .inl ⟨_, _, rfl, rfl, h.symm⟩
  · exact .inr ⟨_, _, rfl, rfl, h.symm⟩) (fun _ => op_lt) fun _ => op_lt_str
theorem c_le : COp c .LtE dLe := c_ord (p := fun i j => decide (i ≤ j)) (q := fun a b => !decide (b < a)) (fun x y d h => by
  cases x <;> cases y <;> simp only [dLe] at h <;> try cases h
  · exact .inl ⟨_, _, rfl, rfl, rfl⟩
  · exact .inr ⟨_, _, rfl, rfl, rfl⟩) (fun _ => op_le) fun _ => op_le_str
theorem c_gt : COp c .Gt dGt := c_ord (p := fun i j => decide (j < i)) (q := fun a b => decide (b < a)) (fun x y d h => by
  cases x <;> cases y <;> simp only [dGt] at h <;> try cases h
  · exact .inl ⟨_, _, rfl, rfl, rfl⟩
  · exact .inr ⟨_, _, rfl, rfl, rfl⟩) (fun _ => op_gt) fun _ => op_gt_str
theorem c_ge : COp c .GtE dGe := c_ord (p := fun i j => decide (j ≤ i)) (q := fun a b => !decide (a < b)) (fun x y d h => by
  cases x <;> cases y <;> simp only [dGe] at h <;> try cases h
  · exact .inl ⟨_, _, rfl, rfl, rfl⟩
  · exact .inr ⟨_, _, rfl, rfl, rfl⟩) (fun _ => op_ge) fun _ => op_ge_str
def isNon : D → Bool
  | .non => true
  | _ => false
def dIs : D → D → Option D
  | x, .non => some (.bl (isNon x))
  | _, _ => none
def dIsNot : D → D → Option D
  | x, .non => some (.bl (!isNon x))
  | _, _ => none
theorem dn_non {K : PySem.W.Frag} {mg : Str → Option Value} {F : Hp} {x : V} {d : D} (h : Dn K mg F x d) : decide (x = .non) = isNon d := by
  cases h <;> simp [isNon]
theorem c_is : COp c .Is dIs := fun X W z => ⟨_, op_isN, fun F H x y dx dy d Q e hx hy h a => by
  cases dy <;> simp [dIs] at h
  cases hy
  subst h
  refine ⟨rfl, ?_⟩
  rw [dn_non hx]
  exact a.here e (.bl _)⟩
theorem c_isnot : COp c .IsNot dIsNot := fun X W z => ⟨_, op_notN, fun F H x y dx dy d Q e hx hy h a => by
  cases dy <;> simp [dIsNot] at h
  cases hy
  subst h
  refine ⟨rfl, ?_⟩
  rw [dn_non hx]
  exact a.here e (.bl _)⟩
end
end DL

namespace DL
open PySem L2
section
variable {c : Stat}
/-! ### + and * -/
def dAdd : D → D → Option D
  | .int i, .int j => some (.int (i + j))
  | .str a, .str b => if a.length + b.length ≤ sz then some (.str (a ++ b)) else none
  | .lst a, .lst b => if a.length + b.length ≤ sz then some (.lst (a ++ b)) else none
  | .tup a, .tup b => if a.length + b.length ≤ sz then some (.tup (a ++ b)) else none
  | _, _ => none
def rCatR : R2 := fun x y H Q => ∃ l b xs zs, x = .ref l ∧ y = .ref b ∧ Rd H l (.lst xs) ∧ Rd H b (.lst zs) ∧ xs.length + zs.length ≤ sizeLine ∧ ∀ p, H p = none → Q (.ref p) (upd H p (.lst (xs ++ zs)))
theorem op_catR {X : Cx} : OpR X (binaryOp .Add) rCatR := by
  intro pins s σ H x y v u Q I rx ry h
  obtain ⟨l, b, xs, zs, rfl, rfl, hH, hB, hz, q⟩ := h
  cases rx
  cases ry
  obtain ⟨z, its, n, r, e⟩ := hH.ok I.hok
  obtain ⟨z2, its2, n2, r2, e2⟩ := hB.ok I.hok
  have hl := r.length
  have hl2 := r2.length
  refine PySem.P.add_list e e2 ?_ (by rw [List.size_toArray, List.size_toArray]; omega)
  have ea : its.toArray ++ its2.toArray = (its ++ its2).toArray := by simp
  rw [ea]
  exact ⟨.ref _, _, I.lnew (t' := s.toks) (r.append r2) (by rw [List.length_append]; omega), rfl, q _ I.fresh⟩
theorem toS_append (a b : Cs) : toS a ++ toS b = toS (a ++ b) := by
  show Str.append _ _ = _
  simp [toS, Str.append]
theorem okS_append {a b : Cs} (ha : okS a) (hb : okS b) (h : a.length + b.length ≤ sz) : okS (a ++ b) := by
  refine ⟨by rw [List.length_append]; exact h, fun x hx => ?_⟩
  rcases List.mem_append.mp hx with h | h
  · exact ha.2 x h
  · exact hb.2 x h
theorem b_add : BOp c .Add dAdd := fun X W z => ⟨_, OpR.or op_add (OpR.or op_add_str (OpR.or op_catR op_catA)), fun F H x y dx dy d Q e hx hy h a => by
  cases dx <;> cases dy <;> simp only [dAdd] at h <;> try cases h
  · cases hx; cases hy
    exact .inl ⟨_, _, rfl, rfl, a.here e (.int _)⟩
  · split at h <;> cases h
    rename_i k
    cases hx with
    | str cs h1 =>
      cases hy with
      | str cs2 h2 =>
      refine .inr (.inl ⟨_, _, rfl, rfl, by rw [toS_length, toS_length, sz_eq]; exact k, ?_⟩)
      rw [toS_append]
      exact a.here e (.str _ (okS_append h1 h2 k))
  · split at h <;> cases h
    rename_i k
    cases hx with
    | tup h1 r1 l1 =>
      cases hy with
      | tup h2 r2 l2 =>
      refine .inr (.inr (.inr ⟨_, _, _, _, rfl, rfl, by rw [z.K]; exact same_t e h1, by rw [z.K]; exact same_t e h2, by rw [sz_eq, r1.length, r2.length]; exact k, ?_, ?_, ?_⟩))
      · rintro rfl
        cases r1
        exact a.here e (.tup h2 (by simpa using r2) (by simpa using l2))
      · rintro _ rfl
        cases r2
        exact a.here e (.tup h1 (by simpa using r1) (by simpa using l1))
      · intro _ _ p hp
        exact after_tup e a hp (r1.append r2) (by rw [List.length_append]; exact k)
  · split at h <;> cases h
    rename_i k
    cases hx with
    | lst h1 r1 l1 =>
      cases hy with
      | lst h2 r2 l2 =>
      exact .inr (.inr (.inl ⟨_, _, _, _, rfl, rfl, same_rd e h1, same_rd e h2, by rw [sz_eq, r1.length, r2.length]; exact k, fun p hp => after_lst e a hp (r1.append r2) (by rw [List.length_append]; exact k)⟩))⟩
def rRepR : R2 := fun x y H Q => ∃ l k xs, x = .ref l ∧ y = .int k ∧ Rd H l (.lst xs) ∧ -(2 ^ 63) ≤ k ∧ k < 2 ^ 63 ∧ xs.length * k.toNat ≤ sizeLine ∧
  ∀ p, H p = none → Q (.ref p) (upd H p (.lst (List.replicate k.toNat xs).flatten))
theorem op_repR {X : Cx} : OpR X (binaryOp .Mult) rRepR := by
  intro pins s σ H x y v u Q I rx ry h
  obtain ⟨l, k, xs, rfl, rfl, hH, h1, h2, hz, q⟩ := h
  cases rx
  obtain ⟨t, rfl⟩ := ry
  obtain ⟨z, its, n, r, e⟩ := hH.ok I.hok
  have hl := r.length
  have hlen : its.toArray.size * k.toNat ≤ sizeLine := by rw [List.size_toArray, ← hl]; exact hz
  have hcap : ¬ its.toArray.size * k.toNat > (2 ^ 63 - 1) / 8 := by
    have : (sizeLine : Nat) ≤ (2 ^ 63 - 1) / 8 := by decide
    omega
  have hfit : ¬ (!Builtin.List.listFitsIndex k) = true := by
    rw [fitsIndex_both h1 h2]
    exact Bool.false_ne_true
  have hlong : ¬ Builtin.List.listTooLong (its.toArray.size * k.toNat) = true := by
    rw [notLongL hlen]
    exact Bool.false_ne_true
  have hnew : List.foldl (fun x1 x2 => x1 ++ x2) #[] (List.replicate (if its.toArray.isEmpty = true then 0 else k.toNat) its.toArray) = (List.replicate k.toNat its).flatten.toArray := by
    have f0 : ∀ m : Nat, List.foldl (fun x1 x2 => x1 ++ x2) #[] (List.replicate m its.toArray) = (List.replicate m its).flatten.toArray := fun m => by
      have := foldl_rep its m []
      rw [List.nil_append] at this
      exact this
    rw [f0]
    cases its with
    | nil => simp
    | cons a r' => rw [if_neg (by simp)]
  refine wpAny_binaryOp_repeat_ref (T := "list") (U := "int") (by decide) ⟨_, e, rfl⟩ (fun s' => typeIs_int s' k t) noFill_list_mul F.fills_int_mul F.slot_int_rmul repeat_list F.slot_int_index.lookup
    (call_meets F.slot_int_rmul (typeIs_int s k t) F.entry_int_rmul (F.args_int_rmul_2 _ _) (int___rmul___int_list k t l its.toArray n)
      ⟨e, rfl, ⟨_, e, rfl⟩, call_meets F.slot_list_mul ⟨_, e, rfl⟩ F.entry_list_mul (F.args_list_mul_2 _ _) (AutoListH.list___mul___list_int_3 l its.toArray n k t hfit hcap hlong) ⟨e, ?_⟩⟩)
  rw [hnew]
  exact ⟨.ref _, _, I.lnew (t' := s.toks) (r.rep k.toNat) (by rw [PyProof.Rows.lm_len_rep_flat, Nat.mul_comm]; exact hz), rfl, q _ I.fresh⟩
theorem Dns.rep {K : PySem.W.Frag} {mg : Str → Option Value} {F : Hp} {vs : List V} {ds : List D} (h : Dns K mg F vs ds) : ∀ n : Nat, Dns K mg F (List.replicate n vs).flatten (List.replicate n ds).flatten
  | 0 => .nil
  | n + 1 => by
    rw [List.replicate_succ, List.replicate_succ, List.flatten_cons, List.flatten_cons]
    exact h.append (h.rep n)
theorem rep_len {k : Int} {xs : List D} (h : k ≤ 1000) (hx : xs.length ≤ 1000) : (List.replicate k.toNat xs).flatten.length ≤ sz := by
  rw [PyProof.Rows.lm_len_rep_flat]
  have a1 : k.toNat * xs.length ≤ 1000 * 1000 := Nat.mul_le_mul (by omega) hx
  show _ ≤ 16777216
  omega
/-- * of two factors of together less than a hundred million bits -/
def CMulY (i j : Int) : Prop := i.natAbs.log2 + j.natAbs.log2 < 100000000
theorem CMulY.ok {i j : Int} (h : CMulY i j) : IntMulOk i j := fun z => by
  have bit : ∀ y : Int, Builtin.Int.intBits y ≤ y.natAbs.log2 + 1 := by
    intro y; unfold Builtin.Int.intBits; split <;> omega
  have e1 := bit i
  have e2 := bit j
  have e3 : bitsLine = 134217728 := by decide
  have e4 := of_decide_eq_true (show decide _ = true from (Bool.and_eq_true_iff.mp z).2)
  unfold CMulY at h
  rw [e3] at e4
  omega
theorem op_mulY {X : Cx} : OpR X (binaryOp .Mult) (rI CMulY fun i j => .int (i * j)) := opI fun _ _ _ _ _ _ _ hc q => PyProof.Rows.mul_int q hc.ok
def dMul : D → D → Option D
  | .int i, .int j => if i.natAbs < 2 ^ 64 ∨ j.natAbs < 2 ^ 64 ∨ i.natAbs.log2 + j.natAbs.log2 < 100000000 then some (.int (i * j)) else none
  | .lst xs, .int k => if -1000000 ≤ k ∧ k ≤ 1000000 ∧ xs.length * k.toNat ≤ sz then some (.lst (List.replicate k.toNat xs).flatten) else none
  | .tup xs, .int k => if xs ≠ [] ∧ 2 ≤ k ∧ k ≤ 1000 ∧ xs.length ≤ 1000 then some (.tup (List.replicate k.toNat xs).flatten) else none
  | _, _ => none
theorem b_mul : BOp c .Mult dMul := fun X W z => ⟨_, OpR.or op_mul (OpR.or op_mulY (OpR.or op_repR op_repT)), fun F H x y dx dy d Q e hx hy h a => by
  cases dx <;> cases dy <;> simp only [dMul] at h <;> try cases h
  · split at h <;> cases h
    rename_i k
    cases hx; cases hy
    rcases k with k | k | k
    · exact .inl ⟨_, _, rfl, rfl, .inl ⟨by omega, by omega⟩, a.here e (.int _)⟩
    · exact .inl ⟨_, _, rfl, rfl, .inr ⟨by omega, by omega⟩, a.here e (.int _)⟩
    · exact .inr (.inl ⟨_, _, rfl, rfl, k, a.here e (.int _)⟩)
  · split at h <;> cases h
    rename_i k
    cases hx with
    | tup h1 r1 l1 =>
      cases hy
      exact .inr (.inr (.inr ⟨_, _, _, rfl, rfl, by rw [z.K]; exact same_t e h1, fun q => k.1 (by subst q; cases r1; rfl), k.2.1, k.2.2.1, by rw [r1.length]; exact k.2.2.2, fun p hp => after_tup e a hp (r1.rep _) (rep_len k.2.2.1 k.2.2.2)⟩))
  · split at h <;> cases h
    rename_i k
    cases hx with
    | lst h1 r1 l1 =>
      cases hy
      exact .inr (.inr (.inl ⟨_, _, _, rfl, rfl, same_rd e h1, by omega, by omega, by rw [sz_eq, r1.length]; exact k.2.2, fun p hp => after_lst e a hp (r1.rep _) (by rw [PyProof.Rows.lm_len_rep_flat, Nat.mul_comm]; exact k.2.2)⟩))⟩
/-! ### in -/
def lookK (k : DK) : List (DK × D) → Option D
  | [] => none
  | (j, d) :: r => if j = k then some d else lookK k r
def asK : D → Option DK
  | .int i => some (.i i)
  | .str cs => some (.s cs)
  | _ => none
def inB (x y : D) : Option Bool := match y with
  | .str b => (match x with
    | .str [n] => some (decide (n ∈ b))
    | .str a => some (!(Builtin.Str.occurrences (toS b) (toS a) 0 b.length 1).isEmpty)
    | _ => none)
  | .lst ys => if isP x && isPs ys && decide (min (dep x) (deps ys) ≤ 60) then some (ys.any fun y => deq y x) else none
  | .tup ys => if isP x && isPs ys && decide (min (dep x) (deps ys) ≤ 60) then some (ys.any fun y => deq y x) else none
  | .dct kvs => (asK x).map fun k => (lookK k kvs).isSome
  | _ => none
def dIn (x y : D) : Option D := (inB x y).map .bl
def dNotIn (x y : D) : Option D := (inB x y).map fun b => .bl (!b)
theorem any_pys {x : D} (hx : isP x = true) : ∀ ys : List D, isPs ys = true → ((pys ys).any fun y => PyData.eqv y (py x)) = ys.any fun y => deq y x
  | [], _ => by simp [pys]
  | y :: ys, h => by
    have h' : isP y = true ∧ isPs ys = true := by simpa [isPs] using h
    simp only [pys, List.any_cons]
    rw [eqv_py y x h'.1 hx, any_pys hx ys h'.2]
def rInM (c : Stat) (neg : Bool) : R2 := fun x y H Q => ∃ F dx ys, Same F H ∧ Dn c.K c.mg F x dx ∧ (Dn c.K c.mg F y (.lst ys) ∨ Dn c.K c.mg F y (.tup ys)) ∧ isP dx = true ∧ isPs ys = true ∧ min (dep dx) (deps ys) ≤ 60 ∧
  Q (.bl (if neg then !(ys.any fun y => deq y dx) else ys.any fun y => deq y dx)) H
theorem op_inM {X : Cx} {W : WX} (z : Cz c X W) : OpR X (compareOp .In) (rInM c false) := by
  intro pins s σ H x y v u Q I rx ry ⟨F, dx, ys, e, hx, hy, px, py', hd, q⟩
  have hx' : Dp X.K H x (py dx) := by rw [z.K]; exact hx.dp e px
  obtain ⟨as, r1⟩ := Dp.reads I _ x v hx' rx
  have hu := z.room.units
  rcases hy with hy | hy
  · have hy' : Dp X.K H y (py (.lst ys)) := by rw [z.K]; exact hy.dp e (by simpa [isP] using py')
    obtain ⟨bs, r2⟩ := Dp.reads I _ y u hy' ry
    have hl := hy.lay (by simpa [isP] using py')
    simp only [py] at r2 hl
    refine SeqAt.in_list_reads r2 r1 (by simpa only [PyData.canLay0] using hl) (hx.lay px) (by rw [dep_py, deps_pys]; omega) ⟨.bl _, H, I, rfl, ?_⟩
    rw [any_pys px ys py']
    exact q
  · have hy' : Dp X.K H y (py (.tup ys)) := by rw [z.K]; exact hy.dp e (by simpa [isP] using py')
    obtain ⟨bs, r2⟩ := Dp.reads I _ y u hy' ry
    have hl := hy.lay (by simpa [isP] using py')
    simp only [py] at r2 hl
    refine SeqAt.in_tuple_reads r2 r1 (by simpa only [PyData.canLay0] using hl) (hx.lay px) (by rw [dep_py, deps_pys]; omega) ⟨.bl _, H, I, rfl, ?_⟩
    rw [any_pys px ys py']
    exact q
theorem op_notInM {X : Cx} {W : WX} (z : Cz c X W) : OpR X (compareOp .NotIn) (rInM c true) := by
  intro pins s σ H x y v u Q I rx ry ⟨F, dx, ys, e, hx, hy, px, py', hd, q⟩
  have hx' : Dp X.K H x (py dx) := by rw [z.K]; exact hx.dp e px
  obtain ⟨as, r1⟩ := Dp.reads I _ x v hx' rx
  have hu := z.room.units
  rcases hy with hy | hy
  · have hy' : Dp X.K H y (py (.lst ys)) := by rw [z.K]; exact hy.dp e (by simpa [isP] using py')
    obtain ⟨bs, r2⟩ := Dp.reads I _ y u hy' ry
    have hl := hy.lay (by simpa [isP] using py')
    simp only [py] at r2 hl
    refine SeqAt.notIn_list_reads r2 r1 (by simpa only [PyData.canLay0] using hl) (hx.lay px) (by rw [dep_py, deps_pys]; omega) ⟨.bl _, H, I, rfl, ?_⟩
    rw [any_pys px ys py']
    exact q
  · have hy' : Dp X.K H y (py (.tup ys)) := by rw [z.K]; exact hy.dp e (by simpa [isP] using py')
    obtain ⟨bs, r2⟩ := Dp.reads I _ y u hy' ry
    have hl := hy.lay (by simpa [isP] using py')
    simp only [py] at r2 hl
    refine SeqAt.notIn_tuple_reads r2 r1 (by simpa only [PyData.canLay0] using hl) (hx.lay px) (by rw [dep_py, deps_pys]; omega) ⟨.bl _, H, I, rfl, ?_⟩
    rw [any_pys px ys py']
    exact q
def rInDk (neg : Bool) : R2 := fun x y H Q => ∃ a o, y = .ref a ∧ DGet H a x o ∧ Q (.bl (if neg then !o.isSome else o.isSome)) H
theorem op_inDk {X : Cx} {W : WX} (z : Cz c X W) : OpR X (compareOp .In) (rInDk false) := by
  intro pins s σ H x y v u Q I rx ry ⟨a, o, ey, g, q⟩
  subst ey
  obtain rfl : u = Value.ref a := ry
  have hu := z.room.units
  exact d_in (by omega) I g rx fun s' I' => ⟨.bl _, H, I', rfl, q⟩
theorem op_notInDk {X : Cx} {W : WX} (z : Cz c X W) : OpR X (compareOp .NotIn) (rInDk true) := by
  intro pins s σ H x y v u Q I rx ry ⟨a, o, ey, g, q⟩
  subst ey
  obtain rfl : u = Value.ref a := ry
  have hu := z.room.units
  exact d_notIn (by omega) I g rx fun s' I' => ⟨.bl _, H, I', rfl, q⟩
theorem dkv_look {K : PySem.W.Frag} {mg : Str → Option Value} {F : Hp} (k : DK) : ∀ {kvs : List (Key × V)} {kds : List (DK × D)}, Dkv K mg F kvs kds → (lookK k kds = none ∧ valV kvs k.key = none) ∨ ∃ d v, lookK k kds = some d ∧ valV kvs k.key = some v ∧ Dn K mg F v d
  | _, _, .nil => .inl ⟨rfl, rfl⟩
  | _, _, @Dkv.cons _ _ _ j v d vs ds _ h r => by
    by_cases e : j = k
    · subst e
      refine .inr ⟨d, v, by simp [lookK], ?_, h⟩
      simp [valV]
    · have e' : j.key ≠ k.key := fun q => e (key_inj q)
      rcases dkv_look k r with ⟨h1, h2⟩ | ⟨d2, v2, h1, h2, h3⟩
      · refine .inl ⟨by simp [lookK, e, h1], ?_⟩
        simpa [valV, e'] using h2
      · refine .inr ⟨d2, v2, by simp [lookK, e, h1], ?_, h3⟩
        simpa [valV, e'] using h2
theorem asK_ok {K : PySem.W.Frag} {mg : Str → Option Value} {F : Hp} {x : V} {d : D} {k : DK} (h : Dn K mg F x d) (e : asK d = some k) : okK k := by
  cases h <;> simp [asK] at e <;> subst e
  · exact trivial
  · rename_i h1; exact h1
theorem asK_V {K : PySem.W.Frag} {mg : Str → Option Value} {F : Hp} {x : V} {d : D} {k : DK} (h : Dn K mg F x d) (e : asK d = some k) : x = kV k.key := by
  cases h <;> simp [asK] at e <;> subst e <;> rfl
theorem in_sound {neg : Bool} {X : Cx} {W : WX} (z : Cz c X W) {r : D → D → Option D} (hr : ∀ x y d, r x y = some d → ∃ b, inB x y = some b ∧ d = .bl (if neg then !b else b))
    {op : CmpOp} (h1 : OpR X (compareOp op) (rInM c neg)) (h2 : OpR X (compareOp op) (rInDk neg)) (h3 : OpR X (compareOp op) (fun x y H Q => ∃ (n : Nat) (z : Str), x = .str ⟨#[n]⟩ ∧ y = .str z ∧ Q (.bl (if neg then !decide (n ∈ z.cps.toList) else decide (n ∈ z.cps.toList))) H))
    (h4 : OpR X (compareOp op) (fun x y H Q => ∃ i j, x = .str i ∧ y = .str j ∧ Q (.bl (if neg then !(!(Builtin.Str.occurrences j i 0 j.length 1).isEmpty) else !(Builtin.Str.occurrences j i 0 j.length 1).isEmpty)) H)) :
    ∃ rV, OpR X (compareOp op) rV ∧ R2ok c rV r := ⟨_, OpR.or h1 (OpR.or h2 (OpR.or h3 h4)), fun F H x y dx dy d Q e hx hy h a => by
  obtain ⟨b, hb, rfl⟩ := hr _ _ _ h
  unfold inB at hb
  split at hb
  · rename_i b'
    split at hb
    · rename_i n
      cases hb
      cases hx; cases hy
      exact .inr (.inr (.inl ⟨n, _, rfl, rfl, by rw [toS_cps]; exact a.here e (.bl _)⟩))
    · cases hb
      cases hx; cases hy
      exact .inr (.inr (.inr ⟨_, _, rfl, rfl, by rw [toS_length]; exact a.here e (.bl _)⟩))
    · cases hb
  · split at hb <;> cases hb
    rename_i k
    simp only [Bool.and_eq_true, decide_eq_true_eq] at k
    exact .inl ⟨F, dx, _, e, hx, .inl hy, k.1.1, k.1.2, k.2, a.here e (.bl _)⟩
  · split at hb <;> cases hb
    rename_i k
    simp only [Bool.and_eq_true, decide_eq_true_eq] at k
    exact .inl ⟨F, dx, _, e, hx, .inr hy, k.1.1, k.1.2, k.2, a.here e (.bl _)⟩
  · rename_i kvs
    cases hk : asK dx with
    | none => rw [hk] at hb; cases hb
    | some k =>
      rw [hk] at hb
      cases hb
      cases hy with
      | dct h1 r1 l1 =>
        rcases dkv_look k r1 with ⟨q1, q2⟩ | ⟨d2, v2, q1, q2, q3⟩
        · refine .inr (.inl ⟨_, none, rfl, .inl ⟨_, _, same_rd e (.inr ⟨_, h1⟩), asK_V hx hk, q2.symm⟩, ?_⟩)
          have := a.here e (.bl _)
          simpa [q1] using this
        · refine .inr (.inl ⟨_, some v2, rfl, .inl ⟨_, _, same_rd e (.inr ⟨_, h1⟩), asK_V hx hk, q2.symm⟩, ?_⟩)
          have := a.here e (.bl _)
          simpa [q1] using this
  · cases hb⟩
theorem c_in : COp c .In dIn := fun X W z => in_sound (neg := false) z (fun x y d h => by
  unfold dIn at h
  cases e : inB x y with
  | none => rw [e] at h; cases h
  | some b => rw [e] at h; cases h; exact ⟨b, rfl, rfl⟩) (op_inM z) (op_inDk z) op_in_sign op_in_str
theorem c_notin : COp c .NotIn dNotIn := fun X W z => in_sound (neg := true) z (fun x y d h => by
  unfold dNotIn at h
  cases e : inB x y with
  | none => rw [e] at h; cases h
  | some b => rw [e] at h; cases h; exact ⟨b, rfl, rfl⟩) (op_notInM z) (op_notInDk z) op_notIn_sign op_notin_str
end
end DL

namespace DL
open PySem L2
section
variable {c : Stat}
/-! ### items and slices -/
theorem ix_dict {X : Cx} (hu : X.A.units + 1 < cLine) : IxR X (fun x y H Q => ∃ a v, x = .ref a ∧ DGet H a y (some v) ∧ Q v H) := by
  intro value slice pins s σ H x y v u Q I rx ry h hs
  obtain ⟨a, w, ex, g, q⟩ := h
  subst ex
  obtain rfl : v = Value.ref a := rx
  have hT := dict_typeIs I g
  unfold PyProof.Rows.subscriptTail
  refine wpAny_bind ?_
  rw [getitemInPython_of_ne hT.not_modules]
  refine wpAny_bind (wpAny_specialOf hT PySem.F.slot_dict_getitem.lookup ?_)
  have fin : wpAny (model X.prog X.w) X.A (subscripted slice false (.ref a) u) (fun r s₃ => wpAny (model X.prog X.w) X.A (letTemporaryGo value (.ref a) r >>= fun _ => pure r) (EP X pins σ Q) X.xe s₃) X.xe s := by
    rw [hs]
    exact wpAny_operating (wpAny_mono (d_getItem hu I g ry fun w' s3 I3 rw' => (⟨w, H, I3, rw', q⟩ : EP X pins σ Q w' s3)) (fun r s₃ h₃ => wpAny_bind (wpAny_letTemporaryGo (wpAny_pure h₃))) fun _ _ x => x)
  exact wpAny_pure (wpAny_bind fin)
def dIx : D → D → Option D
  | .lst xs, .int i => atI xs i
  | .tup xs, .int i => atI xs i
  | .str cs, .int i => (atI cs i).map fun n => .str [n]
  | .dct kvs, k => (asK k).bind fun k => lookK k kvs
  | _, _ => none
theorem atI_dns {K : PySem.W.Frag} {mg : Str → Option Value} {F : Hp} {vs : List V} {ds : List D} {i : Int} {d : D} (r : Dns K mg F vs ds) (h : atI ds i = some d) : ∃ v, atI vs i = some v ∧ Dn K mg F v d := by
  unfold atI at h ⊢
  rw [r.length]
  cases e : ixN ds.length i with
  | none => rw [e] at h; cases h
  | some j => rw [e] at h; exact r.get h
theorem atI_mem {α : Type} {xs : List α} {i : Int} {x : α} (h : atI xs i = some x) : x ∈ xs := by
  unfold atI at h
  cases e : ixN xs.length i with
  | none => rw [e] at h; cases h
  | some j => rw [e] at h; exact List.mem_of_getElem? h
theorem okS_one {n : Nat} (h : n < 0x110000) : okS [n] := ⟨by show 1 ≤ sz; decide, fun x hx => by have := List.mem_singleton.mp hx; omega⟩
theorem ed_ix {a b : Expr} {f g : M D} {pos : Pos} (ha : ED c a f) (hb : ED c b g) (hs : PlainIx b := by intro _ _; rfl) : ED c (.Subscript a b pos) (op2 dIx f g) :=
  ed_op2 ha hb fun X W z => by
    refine ⟨_, ?_, fun _ _ pa pb => pe_ix (IxR.or ix_list (IxR.or ix_tup (IxR.or ix_str (ix_dict (by have := z.room.units; omega))))) pa pb hs⟩
    intro F H x y dx dy d Q e hx hy h a
    unfold dIx at h
    split at h
    · cases hx with
      | lst h1 r1 l1 =>
        cases hy
        obtain ⟨v, q1, q2⟩ := atI_dns r1 h
        exact .inl ⟨_, _, _, v, rfl, rfl, .inl (same_rd e h1), q1, a.here e q2⟩
    · cases hx with
      | tup h1 r1 l1 =>
        cases hy
        obtain ⟨v, q1, q2⟩ := atI_dns r1 h
        exact .inr (.inl ⟨_, _, _, v, rfl, rfl, by rw [z.K]; exact same_t e h1, q1, a.here e q2⟩)
    · rename_i cs i
      cases hx with
      | str _ h1 =>
        cases hy
        cases q : atI cs i with
        | none => rw [q] at h; cases h
        | some n =>
          rw [q] at h
          cases h
          refine .inr (.inr (.inl ⟨_, _, n, rfl, rfl, by rw [toS_length, sz_eq]; exact h1.1, by rw [toS_cps]; exact q, ?_⟩))
          exact a.here e (.str [n] (okS_one (h1.2 n (atI_mem q))))
    · cases hk : asK dy with
      | none => rw [hk] at h; cases h
      | some k =>
        rw [hk] at h
        cases hx with
        | dct h1 r1 l1 =>
          rcases dkv_look k r1 with ⟨q1, q2⟩ | ⟨d2, v2, q1, q2, q3⟩
          · have h : lookK k _ = some d := h
            rw [q1] at h; cases h
          · have h : lookK k _ = some d := h
            rw [q1] at h; cases h
            exact .inr (.inr (.inr ⟨_, v2, rfl, .inl ⟨_, _, same_rd e (.inr ⟨_, h1⟩), asK_V hy hk, q2.symm⟩, a.here e q3⟩))
    · cases h
theorem eo_none : EO c none (ret none) := fun G X W z => po_imp po_none fun σ H Q ⟨F, ρ, R, q⟩ => q none F H (Same.refl _) R rfl
def asI : D → Option Int
  | .int i => some i
  | _ => none
def opt (m : M D) : M (Option Int) := bnd m fun x => match asI x with
  | some i => ret (some i)
  | none => fun _ => .bad
theorem eo_some {e : Expr} {f : M D} (h : ED c e f) : EO c (some e) (opt f) := fun G X W z => po_imp (po_some (h G X W z)) fun σ H Q ⟨F, ρ, R, q⟩ => by
  refine tG_bind R q fun F1 H1 ρ1 x dx s1 R1 rx q1 => ?_
  cases rx <;> try exact q1.elim
  exact ⟨_, rfl, q1 _ F1 H1 (Same.refl _) R1 rfl⟩
def cutD {α : Type} (xs : List α) (lo hi : Option Int) : List α := (xs.drop (HT.sIx xs.length 0 lo)).take (HT.sIx xs.length xs.length hi - HT.sIx xs.length 0 lo)
def dSl : D → Option Int → Option Int → Option D
  | .lst xs, lo, hi => some (.lst (cutD xs lo hi))
  | .tup xs, lo, hi => some (.tup (cutD xs lo hi))
  | .str xs, lo, hi => some (.str (cutD xs lo hi))
  | _, _, _ => none
def slM (a : M D) (lo hi : M (Option Int)) : M D := bnd a fun x => bnd lo fun l => bnd hi fun h => lift (dSl x l h)
theorem cut_dns {K : PySem.W.Frag} {mg : Str → Option Value} {F : Hp} {vs : List V} {ds : List D} {lo hi : Option Int} (r : Dns K mg F vs ds) : Dns K mg F (cutV vs lo hi) (cutD ds lo hi) := by
  unfold cutV cutD
  rw [r.length]
  exact (r.drop _).take _
theorem cutD_le {α : Type} (xs : List α) (lo hi : Option Int) : (cutD xs lo hi).length ≤ xs.length := by
  unfold cutD
  rw [List.length_take, List.length_drop]
  omega
theorem cut_whole {α : Type} {xs : List α} {lo hi : Option Int} (h : HT.sIx xs.length 0 lo = 0 ∧ HT.sIx xs.length xs.length hi = xs.length) : cutD xs lo hi = xs := by
  unfold cutD
  rw [h.1, h.2]
  simp
theorem okS_sub {a b : Cs} (h : okS a) (s : b.Sublist a) : okS b := ⟨Nat.le_trans s.length_le h.1, fun x hx => h.2 x (s.subset hx)⟩
theorem ed_slice {a : Expr} {lo hi : Option Expr} {f : M D} {g k : M (Option Int)} {pos p2 : Pos} (ha : ED c a f) (hl : EO c lo g) (hh : EO c hi k) : ED c (.Subscript a (.Slice lo hi none p2) pos) (slM f g k) := fun G X W z => by
  refine pe_imp (pe_slice (SlR.or sl_list (SlR.or sl_tupA sl_str)) (ha G X W z) (hl G X W z) (hh G X W z)) fun σ H Q ⟨F, ρ, R, q⟩ => ?_
  refine tG_bind R q fun F1 H1 ρ1 x dx s1 R1 rx q1 => ?_
  refine tG_bind R1 q1 fun F2 H2 ρ2 l l' s2 R2 rl q2 => ?_
  refine tG_bind R2 q2 fun F3 H3 ρ3 u u' s3 R3 ru q3 => ?_
  subst rl ru
  have rx := rx.mono (s2.trans s3)
  obtain ⟨d, e, af⟩ := q3.lift R3
  have e3 := R3.fh
  cases rx <;> simp only [dSl] at e <;> try cases e
  · rename_i h1
    refine .inr (.inr ⟨_, rfl, by rw [toS_length, sz_eq]; exact h1.1, ?_⟩)
    have : cutS (toS ‹Cs›) l u = toS (cutD ‹Cs› l u) := by
      unfold cutS cutD
      rw [toS_length, toS_cps]
      rfl
    rw [this]
    exact af.here e3 (.str _ (okS_sub h1 ((List.take_sublist _ _).trans (List.drop_sublist _ _))))
  · rename_i h1 r1 l1
    refine .inr (.inl ⟨_, _, rfl, by rw [z.K]; exact same_t e3 h1, fun hw => ?_, fun _ p hp => after_tup e3 af hp (cut_dns r1) (Nat.le_trans (cutD_le _ _ _) l1)⟩)
    have hw' := hw
    rw [r1.length] at hw'
    rw [cut_whole hw'] at af
    exact af.here e3 (.tup h1 r1 l1)
  · rename_i h1 r1 l1
    exact .inl ⟨_, _, rfl, .inl (same_rd e3 h1), fun p hp => after_lst e3 af hp (cut_dns r1) (Nat.le_trans (cutD_le _ _ _) l1)⟩

/-! ### tests -/
def tru : D → Option Bool
  | .non => some false | .bl b => some b | .int i => some (i != 0) | .str cs => some (!cs.isEmpty)
  | .lst xs => some (!xs.isEmpty) | .tup xs => some (!xs.isEmpty) | _ => none
theorem tru_ok {K : PySem.W.Frag} {mg : Str → Option Value} {F H : Hp} {x : V} {d : D} {b : Bool} (e : Same F H) (h : Dn K mg F x d) (t : tru d = some b) : TruV K x H b := by
  cases h <;> simp only [tru] at t <;> try cases t
  · rfl
  · rfl
  · rfl
  · rename_i cs h1
    refine ⟨by rw [toS_length, sz_eq]; exact h1.1, ?_⟩
    rw [toS_length]
    cases cs with
    | nil => rfl
    | cons a r =>
      show true = _
      symm
      simp only [List.length_cons, bne_iff_ne, ne_eq]
      omega
  · rename_i h1 r1 l1
    refine .inr (.inl ⟨_, same_t e h1, ?_⟩)
    cases r1 <;> rfl
  · rename_i h1 r1 l1
    refine .inl ⟨_, .inl (same_rd e h1), ?_⟩
    cases r1 <;> rfl
def trM (a : M D) : M Bool := bnd a fun x => lift (tru x)
theorem Post.liftT {G : Ent} {W : WX} {σ : L2.St} {H F : Hp} {ρ : En} {o : Option Bool} {Q : Bool → Hp → Prop} (r : Rel c.K c.mg c.xt G F H σ ρ) (h : Post (fun _ (b a : Bool) => b = a) c G W F σ (DL.lift o ρ) Q) : ∃ d, o = some d ∧ Q d H := by
  cases o with
  | none => exact h.elim
  | some d => exact ⟨d, rfl, h d F H (Same.refl _) r rfl⟩
theorem et_val {a : Expr} {f : M D} (ha : ED c a f) (he : ∀ env whole, PySem.isTrue a env whole = (do let v ← whole; standAt a.pos; holding [v] (truthy v)) := by intro _ _; rfl) : ET c a (trM f) := fun G X W z => by
  refine pt_imp (pt_truth (ha G X W z) (he _)) fun σ H Q ⟨F, ρ, R, q⟩ => ?_
  refine tG_bind R q fun F1 H1 ρ1 x dx s1 R1 rx q1 => ?_
  obtain ⟨b, e, q2⟩ := q1.liftT R1
  exact ⟨b, by rw [z.K]; exact tru_ok R1.fh rx e, q2⟩
def andT (a b : M Bool) : M Bool := bnd a fun x => if x then b else ret false
def orT (a b : M Bool) : M Bool := bnd a fun x => if x then ret true else b
def notT (a : M Bool) : M Bool := bnd a fun x => ret (!x)
theorem EW.et {e : Expr} {m : M Bool} (h : EW c e m) : ET c e m := fun G X W z => (h G X W z).pt
theorem ew_and1 {a : Expr} {f : M Bool} {pos} (h : ET c a f) : EW c (.BoolOp .And [a] pos) f := fun G X W z => pw_and1 (h G X W z)
theorem ew_or1 {a : Expr} {f : M Bool} {pos} (h : ET c a f) : EW c (.BoolOp .Or [a] pos) f := fun G X W z => pw_or1 (h G X W z)
theorem ew_and {a b : Expr} {rest : List Expr} {f g : M Bool} {pos} (ha : ET c a f) (hb : EW c (.BoolOp .And (b :: rest) pos) g) : EW c (.BoolOp .And (a :: b :: rest) pos) (andT f g) := fun G X W z => by
  refine pw_imp (pw_and (ha G X W z) (hb G X W z)) fun σ H Q ⟨F, ρ, R, q⟩ => ?_
  refine tG_bind R q fun F1 H1 ρ1 x dx s1 R1 rx q1 => ?_
  subst rx
  cases x with
  | true => rw [if_pos rfl]; exact ⟨F1, ρ1, R1, q1⟩
  | false => rw [if_neg Bool.false_ne_true]; exact q1 false F1 H1 (Same.refl _) R1 rfl
theorem ew_or {a b : Expr} {rest : List Expr} {f g : M Bool} {pos} (ha : ET c a f) (hb : EW c (.BoolOp .Or (b :: rest) pos) g) : EW c (.BoolOp .Or (a :: b :: rest) pos) (orT f g) := fun G X W z => by
  refine pw_imp (pw_or (ha G X W z) (hb G X W z)) fun σ H Q ⟨F, ρ, R, q⟩ => ?_
  refine tG_bind R q fun F1 H1 ρ1 x dx s1 R1 rx q1 => ?_
  subst rx
  cases x with
  | false => rw [if_neg Bool.false_ne_true]; exact ⟨F1, ρ1, R1, q1⟩
  | true => rw [if_pos rfl]; exact q1 true F1 H1 (Same.refl _) R1 rfl
theorem et_not {a : Expr} {f : M Bool} {pos} (ha : ET c a f) : ET c (.UnaryOp .Not a pos) (notT f) := fun G X W z => by
  refine pt_imp (pt_not (ha G X W z)) fun σ H Q ⟨F, ρ, R, q⟩ => ?_
  refine tG_bind R q fun F1 H1 ρ1 x dx s1 R1 rx q1 => ?_
  subst rx
  exact q1 _ F1 H1 (Same.refl _) R1 rfl
/-- by values -/
def andV (a b : M D) : M D := bnd a fun x => bnd (lift (tru x)) fun t => if t then b else ret x
def orV (a b : M D) : M D := bnd a fun x => bnd (lift (tru x)) fun t => if t then ret x else b
def notV (a : M D) : M D := bnd a fun x => bnd (lift (tru x)) fun t => ret (.bl (!t))
theorem post_tru {G : Ent} {W : WX} {σ : L2.St} {H F : Hp} {ρ : En} {x : V} {d : D} {f : Bool → M D} {Q : VK} (r : Rel c.K c.mg c.xt G F H σ ρ) (rx : Dn c.K c.mg F x d) (h : Post (Dn c.K c.mg) c G W F σ (bnd (lift (tru d)) f ρ) Q) :
    ∃ t, tru d = some t ∧ TruV c.K x H t ∧ Post (Dn c.K c.mg) c G W F σ (f t ρ) Q := by
  unfold bnd lift at h
  cases e : tru d with
  | none => simp only [e] at h; exact h.elim
  | some t => simp only [e] at h; exact ⟨t, rfl, tru_ok r.fh rx e, h⟩
theorem ed_and1 {a : Expr} {f : M D} {op pos} (h : ED c a f) : ED c (.BoolOp op [a] pos) f := fun G X W z => pe_one (h G X W z)
theorem ed_and {a b : Expr} {rest : List Expr} {f g : M D} {pos} (ha : ED c a f) (hb : ED c (.BoolOp .And (b :: rest) pos) g) : ED c (.BoolOp .And (a :: b :: rest) pos) (andV f g) := fun G X W z => by
  refine pe_imp (pe_andT (ha G X W z) (hb G X W z)) fun σ H Q ⟨F, ρ, R, q⟩ => ?_
  refine tG_bind R q fun F1 H1 ρ1 x dx s1 R1 rx q1 => ?_
  obtain ⟨t, _, t2, q2⟩ := post_tru R1 rx q1
  refine ⟨t, by rw [z.K]; exact t2, ?_⟩
  cases t with
  | true => rw [if_pos rfl]; exact ⟨F1, ρ1, R1, q2⟩
  | false => rw [if_neg Bool.false_ne_true]; exact q2 x F1 H1 (Same.refl _) R1 rx
theorem ed_or {a b : Expr} {rest : List Expr} {f g : M D} {pos} (ha : ED c a f) (hb : ED c (.BoolOp .Or (b :: rest) pos) g) : ED c (.BoolOp .Or (a :: b :: rest) pos) (orV f g) := fun G X W z => by
  refine pe_imp (pe_orT (ha G X W z) (hb G X W z)) fun σ H Q ⟨F, ρ, R, q⟩ => ?_
  refine tG_bind R q fun F1 H1 ρ1 x dx s1 R1 rx q1 => ?_
  obtain ⟨t, _, t2, q2⟩ := post_tru R1 rx q1
  refine ⟨t, by rw [z.K]; exact t2, ?_⟩
  cases t with
  | false => rw [if_neg Bool.false_ne_true]; exact ⟨F1, ρ1, R1, q2⟩
  | true => rw [if_pos rfl]; exact q2 x F1 H1 (Same.refl _) R1 rx
theorem ed_not {a : Expr} {f : M D} {pos} (ha : ED c a f) : ED c (.UnaryOp .Not a pos) (notV f) := fun G X W z => by
  refine pe_imp (pe_notT (ha G X W z)) fun σ H Q ⟨F, ρ, R, q⟩ => ?_
  refine tG_bind R q fun F1 H1 ρ1 x dx s1 R1 rx q1 => ?_
  obtain ⟨t, _, t2, q2⟩ := post_tru R1 rx q1
  exact ⟨t, by rw [z.K]; exact t2, q2 _ F1 H1 (Same.refl _) R1 (.bl _)⟩
def ifE (t : M Bool) (a b : M D) : M D := bnd t fun x => if x then a else b
theorem ed_if {t a b : Expr} {f : M Bool} {g k : M D} {pos} (ht : ET c t f) (ha : ED c a g) (hb : ED c b k) : ED c (.IfExp t a b pos) (ifE f g k) := fun G X W z => by
  refine pe_imp (pe_ifExp (ht G X W z) (ha G X W z) (hb G X W z)) fun σ H Q ⟨F, ρ, R, q⟩ => ?_
  refine tG_bind R q fun F1 H1 ρ1 x dx s1 R1 rx q1 => ?_
  subst rx
  cases x with
  | true => rw [if_pos rfl]; exact ⟨F1, ρ1, R1, q1⟩
  | false => rw [if_neg Bool.false_ne_true]; exact ⟨F1, ρ1, R1, q1⟩
/-- a < b < c -/
def asB : D → Option Bool
  | .bl b => some b
  | _ => none
def chM (r r' : D → D → Option D) (a b e : M D) : M D := bnd a fun x => bnd b fun y => bnd (lift ((r x y).bind asB)) fun k => if k then bnd e fun w => lift (r' y w) else ret (.bl false)
theorem ed_chain {op op' : CmpOp} {r r' : D → D → Option D} {a b d : Expr} {f g k : M D} {pos : Pos} (h : COp c op r) (h' : COp c op' r') (ha : ED c a f) (hb : ED c b g) (hd : ED c d k) (hl : lastMarks [op, op'] [b, d] = false := by rfl) :
    ED c (.Compare a [op, op'] [b, d] pos) (chM r r' f g k) := fun G X W z => by
  obtain ⟨rV, o, ok⟩ := h X W z
  obtain ⟨rV', o', ok'⟩ := h' X W z
  refine pe_imp (pe_chain o o' (ha G X W z) (hb G X W z) (hd G X W z) hl) fun σ H Q ⟨F, ρ, R, q⟩ => ?_
  refine tG_bind R q fun F1 H1 ρ1 x dx s1 R1 rx q1 => ?_
  refine tG_bind R1 q1 fun F2 H2 ρ2 y dy s2 R2 ry q2 => ?_
  unfold bnd lift at q2
  cases e : r dx dy with
  | none => simp only [e] at q2; exact q2.elim
  | some dv =>
    simp only [e] at q2
    cases dv <;> try exact q2.elim
    rename_i kb
    refine ok F2 H2 x y dx dy _ _ R2.fh (rx.mono s2) ry e fun v3 F3 H3 ex rv => ?_
    cases rv
    refine ⟨kb, rfl, ?_⟩
    have R3 := R2.ext ex
    have q3 := Post.mono ex.ff q2
    cases kb with
    | false => rw [if_neg Bool.false_ne_true]; exact q3 _ F3 H3 (Same.refl _) R3 (.bl _)
    | true =>
      rw [if_pos rfl]
      refine tG_bind (f := fun w => lift (r' dy w)) R3 q3 fun F4 H4 ρ4 w dw s4 R4 rw4 q4 => ?_
      obtain ⟨d', e4, af⟩ := q4.lift R4
      exact ok' F4 H4 y w dy dw d' Q R4.fh (ry.mono (ex.ff.trans s4)) rw4 e4 af
/-! ### comparisons as tests -/
def tbM (a : M D) : M Bool := bnd a fun x => lift (asB x)
theorem tbM_test {G : Ent} {W : WX} {σ : L2.St} {H : Hp} {Q : Bool → Hp → Prop} {m : M D} {t : TE} (h : tT c G W (tbM m) σ H Q) (i : ∀ {Q' : VK}, tD c G W m σ H Q' → t σ H Q') : tTest t σ H Q := by
  obtain ⟨F, ρ, R, q⟩ := h
  refine i (tG_bind R q fun F1 H1 ρ1 x dx s1 R1 rx q1 => ?_)
  obtain ⟨b, e, af⟩ := q1.liftT R1
  cases rx <;> simp only [asB] at e <;> cases e
  exact ⟨_, rfl, af⟩
theorem et_cmp {op : CmpOp} {r : D → D → Option D} {a b : Expr} {f g : M D} {pos : Pos} (h : COp c op r) (ha : ED c a f) (hb : ED c b g) (hm : behindInMarks op b = false) : ET c (.Compare a [op] [b] pos) (tbM (op2 r f g)) := fun G X W z => by
  obtain ⟨rV, o, ok⟩ := h X W z
  refine pt_imp (pt_cmpR o (ha G X W z) (hb G X W z) hm) fun σ H Q h => tbM_test h fun ⟨F, ρ, R, q⟩ => ?_
  refine tG_bind R q fun F1 H1 ρ1 x dx s1 R1 rx q1 => ?_
  refine tG_bind R1 q1 fun F2 H2 ρ2 y dy s2 R2 ry q2 => ?_
  obtain ⟨d, e, af⟩ := q2.lift R2
  exact ok F2 H2 x y dx dy d _ R2.fh (rx.mono s2) ry e af
end
end DL

namespace DL
open PySem L2
section
variable {c : Stat}
/-! ### statements -/
def seqM (a b : M Fl) : M Fl := bnd a fun f => match f with
  | .nx => b
  | f => ret f
def ifM (t : M Bool) (a b : M Fl) : M Fl := bnd t fun x => if x then a else b
def retM (e : M D) : M Fl := bnd e fun d => ret (.rt d)
def retN : M Fl := ret (.rt .non)
def dropM (e : M D) : M Fl := bnd e fun _ => ret .nx
def passM : M Fl := ret .nx
/-- a plain store: not over a mutable thing of its own -/
abbrev Tg := D → En → Option En
def put (i : Nat) : Tg := fun d ρ => match ρ[i]? with
  | some (.ow _) => none
  | some _ => some (ρ.set i (.fz d))
  | none => none
/-- target = e -/
def asgM (t : Tg) (e : M D) : M Fl := bnd e fun d ρ => match t d ρ with
  | some ρ' => .ok .nx ρ'
  | none => .bad
theorem Rel.put {G : Ent} {F H : Hp} {σ : L2.St} {ρ ρ' : En} {i : Nat} {v : V} {d : D} (R : Rel c.K c.mg c.xt G F H σ ρ) (r : Dn c.K c.mg F v d) (h : DL.put i d ρ = some ρ') : Rel c.K c.mg c.xt G F H (σ.set i (some v)) ρ' := by
  unfold DL.put at h
  have key : (∀ e, ρ[i]? ≠ some (.ow e)) ∧ i < ρ.length ∧ ρ' = ρ.set i (.fz d) := by
    cases e : ρ[i]? with
    | none => rw [e] at h; cases h
    | some s =>
      have hl : i < ρ.length := (List.getElem?_eq_some_iff.mp e).1
      cases s with
      | ow _ => rw [e] at h; cases h
      | un => rw [e] at h; cases h; exact ⟨(fun _ q => by cases q), hl, rfl⟩
      | xc _ => rw [e] at h; cases h; exact ⟨(fun _ q => by cases q), hl, rfl⟩
      | fz _ => rw [e] at h; cases h; exact ⟨(fun _ q => by cases q), hl, rfl⟩
  obtain ⟨nw, hl, rfl⟩ := key
  have hσ : i < σ.length := by rw [R.len]; exact hl
  have old : ∀ (j : Nat) (e : D), (ρ.set i (.fz d))[j]? = some (.ow e) → j ≠ i ∧ ρ[j]? = some (.ow e) := fun j e q => by
    by_cases hj : j = i
    · subst hj
      rw [List.getElem?_set_self hl] at q
      cases q
    · rw [List.getElem?_set_ne (Ne.symm hj)] at q
      exact ⟨hj, q⟩
  refine ⟨R.f0, R.fh, R.kept, fun p hp => ?_, fun j e q => ?_, fun j e q => ?_, fun j k a e f hjk q1 q2 q3 => ?_, ?_, fun p hp => ?_, R.fn, R.tbs, R.tb, R.xcSet (fun x q => by cases q) fun j hj => List.getElem?_set_ne (Ne.symm hj)⟩
  · obtain ⟨e, q⟩ := R.pw p hp
    have : p.1 ≠ i := fun z => nw e (by rw [← z]; exact q)
    rw [List.getElem?_set_ne (Ne.symm this)]
    exact R.par p hp
  · by_cases hj : j = i
    · subst hj
      rw [List.getElem?_set_self hl] at q
      cases q
      exact ⟨v, List.getElem?_set_self hσ, r⟩
    · rw [List.getElem?_set_ne (Ne.symm hj)] at q ⊢
      exact R.fz j e q
  · obtain ⟨hj, q'⟩ := old j e q
    rw [List.getElem?_set_ne (Ne.symm hj)]
    exact R.ow j e q'
  · obtain ⟨hj, q1'⟩ := old j e q1
    obtain ⟨hk, q2'⟩ := old k f q2
    rw [List.getElem?_set_ne (Ne.symm hj)] at q3
    rw [List.getElem?_set_ne (Ne.symm hk)]
    exact R.ne j k a e f hjk q1' q2' q3
  · rw [List.length_set, List.length_set]; exact R.len
  · obtain ⟨e, q⟩ := R.pw p hp
    have : p.1 ≠ i := fun z => nw e (by rw [← z]; exact q)
    exact ⟨e, by rw [List.getElem?_set_ne (Ne.symm this)]; exact q⟩
theorem es_ret {e : Expr} {f : M D} {pos : Pos} (h : ED c e f) : ES c (.Return (some e) pos) (retM f) := fun G X W _ z => by
  refine ps_imp (ps_ret (h G X W z)) fun Z σ H ⟨F, ρ, R, q⟩ => ?_
  refine tG_bindS R q fun F1 H1 ρ1 x dx s1 R1 rx q1 => ?_
  exact q1 x σ F1 H1 (Same.refl _) R1 rx
theorem es_retN {pos : Pos} : ES c (.Return none pos) retN := fun G X W _ z => ps_imp ps_retN fun Z σ H ⟨F, ρ, R, q⟩ => q _ σ F H (Same.refl _) R .non
theorem es_pass {pos : Pos} : ES c (.Pass pos) passM := fun G X W _ z => ps_imp ps_pass fun Z σ H ⟨F, ρ, R, q⟩ => q σ F H (Same.refl _) R
theorem es_break {pos : Pos} : ES c (.Break pos) (ret .bk) := fun G X W _ z => ps_imp ps_break fun Z σ H ⟨F, ρ, R, q⟩ => q σ F H (Same.refl _) R
theorem es_expr {e : Expr} {f : M D} {pos : Pos} (h : ED c e f) (hs : ∀ env, swapsWith e none pos.line env = pure false := by intro _; rfl) : ES c (.Expr e pos) (dropM f) := fun G X W _ z => by
  refine ps_imp (ps_expr (h G X W z) (hs _)) fun Z σ H ⟨F, ρ, R, q⟩ => ?_
  refine tG_bindS R q fun F1 H1 ρ1 x dx s1 R1 rx q1 => ?_
  exact q1 σ F1 H1 (Same.refl _) R1
theorem ess_nil : ESs c [] passM := fun G X W _ z => pss_imp pss_nil fun Z σ H ⟨F, ρ, R, q⟩ => q σ F H (Same.refl _) R
theorem ess_one {s : Stmt} {m : M Fl} (h : ES c s m) : ESs c [s] m := fun G X W p z => pss_one (h G X W p z)
theorem PostS.seq {G : Ent} {W : WX} {F : Hp} {a b : M Fl} {ρ : En} {Z : Ends} (h : PostS c G W F (seqM a b ρ) Z) : PostS c G W F (a ρ) { Z with nx := fun σ' H' => tS c G W b Z σ' H' } := by
  unfold seqM bnd at h
  cases e : a ρ with
  | bad => rw [e] at h; exact h
  | err x ρ' => rw [e] at h; exact h
  | ok f ρ' =>
    rw [e] at h
    cases f with
    | nx => exact fun σ' F' H' s R => ⟨F', ρ', R, PostS.mono s h⟩
    | bk => exact h
    | ct => exact h
    | rt d => exact h
    | ro d => exact h
theorem ess_cons {s : Stmt} {ss : List Stmt} {a b : M Fl} (ha : ES c s a) (hb : ESs c ss b) : ESs c (s :: ss) (seqM a b) := fun G X W p z => by
  refine pss_imp (pss_cons (ha G X W p z) (hb G X W p z)) fun Z σ H ⟨F, ρ, R, q⟩ => ?_
  exact ⟨F, ρ, R, PostS.seq q⟩
theorem es_if {t : Expr} {a b : List Stmt} {f : M Bool} {g k : M Fl} {pos : Pos} (ht : ET c t f) (ha : ESs c a g) (hb : ESs c b k) : ES c (.If t a b pos) (ifM f g k) := fun G X W p z => by
  refine ps_imp (ps_if (ht G X W z) (ha G X W p z) (hb G X W p z)) fun Z σ H ⟨F, ρ, R, q⟩ => ?_
  refine tG_bindS R q fun F1 H1 ρ1 x dx s1 R1 rx q1 => ?_
  subst rx
  cases x with
  | true => rw [if_pos rfl]; exact ⟨F1, ρ1, R1, q1⟩
  | false => rw [if_neg Bool.false_ne_true]; exact ⟨F1, ρ1, R1, q1⟩

/-! ### targets -/
/-- slots but these are as they were -/
def SlotsBut (sl : List Nat) (σ σ' : L2.St) : Prop := σ'.length = σ.length ∧ ∀ j, j ∉ sl → σ'[j]? = σ[j]?
def EG (c : Stat) (tg : Expr) (sl : List Nat) (t : Tg) : Prop := ∃ g, (∀ X W, Cz c X W → PG X tg g) ∧ ∀ G F H σ ρ ρ' x d Q, Rel c.K c.mg c.xt G F H σ ρ → Dn c.K c.mg F x d → t d ρ = some ρ' → (∀ σ', Rel c.K c.mg c.xt G F H σ' ρ' → SlotsBut sl σ σ' → Q σ' H) → g x σ H Q
def EGs (c : Stat) (tgs : List Expr) (sl : List Nat) (t : List D → En → Option En) : Prop := ∃ g, (∀ X W, Cz c X W → PGs X tgs g) ∧ ∀ G F H σ ρ ρ' xs ds Q, Rel c.K c.mg c.xt G F H σ ρ → Dns c.K c.mg F xs ds → t ds ρ = some ρ' → (∀ σ', Rel c.K c.mg c.xt G F H σ' ρ' → SlotsBut sl σ σ' → Q σ' H) → g xs σ H Q
/-- the name in slot i can be stored -/
def Lc (c : Stat) (i : Nat) (x : Str) : Prop := c.N[i]? = some x ∧ (c.sc.names.lookup x = some .local ∨ (c.sc.names.lookup x = some .cell ∧ c.raw.names.lookup x = some .cell))
theorem eg_name {i : Nat} {x : Str} {pos : Pos} (h : Lc c i x) : EG c (.Name x pos) [i] (put i) := by
  refine ⟨gName i, fun X W z => pg_name (by rw [z.N]; exact z.nd) (by rw [z.N]; exact h.1) ?_ ?_, ?_⟩
  · show L2.Loc X.env.scope x
    rw [z.sc]; exact h.2.imp (fun k => k) (fun k => k.1)
  · rcases h.2 with k | k
    · exact .inr (by rw [z.sc]; exact k)
    · exact .inl (z.fnc x k.2)
  · intro G F H σ ρ ρ' x d Q R r e q
    exact q _ (R.put r e) ⟨List.length_set .., fun j hj => List.getElem?_set_ne (fun z => hj (by rw [z]; exact List.mem_cons_self))⟩
def tgN : List D → En → Option En := fun ds ρ => match ds with
  | [] => some ρ
  | _ => none
def tgC (t : Tg) (u : List D → En → Option En) : List D → En → Option En := fun ds ρ => match ds with
  | d :: r => (t d ρ).bind (u r)
  | [] => none
def tgT (n : Nat) (t : List D → En → Option En) : Tg := fun d ρ => match d with
  | .tup ds => if ds.length = n then t ds ρ else none
  | _ => none
theorem egs_nil : EGs c [] [] tgN := ⟨gNil, fun X W z => pgs_nil, fun G F H σ ρ ρ' xs ds Q R r e q => by
  cases r with
  | nil => cases e; exact ⟨rfl, q σ R ⟨rfl, fun _ _ => rfl⟩⟩
  | cons _ _ => cases e⟩
theorem egs_cons {e : Expr} {es : List Expr} {t : Tg} {u : List D → En → Option En} {sl sl' : List Nat} (h : EG c e sl t) (hs : EGs c es sl' u) (ha : ∀ env, List.map (fun x => x.snd) (assignEach (e :: es) env) = assign e env :: List.map (fun x => x.snd) (assignEach es env) := by intro _; rfl) : EGs c (e :: es) (sl ++ sl') (tgC t u) := by
  obtain ⟨g, pg, kg⟩ := h
  obtain ⟨gs, pgs, kgs⟩ := hs
  refine ⟨gCons g gs, fun X W z => pgs_cons (pg X W z) (pgs X W z) (ha _), fun G F H σ ρ ρ' xs ds Q R r e q => ?_⟩
  cases r with
  | nil => cases e
  | cons r1 r2 =>
    refine ⟨_, _, rfl, ?_⟩
    unfold tgC at e
    dsimp only at e
    cases e1 : t _ ρ with
    | none => rw [e1] at e; cases e
    | some ρ1 =>
      rw [e1] at e
      exact kg G F H σ ρ ρ1 _ _ _ R r1 e1 fun σ' R' b1 => kgs G F H σ' ρ1 ρ' _ _ Q R' r2 e fun σ2 R2 b2 => q σ2 R2 ⟨b2.1.trans b1.1, fun j hj => (b2.2 j fun z => hj (List.mem_append_right _ z)).trans (b1.2 j fun z => hj (List.mem_append_left _ z))⟩
theorem eg_tup {es : List Expr} {k : Nat} {pos : Pos} {t : List D → En → Option En} {n : Nat} {sl : List Nat} (h : EGs c es sl t) (hn : ∀ env, (assignEach es env).length = n := by intro _; rfl) (hf : ∀ env, List.findIdx? (fun x => x.fst) (assignEach es env) = none := by intro _; rfl) (hc : c.hot = false := by first | rfl | assumption) : EG c (.Tuple es k pos) sl (tgT n t) := by
  obtain ⟨g, pg, kg⟩ := h
  refine ⟨gTup c.K n g, fun X W z => (by rw [← z.K]; exact pg_tup (z.calm hc) (pg X W z) (hn _) (hf _)), fun G F H σ ρ ρ' x d Q R r e q => ?_⟩
  unfold tgT at e
  cases r <;> try cases e
  rename_i h1 r1 l1
  dsimp only at e
  split at e
  · rename_i hl
    exact ⟨_, _, rfl, same_t R.fh h1, by rw [r1.length]; exact hl, kg G F H σ ρ ρ' _ _ Q R r1 e q⟩
  · cases e
theorem es_asg {tg e : Expr} {f : M D} {t : Tg} {sl : List Nat} {pos : Pos} (he : ED c e f) (hg : EG c tg sl t) (h1 : ∀ X W, Cz c X W → swapsWithSole [tg] e pos.line X.env = pure false := by intro _ _ _; rfl) (h2 : ∀ X W, Cz c X W → swappedStores [tg] e X.env = pure none := by intro _ _ _; rfl)
    (h3 : ∀ env, List.map (fun x => x.snd) (assignEach [tg] env) = [assign tg env] := by intro _; rfl) : ES c (.Assign [tg] e pos) (asgM t f) := fun G X W p z => by
  obtain ⟨g, pg, kg⟩ := hg
  refine ps_imp (ps_asg (he G X W z) (pg X W z) (h1 X W z) (h2 X W z) (h3 _)) fun Z σ H ⟨F, ρ, R, q⟩ => ?_
  refine tG_bindS R q fun F1 H1 ρ1 x dx s1 R1 rx q1 => ?_
  cases e : t dx ρ1 with
  | none => rw [e] at q1; exact q1.elim
  | some ρ' => rw [e] at q1; exact kg G F1 H1 σ ρ1 ρ' x dx Z.nx R1 rx e fun σ' R' _ => q1 σ' F1 H1 (Same.refl _) R'
/-! ### loops -/
/-- J walks the items ds -/
def Walks (c : Stat) (F : Hp) (J : It) (ds : List D) : Prop := ∀ (i : Nat) F1 H1, Same F F1 → Same F1 H1 →
  (∀ d, ds[i]? = some d → J.go i H1 ∧ ∀ x H2, J.yld i H1 x H2 → ∃ F2, Ext F1 H1 F2 H2 ∧ Dn c.K c.mg F2 x d) ∧ (ds.length ≤ i → J.stop i H1) ∧ ds.length ≤ sz
abbrev tI (c : Stat) (G : Ent) (W : WX) (m : M (List D)) : TI := tG (Walks c) c G W m
def EI (c : Stat) (tg e : Expr) (m : M (List D)) : Prop := ∀ G X W, Cz c X W → PI X tg e (tI c G W m)
theorem pi_imp {X : Cx} {tg e : Expr} {t t' : TI} (h : PI X tg e t) (i : ∀ σ H Q, t' σ H Q → t σ H Q) : PI X tg e t' := ⟨fun pins s σ H Q I q => h.run pins s σ H Q I (i _ _ _ q)⟩
def forL (t : Tg) (body : M Fl) : List D → M Fl
  | [] => ret .nx
  | d :: r => fun ρ => match t d ρ with
    | none => .bad
    | some ρ' => match body ρ' with
      | .ok .nx ρ2 => forL t body r ρ2
      | .ok .ct ρ2 => forL t body r ρ2
      | .ok .bk ρ2 => .ok .nx ρ2
      | o => o
def forM (src : M (List D)) (t : Tg) (body : M Fl) : M Fl := bnd src (forL t body)
theorem es_for {tg iter : Expr} {body : List Stmt} {src : M (List D)} {t : Tg} {sl : List Nat} {m : M Fl} {pos : Pos} (hi : EI c tg iter src) (hg : EG c tg sl t) (hb : ESs c body m) (hs : ∀ env x, foldedSetIterable iter env x = pure x := by intro _ _; rfl) (hc : c.hot = false := by first | rfl | assumption) : ES c (.For tg iter body [] pos) (forM src t m) := fun G X W p z => by
  obtain ⟨g, pg, kg⟩ := hg
  refine ps_imp (ps_for z.po (z.calm hc) (hi G X W z) (pg X W z) (hb G X W p z) (hs _)) fun Z σ H ⟨F, ρ, R, q⟩ => ?_
  refine tG_bindS R q fun F1 H1 ρ1 J ds s1 R1 wk q1 => ?_
  refine ⟨fun i n σ' H' => ∃ F' ρ', Same F1 F' ∧ Rel c.K c.mg c.xt G F' H' σ' ρ' ∧ n = ds.length - i ∧ i ≤ ds.length ∧ PostS c G W F' (forL t m (ds.drop i) ρ') Z, ⟨ds.length, F1, ρ1, Same.refl _, R1, by simp, Nat.zero_le _, q1⟩, ?_⟩
  rintro i n σ' H' ⟨F', ρ', s', R', rfl, hi, q'⟩
  obtain ⟨go, stop, _⟩ := wk i F' H' s' R'.fh
  by_cases hlt : i < ds.length
  · right
    have hd : ds[i]? = some ds[i] := List.getElem?_eq_getElem hlt
    obtain ⟨hgo, hy⟩ := go _ hd
    refine ⟨hgo, fun σ2 H2 => ∃ F2 ρ2, Same F1 F2 ∧ Rel c.K c.mg c.xt G F2 H2 σ2 ρ2 ∧ PostS c G W F2 (forL t m (ds.drop (i + 1)) ρ2) Z, ?_, fun x H2 y => ?_⟩
    · rintro σ2 H2 ⟨F2, ρ2, s2, R2, q2⟩
      exact ⟨ds.length - (i + 1), by omega, F2, ρ2, s2, R2, rfl, hlt, q2⟩
    · obtain ⟨F2, ex, rx⟩ := hy x H2 y
      have R2 := R'.ext ex
      have q2 := PostS.mono ex.ff q'
      rw [List.drop_eq_getElem_cons hlt] at q2
      unfold forL at q2
      cases e : t ds[i] ρ' with
      | none => simp only [e] at q2; exact q2.elim
      | some ρ2 =>
        simp only [e] at q2
        refine kg G F2 H2 σ' ρ' ρ2 x _ _ R2 rx e fun σ3 R3 _ => ⟨F2, ρ2, R3, ?_⟩
        have sF := s'.trans ex.ff
        cases e2 : m ρ2 with
        | bad => rw [e2] at q2; exact q2.elim
        | err x ρ3 => rw [e2] at q2; exact q2
        | ok f ρ3 =>
          rw [e2] at q2
          cases f with
          | nx => exact fun σ4 F4 H4 s4 R4 => ⟨F4, ρ3, sF.trans s4, R4, PostS.mono s4 q2⟩
          | ct => exact fun σ4 F4 H4 s4 R4 => ⟨F4, ρ3, sF.trans s4, R4, PostS.mono s4 q2⟩
          | bk => exact q2
          | rt d => exact q2
          | ro d => exact q2
  · left
    have e : i = ds.length := by omega
    subst e
    refine ⟨stop (Nat.le_refl _), ?_⟩
    rw [List.drop_length] at q'
    exact q' σ' F' H' (Same.refl _) R'
/-- while, with so many turns at most -/
def whL (t : M Bool) (body : M Fl) : Nat → M Fl
  | 0 => fun _ => .bad
  | n + 1 => bnd t fun b => if b then fun ρ => (match body ρ with
      | .ok .nx ρ2 => whL t body n ρ2
      | .ok .ct ρ2 => whL t body n ρ2
      | .ok .bk ρ2 => .ok .nx ρ2
      | o => o) else ret .nx
def whM (n : En → Nat) (t : M Bool) (body : M Fl) : M Fl := fun ρ => whL t body (n ρ) ρ
theorem es_while {t : Expr} {body : List Stmt} {f : M Bool} {m : M Fl} {pos : Pos} (n : En → Nat) (ht : ET c t f) (hb : ESs c body m) : ES c (.While t body [] pos) (whM n f m) := fun G X W p z => by
  refine ps_imp (ps_while z.po (ht G X W z) (hb G X W p z)) fun Z σ H ⟨F, ρ, R, q⟩ => ?_
  refine ⟨fun k σ' H' => ∃ F' ρ', Rel c.K c.mg c.xt G F' H' σ' ρ' ∧ PostS c G W F' (whL f m k ρ') Z, ⟨n ρ, F, ρ, R, q⟩, ?_⟩
  rintro k σ' H' ⟨F', ρ', R', q'⟩
  cases k with
  | zero => exact q'.elim
  | succ k =>
    unfold whL at q'
    refine tG_bindS R' q' fun F1 H1 ρ1 b b' s1 R1 rb q1 => ?_
    subst rb
    cases b with
    | false => rw [if_neg Bool.false_ne_true]; exact q1 σ' F1 H1 (Same.refl _) R1
    | true =>
      rw [if_pos rfl]
      refine ⟨fun σ2 H2 => ∃ F2 ρ2, Rel c.K c.mg c.xt G F2 H2 σ2 ρ2 ∧ PostS c G W F2 (whL f m k ρ2) Z, fun σ2 H2 ⟨F2, ρ2, R2, q2⟩ => ⟨k, Nat.lt_succ_self _, F2, ρ2, R2, q2⟩, F1, ρ1, R1, ?_⟩
      rw [if_pos rfl] at q1
      cases e2 : m ρ1 with
      | bad => rw [e2] at q1; exact q1.elim
      | err x ρ3 => rw [e2] at q1; exact q1
      | ok f ρ3 =>
        rw [e2] at q1
        cases f with
        | nx => exact fun σ4 F4 H4 s4 R4 => ⟨F4, ρ3, R4, PostS.mono s4 q1⟩
        | ct => exact fun σ4 F4 H4 s4 R4 => ⟨F4, ρ3, R4, PostS.mono s4 q1⟩
        | bk => exact q1
        | rt d => exact q1
        | ro d => exact q1
end
end DL

namespace DL
open PySem L2
section
variable {c : Stat}
/-! ### what is walked -/
theorem pi_any {X : Cx} {tg l : Expr} {tl : TE} (hl : PE X l tl) : PI X tg l (fun σ H R => tl σ H fun x H1 => (∃ a, x = .ref a ∧ (∃ xs, SqL X.K H1 a xs) ∧ R (Itl X.K a) H1) ∨ (∃ a, x = .ref a ∧ (∃ xs, SqT X.K H1 a xs) ∧ R (Itt X.K a) H1) ∨ (∃ z, x = .str z ∧ R (Its z) H1) ∨
    (∃ d o kvs, x = .ref d ∧ H1 d = some (.frz o (.dK kvs)) ∧ R (Itk d o kvs) H1)) := by
  refine ⟨fun pins s σ H R I h => ?_⟩
  refine thn (hl.run pins s σ H _ I h) fun v s1 ⟨x, H1, I1, r1, q1⟩ => ?_
  rcases q1 with ⟨a, e, ⟨xs, hq⟩, q⟩ | ⟨a, e, ⟨xs, hq⟩, q⟩ | ⟨x, ex, q⟩ | ⟨d, o, kvs, ex, hd, q⟩
  · subst e
    cases r1
    obtain ⟨its, rv, p, hz⟩ := I1.list hq
    refine wpAny_pyIter_list p.isList ?_
    refine ⟨s1.heap.objs.size, [s1.heap.objs.size], _, _, H1, rfl, I1.kept (t' := s1.toks) fun b o e => Heap.get?_push_of_some _ e, turn_list a _, ⟨_, Heap.get?_push_size _ rfl, rfl, rfl⟩, fun b hb => ?_, q⟩
    have e : b = s1.heap.objs.size := by simpa using hb
    subst e
    exact I1.fpOk (Nat.le_refl _) (I1.hok.fresh (Nat.le_refl _))
  · subst e
    cases r1
    obtain ⟨its, rv, p, hz⟩ := I1.tuple hq
    refine wpAny_pyIter_tuple (show s1.heap.IsTuple a its.toArray from p) ?_
    refine ⟨s1.heap.objs.size, [s1.heap.objs.size], _, _, H1, rfl, I1.kept (t' := s1.toks) fun b o e => Heap.get?_push_of_some _ e, turn_tuple a _, ⟨_, Heap.get?_push_size _ rfl, rfl, rfl⟩, fun b hb => ?_, q⟩
    have e : b = s1.heap.objs.size := by simpa using hb
    subst e
    exact I1.fpOk (Nat.le_refl _) (I1.hok.fresh (Nat.le_refl _))
  · subst ex
    obtain ⟨t, rfl⟩ := r1
    cases ha : x.cps.all (· < 128)
    · exact wpAny_pyIter_wide ha (pi_one (tk := s1.toks) I1 _ (turn_str _ x t "str_iterator" (.inr rfl)) ⟨_, Heap.get?_push_size _ rfl, rfl, rfl⟩ q)
    · exact wpAny_pyIter_ascii ha (pi_one (tk := s1.toks) I1 _ (turn_str _ x t "str_ascii_iterator" (.inl rfl)) ⟨_, Heap.get?_push_size _ rfl, rfl, rfl⟩ q)
  · subst ex
    obtain rfl : v = Value.ref d := r1
    obtain ⟨hs, hgd, hx, es, ep, vs, hdt, hsz, kv, hm⟩ := I1.frzK hd
    refine iter_keys hs hgd hx hdt (pi_one (tk := s1.toks) I1 _ (turn_keys _ hdt) ⟨_, Heap.get?_push_size _ rfl, rfl, ?_⟩ q)
    rw [hsz] <;> rfl
def dSeq : D → Option (List D)
  | .lst xs => some xs
  | .tup xs => some xs
  | .str cs => some (cs.map fun n => .str [n])
  | _ => none
def seqS (a : M D) : M (List D) := bnd a fun x => lift (dSeq x)
theorem walks_here {F : Hp} {J : It} {ds : List D} {n : Nat} (hn : ds.length = n) (hz : n ≤ sz) (P : Hp → Prop) (hP : ∀ F1 H1, Same F F1 → Same F1 H1 → P H1) (go : ∀ (i : Nat) H1, P H1 → i < n → J.go i H1) (yl : ∀ (i : Nat) H1 x H2, P H1 → i < n → J.yld i H1 x H2 → H2 = H1 ∧ ∃ d, ds[i]? = some d ∧ Dn c.K c.mg F x d) (st : ∀ (i : Nat) H1, P H1 → n ≤ i → J.stop i H1) : Walks c F J ds := by
  intro i F1 H1 s1 s2
  have p := hP F1 H1 s1 s2
  refine ⟨fun d hd => ?_, fun h => st i H1 p (by omega), by omega⟩
  have hi : i < n := by have := (List.getElem?_eq_some_iff.mp hd).1; omega
  refine ⟨go i H1 p hi, fun x H2 y => ?_⟩
  obtain ⟨rfl, d', hd', r⟩ := yl i H1 x H2 p hi y
  rw [hd] at hd'; cases hd'
  exact ⟨F1, Ext.refl s2, r.mono s1⟩
theorem walks_list {F : Hp} {K' : PySem.W.Frag} {a : Addr} {vs : List V} {ds : List D} (hK : K' = c.K) (h : Rd F a (.lst vs)) (r : Dns c.K c.mg F vs ds) (hl : ds.length ≤ sz) : Walks c F (Itl K' a) ds := by
  have hv := r.length
  refine walks_here rfl hl (fun H1 => Rd H1 a (.lst vs)) (fun F1 H1 s1 s2 => same_rd (s1.trans s2) h) (fun i H1 p hi => ⟨vs, vs[i]'(by omega), .inl p, List.getElem?_eq_getElem (by omega)⟩) (fun i H1 x H2 p hi y => ?_) (fun i H1 p hi => ⟨vs, .inl p, by omega⟩)
  obtain ⟨e, y⟩ := y
  obtain ⟨d, h1, h2⟩ := r.getV (y vs (.inl p))
  exact ⟨e, d, h1, h2⟩
theorem walks_tup {F : Hp} {K' : PySem.W.Frag} {a : Addr} {vs : List V} {ds : List D} (hK : K' = c.K) (h : SqT c.K F a vs) (r : Dns c.K c.mg F vs ds) (hl : ds.length ≤ sz) : Walks c F (Itt K' a) ds := by
  subst hK
  have hv := r.length
  refine walks_here rfl hl (fun H1 => SqT c.K H1 a vs) (fun F1 H1 s1 s2 => same_t (s1.trans s2) h) (fun i H1 p hi => ⟨vs, vs[i]'(by omega), p, List.getElem?_eq_getElem (by omega)⟩) (fun i H1 x H2 p hi y => ?_) (fun i H1 p hi => ⟨vs, p, by omega⟩)
  obtain ⟨e, y⟩ := y
  obtain ⟨d, h1, h2⟩ := r.getV (y vs p)
  exact ⟨e, d, h1, h2⟩
theorem walks_str {F : Hp} {cs : Cs} (h : okS cs) : Walks c F (Its (toS cs)) (cs.map fun n => .str [n]) := by
  have hsz : (toS cs).cps.size = cs.length := by simp [toS]
  refine walks_here (n := cs.length) (by simp) h.1 (fun _ => True) (fun _ _ _ _ => trivial) (fun i H1 _ hi => ?_) (fun i H1 x H2 _ hi y => ?_) (fun i H1 _ hi => ?_)
  · show i < (toS cs).cps.size
    omega
  · obtain ⟨e, n, h1, h2⟩ := y
    have h3 : cs[i]? = some n := by simpa [toS] using h1
    refine ⟨e, .str [n], by simp [h3], ?_⟩
    rw [h2]
    exact .str [n] (okS_one (h.2 n (List.mem_of_getElem? h3)))
  · show (toS cs).cps.size ≤ i
    omega
theorem Post.liftS {G : Ent} {W : WX} {σ : L2.St} {H F : Hp} {ρ : En} {o : Option (List D)} {R : It → Hp → Prop} (r : Rel c.K c.mg c.xt G F H σ ρ) (h : Post (Walks c) c G W F σ (DL.lift o ρ) R) : ∃ ds, o = some ds ∧ ∀ J, Walks c F J ds → R J H := by
  cases o with
  | none => exact h.elim
  | some d => exact ⟨d, rfl, fun J w => h J F H (Same.refl _) r w⟩
theorem ei_seq {tg e : Expr} {f : M D} (he : ED c e f) : EI c tg e (seqS f) := fun G X W z => by
  refine pi_imp (pi_any (he G X W z)) fun σ H R ⟨F, ρ, r, q⟩ => ?_
  refine tG_bind r q fun F1 H1 ρ1 x dx s1 R1 rx q1 => ?_
  obtain ⟨ds, e, k⟩ := q1.liftS R1
  cases rx <;> simp only [dSeq] at e <;> try cases e
  · rename_i h1
    exact .inr (.inr (.inl ⟨_, rfl, k _ (walks_str h1)⟩))
  · rename_i h1 r1 l1
    exact .inr (.inl ⟨_, rfl, ⟨_, by rw [z.K]; exact same_t R1.fh h1⟩, k _ (walks_tup z.K h1 r1 l1)⟩)
  · rename_i h1 r1 l1
    exact .inl ⟨_, rfl, ⟨_, .inl (same_rd R1.fh h1)⟩, k _ (walks_list z.K h1 r1 l1)⟩
/-- range -/
def rng (lo : Int) (n : Nat) : List D := (List.range n).map fun (i : Nat) => .int (lo + (i : Int))
def dRng1 : List D → Option (List D)
  | [.int j] => if j.toNat ≤ sz ∧ -(2 ^ 62) ≤ j then some (rng 0 j.toNat) else none
  | _ => none
def dRng2 : List D → Option (List D)
  | [.int i, .int j] => if (j - i).toNat ≤ sz ∧ -(2 ^ 62) ≤ i ∧ i < 2 ^ 62 ∧ -(2 ^ 62) ≤ j ∧ j < 2 ^ 62 then some (rng i (j - i).toNat) else none
  | _ => none
def srcL (r : List D → Option (List D)) (a : M (List D)) : M (List D) := bnd a fun x => lift (r x)
theorem walks_rng {F : Hp} {lo : Int} {n : Nat} (h : n ≤ sz) : Walks c F (Itr lo n) (rng lo n) := by
  refine walks_here (n := n) (by simp [rng]) h (fun _ => True) (fun _ _ _ _ => trivial) (fun i H1 _ hi => hi) (fun i H1 x H2 _ hi y => ?_) (fun i H1 _ hi => hi)
  obtain ⟨e, rfl⟩ := y
  refine ⟨e, .int (lo + i), ?_, .int _⟩
  simp [rng, hi]
theorem ei_range1 {tg a : Expr} {f : M (List D)} {p pos : Pos} (hg : Gn c "range") (hm : c.mg "range" = none) (ha : EA c [a] f) (hs : ∀ env, starEach [a] env = [(false, eval a env)] := by intro _; rfl) : EI c tg (.Call (.Name "range" p) [a] [] pos) (srcL dRng1 f) := fun G X W z => by
  refine pi_imp (pi_range1 (hg.gl z) (by rw [z.mg]; exact hm) (ha G X W z) (hs _)) fun σ H R ⟨F, ρ, r, q⟩ => ?_
  refine tG_bind r q fun F1 H1 ρ1 x dx s1 R1 rx q1 => ?_
  obtain ⟨ds, e, k⟩ := q1.liftS R1
  unfold dRng1 at e
  split at e
  · rename_i j
    split at e <;> cases e
    rename_i hj
    cases rx with
    | cons r1 r2 =>
      cases r1; cases r2
      have hj' : j.toNat ≤ 16777216 := hj.1
      exact ⟨j, rfl, hj.2, by omega, k _ (walks_rng hj.1)⟩
  · cases e
theorem ei_range2 {tg a b : Expr} {f : M (List D)} {p pos : Pos} (hg : Gn c "range") (hm : c.mg "range" = none) (ha : EA c [a, b] f) (hs : ∀ env, starEach [a, b] env = [(false, eval a env), (false, eval b env)] := by intro _; rfl) (hs2 : ∀ env, starEach [b] env = [(false, eval b env)] := by intro _; rfl) : EI c tg (.Call (.Name "range" p) [a, b] [] pos) (srcL dRng2 f) := fun G X W z => by
  refine pi_imp (pi_range2 (hg.gl z) (by rw [z.mg]; exact hm) (ha G X W z) (hs _) (hs2 _)) fun σ H R ⟨F, ρ, r, q⟩ => ?_
  refine tG_bind r q fun F1 H1 ρ1 x dx s1 R1 rx q1 => ?_
  obtain ⟨ds, e, k⟩ := q1.liftS R1
  unfold dRng2 at e
  split at e
  · rename_i i j
    split at e <;> cases e
    rename_i hj
    cases rx with
    | cons r1 r2 =>
      cases r1
      cases r2 with
      | cons r1 r2 =>
        cases r1; cases r2
        exact ⟨i, j, rfl, hj.2, k _ (walks_rng hj.1)⟩
  · cases e

/-! ### list comprehensions -/
def wipeE (ρ : En) : List Nat → En
  | [] => ρ
  | v :: vs => (wipeE ρ vs).set v .un
theorem wipeE_length (ρ : En) : ∀ vs, (wipeE ρ vs).length = ρ.length
  | [] => rfl
  | v :: vs => by unfold wipeE; rw [List.length_set, wipeE_length ρ vs]
theorem wipeE_out {ρ : En} {i : Nat} : ∀ {vs : List Nat}, i ∉ vs → (wipeE ρ vs)[i]? = ρ[i]?
  | [], _ => rfl
  | v :: vs, h => by
    have h1 : v ≠ i := fun e => h (by rw [e]; exact List.mem_cons_self)
    have h2 : i ∉ vs := fun m => h (List.mem_cons_of_mem _ m)
    unfold wipeE
    rw [List.getElem?_set_ne h1]
    exact wipeE_out h2
theorem wipeE_in {ρ : En} {i : Nat} : ∀ {vs : List Nat}, i ∈ vs → (wipeE ρ vs)[i]? = none ∨ (wipeE ρ vs)[i]? = some .un
  | v :: vs, h => by
    unfold wipeE
    by_cases hv : v = i
    · subst hv
      by_cases hl : v < (wipeE ρ vs).length
      · exact .inr (List.getElem?_set_self hl)
      · exact .inl (List.getElem?_eq_none (by rw [List.length_set]; omega))
    · rw [List.getElem?_set_ne hv]
      rcases List.mem_cons.mp h with e | e
      · exact absurd e.symm hv
      · exact wipeE_in e
def noOw (ρ : En) (vs : List Nat) : Bool := vs.all fun i => match ρ[i]? with
  | some (.ow _) => false
  | _ => true
theorem noOw_of {ρ : En} {vs : List Nat} (h : noOw ρ vs = true) {i : Nat} (hi : i ∈ vs) (d : D) : ρ[i]? ≠ some (.ow d) := fun e => by
  have := List.all_eq_true.mp h i hi
  rw [e] at this
  cases this
theorem Rel.wipe {G : Ent} {F H : Hp} {σ : L2.St} {ρ : En} {vs : List Nat} (R : Rel c.K c.mg c.xt G F H σ ρ) (h : noOw ρ vs = true) : Rel c.K c.mg c.xt G F H (L2.wipe σ vs) (wipeE ρ vs) := by
  have out : ∀ (i : Nat) (s : Sl), (wipeE ρ vs)[i]? = some s → s = .un ∨ (i ∉ vs ∧ ρ[i]? = some s) := fun i s e => by
    by_cases hi : i ∈ vs
    · rcases wipeE_in (ρ := ρ) hi with q | q <;> rw [q] at e <;> cases e
      exact .inl rfl
    · rw [wipeE_out hi] at e
      exact .inr ⟨hi, e⟩
  refine ⟨R.f0, R.fh, R.kept, fun p hp => ?_, fun i d e => ?_, fun i d e => ?_, fun i j a d e hij q1 q2 q3 => ?_, ?_, fun p hp => ?_, R.fn, R.tbs, R.tb, fun i x e => ?_⟩
  · obtain ⟨d, q⟩ := R.pw p hp
    have : p.1 ∉ vs := fun m => noOw_of h m d q
    rw [wipe_out this]
    exact R.par p hp
  · rcases out i _ e with q | ⟨hi, q⟩
    · cases q
    · rw [wipe_out hi]; exact R.fz i d q
  · rcases out i _ e with q | ⟨hi, q⟩
    · cases q
    · rw [wipe_out hi]; exact R.ow i d q
  · rcases out i _ q1 with q | ⟨hi, q1'⟩
    · cases q
    rcases out j _ q2 with q | ⟨hj, q2'⟩
    · cases q
    rw [wipe_out hi] at q3
    rw [wipe_out hj]
    exact R.ne i j a d e hij q1' q2' q3
  · rw [wipe_length, wipeE_length]; exact R.len
  · obtain ⟨d, q⟩ := R.pw p hp
    have : p.1 ∉ vs := fun m => noOw_of h m d q
    exact ⟨d, by rw [wipeE_out this]; exact q⟩
  · rcases out i _ e with q | ⟨hi, q⟩
    · cases q
    · rw [wipe_out hi]; exact R.xc i x q
/-- the names of a comprehension as they were -/
def back (ρ ρ' : En) (vs : List Nat) : En := vs.foldr (fun i r => match ρ[i]? with
  | some s => r.set i s
  | none => r) ρ'
theorem back_length (ρ ρ' : En) : ∀ vs, (back ρ ρ' vs).length = ρ'.length
  | [] => rfl
  | v :: vs => by
    show (match ρ[v]? with | some s => (back ρ ρ' vs).set v s | none => back ρ ρ' vs).length = _
    split
    · rw [List.length_set, back_length ρ ρ' vs]
    · exact back_length ρ ρ' vs
theorem back_out {ρ ρ' : En} {i : Nat} : ∀ {vs : List Nat}, i ∉ vs → (back ρ ρ' vs)[i]? = ρ'[i]?
  | [], _ => rfl
  | v :: vs, h => by
    have h1 : v ≠ i := fun e => h (by rw [e]; exact List.mem_cons_self)
    have h2 : i ∉ vs := fun m => h (List.mem_cons_of_mem _ m)
    show (match ρ[v]? with | some s => (back ρ ρ' vs).set v s | none => back ρ ρ' vs)[i]? = _
    split
    · rw [List.getElem?_set_ne h1]; exact back_out h2
    · exact back_out h2
theorem back_in {ρ ρ' : En} {i : Nat} (hl : ρ.length = ρ'.length) : ∀ {vs : List Nat}, i ∈ vs → (back ρ ρ' vs)[i]? = ρ[i]?
  | v :: vs, h => by
    show (match ρ[v]? with | some s => (back ρ ρ' vs).set v s | none => back ρ ρ' vs)[i]? = _
    by_cases hv : v = i
    · subst hv
      split
      · rename_i s e
        have : v < ρ.length := (List.getElem?_eq_some_iff.mp e).1
        rw [List.getElem?_set_self (by rw [back_length]; omega), e]
      · rename_i e
        have : ρ.length ≤ v := List.getElem?_eq_none_iff.mp e
        rw [List.getElem?_eq_none (by rw [back_length]; omega), e]
    · have hm : i ∈ vs := by
        rcases List.mem_cons.mp h with e | e
        · exact absurd e.symm hv
        · exact e
      split
      · rw [List.getElem?_set_ne hv]; exact back_in hl hm
      · exact back_in hl hm
def ETs (c : Stat) (ifs : List Expr) (m : M Bool) : Prop := ∀ G X W, Cz c X W → PTs X ifs (tT c G W m)
theorem pts_imp {X : Cx} {e : List Expr} {t t' : TT} (h : PTs X e t) (i : ∀ σ H Q, t' σ H Q → t σ H Q) : PTs X e t' := ⟨fun pins s σ H Q I q => h.run pins s σ H Q I (i _ _ _ q)⟩
theorem ets_nil : ETs c [] (ret true) := fun G X W z => pts_imp pts_nil fun σ H Q ⟨F, ρ, R, q⟩ => q true F H (Same.refl _) R rfl
theorem ets_one {e : Expr} {f : M Bool} (h : ET c e f) : ETs c [e] f := fun G X W z => pts_one (h G X W z)
def lcL (vs : List Nat) (t : Tg) (mt : M Bool) (me : M D) : List D → List D → M (List D)
  | [], acc => ret acc
  | d :: r, acc => fun ρ => match t d ρ with
    | none => .bad
    | some ρ1 => match mt ρ1 with
      | .ok true ρ2 => (match me ρ2 with
        | .ok y ρ3 => if noOw ρ3 vs then lcL vs t mt me r (acc ++ [y]) (wipeE ρ3 vs) else .bad
        | _ => .bad)
      | .ok false ρ2 => if noOw ρ2 vs then lcL vs t mt me r acc (wipeE ρ2 vs) else .bad
      | _ => .bad
def lcM (src : M (List D)) (vs : List Nat) (t : Tg) (mt : M Bool) (me : M D) : M D := bnd src fun ds ρ => if noOw ρ vs then (match lcL vs t mt me ds [] (wipeE ρ vs) with
  | .ok ys ρ' => .ok (.lst ys) (back ρ ρ' vs)
  | _ => .bad) else .bad
abbrev Stat.blk (c : Stat) (scope : Scope) : Stat := { c with sc := relS scope c.sc, raw := scope, lam := none, fr := false }
theorem cz_blk {X : Cx} {W : WX} (z : Cz c X W) (hc : c.hot = false) (s : Shared) (H : Hp) (scope : Scope) (cl : List (Str × Addr)) (C : Addr) (fp : List Addr) : Cz (c.blk scope) (X.blk s H scope (compEnvC scope cl C X.env) fp) (fun _ _ _ _ => False) where
  P := z.P
  w := z.w
  K := z.K
  mg := z.mg
  base := z.base
  N := z.N
  sc := by
    show (relabel scope X.env) = relS scope c.sc
    rw [← z.sc]
    rfl
  nd := z.nd
  fnc := fun y h => by
    show (scope.names.lookup y == some .cell) = true
    rw [show scope.names.lookup y = some .cell from h]
    rfl
  calm := z.calm
  lm := fun _ _ e => nomatch e
  fr := fun e => nomatch e
  room := z.room
  hd := z.hd
  xh := z.xh
  xp := fun p hp => by
    have hp : c.xe = some p := hp
    rw [z.xh hc] at hp; cases hp
  gd := z.gd
  tk := takes0
  po := PassesOwn.never
/-! ### an inner entry -/
def owns (σ : L2.St) (ρ : En) : List (Nat × Addr) := (List.range ρ.length).filterMap fun (i : Nat) => match ρ[i]?, σ[i]? with
  | some (.ow _), some (some (.ref a)) => some (i, a)
  | _, _ => none
theorem mem_owns {σ : L2.St} {ρ : En} {i : Nat} {a : Addr} : (i, a) ∈ owns σ ρ ↔ ∃ d, ρ[i]? = some (.ow d) ∧ σ[i]? = some (some (.ref a)) := by
  unfold owns
  rw [List.mem_filterMap]
  constructor
  · rintro ⟨j, hj, e⟩
    split at e
    · rename_i d b h1 h2
      cases e
      exact ⟨d, h1, h2⟩
    · cases e
  · rintro ⟨d, h1, h2⟩
    exact ⟨i, List.mem_range.mpr (List.getElem?_eq_some_iff.mp h1).1, by rw [h1, h2]⟩
theorem Rel.nest {G : Ent} {F H : Hp} {σ : L2.St} {ρ : En} (R : Rel c.K c.mg c.xt G F H σ ρ) : Rel c.K c.mg c.xt ⟨F, H, owns σ ρ⟩ F H σ ρ where
  f0 := Same.refl _
  fh := R.fh
  kept := fun b o h _ _ => h
  par := fun ⟨i, a⟩ hp => by
    obtain ⟨d, h1, h2⟩ := mem_owns.mp hp
    exact h2
  fz := R.fz
  ow := fun i d h => let ⟨a, h1, h2⟩ := R.ow i d h; ⟨a, h1, ⟨h2.nf, .inr ⟨(i, a), mem_owns.mpr ⟨d, h, h1⟩, rfl⟩, h2.at_⟩⟩
  ne := R.ne
  len := R.len
  pw := fun ⟨i, a⟩ hp => by
    obtain ⟨d, h1, h2⟩ := mem_owns.mp hp
    exact ⟨d, h1⟩
  fn := fun b _ => rfl
  tbs := fun b ps h => ⟨ps, h⟩
  tb := R.tb
  xc := R.xc
theorem Rel.unnest {G : Ent} {F F' H H' : Hp} {σ σ' : L2.St} {ρ ρ' : En} (R : Rel c.K c.mg c.xt G F H σ ρ) (R' : Rel c.K c.mg c.xt ⟨F, H, owns σ ρ⟩ F' H' σ' ρ') (hs : ∀ p ∈ G.pa, σ'[p.1]? = σ[p.1]?) : Rel c.K c.mg c.xt G F' H' σ' ρ' where
  f0 := R.f0.trans R'.f0
  fh := R'.fh
  kept := fun b o h ht hp => R'.kept b o (R.kept b o h ht hp) ht fun ⟨i, a⟩ hm e => by
    obtain ⟨d, h1, h2⟩ := mem_owns.mp hm
    obtain ⟨a', q1, q2⟩ := R.ow i d h1
    rw [h2] at q1
    cases q1
    have e : a = b := e
    subst e
    rcases q2.nh with z | ⟨p, pm, z⟩
    · rw [h] at z; cases z
    · exact hp p pm z
  par := fun p hp => by rw [hs p hp]; exact R.par p hp
  fz := R'.fz
  ow := fun i d h => by
    obtain ⟨a, h1, h2⟩ := R'.ow i d h
    refine ⟨a, h1, ⟨h2.nf, ?_, h2.at_⟩⟩
    rcases h2.nh with z | ⟨⟨j, b⟩, hm, z⟩
    · exact .inl (R.h0_none z)
    · obtain ⟨d', q1, q2⟩ := mem_owns.mp hm
      have z : b = a := z
      subst z
      obtain ⟨a', q3, q4⟩ := R.ow j d' q1
      rw [q2] at q3; cases q3
      exact q4.nh
  ne := R'.ne
  len := R'.len
  pw := fun p hp => by
    obtain ⟨d, q⟩ := R.pw p hp
    exact R'.pw (p.1, p.2) (mem_owns.mpr ⟨d, q, R.par p hp⟩)
  fn := fun b h => by
    have q : F' b = F b := R'.fn b (R.h_some h)
    rw [q]; exact R.fn b h
  tbs := fun b ps h => let ⟨qs, q⟩ := R.tbs b ps h; R'.tbs b qs q
  tb := R'.tb
  xc := R'.xc
theorem wipe_in {σ : L2.St} {i : Nat} : ∀ {vs : List Nat}, i ∈ vs → i < σ.length → (L2.wipe σ vs)[i]? = some none
  | v :: vs, h, hl => by
    unfold L2.wipe
    by_cases hv : v = i
    · subst hv
      exact List.getElem?_set_self (by rw [wipe_length]; exact hl)
    · rw [List.getElem?_set_ne hv]
      rcases List.mem_cons.mp h with e | e
      · exact absurd e.symm hv
      · exact wipe_in e hl
theorem wipe_but {σ σ' : L2.St} {sl vs : List Nat} (hs : ∀ i ∈ sl, i ∈ vs) (h : SlotsBut sl (L2.wipe σ vs) σ') : L2.wipe σ' vs = L2.wipe σ vs := by
  have hl : σ'.length = σ.length := by rw [h.1, wipe_length]
  apply List.ext_getElem?
  intro i
  by_cases hi : i ∈ vs
  · by_cases hlt : i < σ.length
    · rw [wipe_in hi hlt, wipe_in hi (by omega)]
    · rw [List.getElem?_eq_none (by rw [wipe_length]; omega), List.getElem?_eq_none (by rw [wipe_length]; omega)]
  · rw [wipe_out hi, h.2 i fun z => hi (hs i z)]
/-- one of the machine's own lists grows -/
theorem Rel.own {G : Ent} {F H : Hp} {σ : L2.St} {ρ : En} {D' : Addr} {o : HO} (R : Rel c.K c.mg c.xt G F H σ ρ) (hf : F D' = none) (h0 : G.H0 D' = none) (hn : ∀ (i : Nat) (d : D), ρ[i]? = some (.ow d) → σ[i]? ≠ some (some (.ref D'))) (pl : PlainA H D') : Rel c.K c.mg c.xt G F (upd H D' o) σ ρ where
  f0 := R.f0
  fh := fun a u e => by rw [upd_ne (ne_of_none e hf)]; exact R.fh a u e
  kept := fun b u h ht hp => by rw [upd_ne (ne_of_none h h0)]; exact R.kept b u h ht hp
  par := R.par
  fz := R.fz
  ow := fun i d h => by
    obtain ⟨a, h1, h2⟩ := R.ow i d h
    have : a ≠ D' := fun z => hn i d h (by rw [← z]; exact h1)
    exact ⟨a, h1, ⟨h2.nf, h2.nh, h2.at_.mono (Same.refl _) fun u q => by rw [upd_ne this]; exact q⟩⟩
  ne := R.ne
  len := R.len
  pw := R.pw
  fn := R.fn
  tbs := fun b ps h => let ⟨qs, q⟩ := R.tbs b ps h; ⟨qs, by rw [upd_ne (ne_of_none h h0)]; exact q⟩
  tb := R.tb.upd pl
  xc := R.xc
theorem Rel.back {G : Ent} {F F' H H' : Hp} {σ : L2.St} {ρ ρ' : En} {vs : List Nat} (R : Rel c.K c.mg c.xt G F H σ ρ) (hw : noOw ρ vs = true) (s : Same F F') (R' : Rel c.K c.mg c.xt G F' H' (L2.wipe σ vs) ρ') : Rel c.K c.mg c.xt G F' H' σ (back ρ ρ' vs) := by
  have hl : ρ.length = ρ'.length := by rw [← R.len, ← R'.len, wipe_length]
  have out : ∀ (i : Nat) (d : D), (DL.back ρ ρ' vs)[i]? = some (.ow d) → i ∉ vs ∧ ρ'[i]? = some (.ow d) := fun i d e => by
    by_cases hi : i ∈ vs
    · rw [back_in hl hi] at e
      exact absurd e (noOw_of hw hi d)
    · rw [back_out hi] at e
      exact ⟨hi, e⟩
  refine ⟨R'.f0, R'.fh, R'.kept, R.par, fun i d e => ?_, fun i d e => ?_, fun i j a d e hij q1 q2 q3 => ?_, ?_, fun p hp => ?_, R'.fn, R'.tbs, R'.tb, fun i x e => ?_⟩
  · by_cases hi : i ∈ vs
    · rw [back_in hl hi] at e
      obtain ⟨v, h1, h2⟩ := R.fz i d e
      exact ⟨v, h1, h2.mono s⟩
    · rw [back_out hi] at e
      obtain ⟨v, h1, h2⟩ := R'.fz i d e
      rw [wipe_out hi] at h1
      exact ⟨v, h1, h2⟩
  · obtain ⟨hi, e'⟩ := out i d e
    obtain ⟨a, h1, h2⟩ := R'.ow i d e'
    rw [wipe_out hi] at h1
    exact ⟨a, h1, h2⟩
  · obtain ⟨hi, e1⟩ := out i d q1
    obtain ⟨hj, e2⟩ := out j e q2
    have := R'.ne i j a d e hij e1 e2 (by rw [wipe_out hi]; exact q3)
    rwa [wipe_out hj] at this
  · rw [back_length, ← hl]; exact R.len
  · obtain ⟨d, q⟩ := R.pw p hp
    have : p.1 ∉ vs := fun m => noOw_of hw m d q
    obtain ⟨d', q'⟩ := R'.pw p hp
    exact ⟨d', by rw [back_out this]; exact q'⟩
  · by_cases hi : i ∈ vs
    · rw [back_in hl hi] at e
      obtain ⟨p, cls, d, h1, h2, h3, h4, h5⟩ := R.xc i x e
      exact ⟨p, cls, d, h1, h2, h3, h4, h5.mono s⟩
    · rw [back_out hi] at e
      obtain ⟨p, cls, d, h1, h2, h3⟩ := R'.xc i x e
      rw [wipe_out hi] at h2
      exact ⟨p, cls, d, h1, h2, h3⟩
theorem lcL_len {vs : List Nat} {t : Tg} {mt : M Bool} {me : M D} : ∀ {ds acc ys : List D} {ρ ρ' : En}, lcL vs t mt me ds acc ρ = .ok ys ρ' → ys.length ≤ acc.length + ds.length
  | [], acc, ys, ρ, ρ', h => by cases h; simp
  | d :: r, acc, ys, ρ, ρ', h => by
    unfold lcL at h
    split at h
    · cases h
    · split at h
      · split at h
        · split at h
          · have := lcL_len h
            simp at this ⊢
            omega
          · cases h
        · cases h
      · split at h
        · have := lcL_len h
          simp at this ⊢
          omega
        · cases h
      · cases h
/-- any entry -/
def tGx {α β : Type} (R : Hp → β → α → Prop) (c : Stat) (W : WX) (m : M α) : L2.St → Hp → (β → Hp → Prop) → Prop := fun σ H Q => ∃ G, tG R c G W m σ H Q
theorem lcT {X : Cx} {W : WX} (z : Cz c X W) (hc : c.hot = false) {ifs : List Expr} {scope : Scope} {mt : M Bool} (ht : ETs (c.blk scope) ifs mt) : ∀ (s : Shared) (H : Hp) (C : Addr) (cl : List (Str × Addr)) (fp : List Addr), PTs (X.blk s H scope (compEnvC scope cl C X.env) fp) ifs (tGx (fun _ (b a : Bool) => b = a) (c.blk scope) (fun _ _ _ _ => False) mt) := fun s H C cl fp =>
    ⟨fun pins s1 σ H1 Q I ⟨G', q⟩ => (ht G' _ _ (cz_blk z hc s H scope cl C fp)).run pins s1 σ H1 Q I q⟩
theorem lcE {X : Cx} {W : WX} (z : Cz c X W) (hc : c.hot = false) {elt : Expr} {scope : Scope} {me : M D} (he : ED (c.blk scope) elt me) : ∀ (s : Shared) (H : Hp) (C : Addr) (cl : List (Str × Addr)) (fp : List Addr), PE (X.blk s H scope (compEnvC scope cl C X.env) fp) elt (tGx (Dn c.K c.mg) (c.blk scope) (fun _ _ _ _ => False) me) := fun s H C cl fp =>
    ⟨fun pins s1 σ H1 Q I ⟨G', q⟩ => (he G' _ _ (cz_blk z hc s H scope cl C fp)).run pins s1 σ H1 Q I q⟩
theorem lc_imp {G : Ent} {W : WX} {vs sl : List Nat} {src : M (List D)} {t : Tg} {mt : M Bool} {me : M D} {g : TG} (hsl : ∀ i ∈ sl, i ∈ vs)
    (kg : ∀ G F H σ ρ ρ' x d Q, Rel c.K c.mg c.xt G F H σ ρ → Dn c.K c.mg F x d → t d ρ = some ρ' → (∀ σ', Rel c.K c.mg c.xt G F H σ' ρ' → SlotsBut sl σ σ' → Q σ' H) → g x σ H Q) {scope : Scope} {σ : L2.St} {H : Hp} {Q : VK} (h : tD c G W (lcM src vs t mt me) σ H Q) :
    tLc (tI c G W src) g (tGx (fun _ (b a : Bool) => b = a) (c.blk scope) (fun _ _ _ _ => False) mt) (tGx (Dn c.K c.mg) (c.blk scope) (fun _ _ _ _ => False) me) vs σ H Q := by
  obtain ⟨F, ρ, R, q⟩ := h
  refine tG_bind R q fun F1 H1 ρ1 J ds s1 R1 wk q1 => ?_
  intro D' hD
  by_cases hw : noOw ρ1 vs = true
  case neg => simp only [hw] at q1; exact q1.elim
  simp only [hw, if_true] at q1
  cases e : lcL vs t mt me ds [] (wipeE ρ1 vs) with
  | bad => simp only [e] at q1; exact q1.elim
  | err x ρ' => simp only [e] at q1; exact q1.elim
  | ok ys ρf =>
  simp only [e] at q1
  have fD : F1 D' = none := R1.fh.free hD
  have hD0 : G.H0 D' = none := R1.h0_none hD
  have nD : ∀ (i : Nat) (d : D), (wipeE ρ1 vs)[i]? = some (.ow d) → (L2.wipe σ vs)[i]? ≠ some (some (.ref D')) := fun i d h q => by
    obtain ⟨a, h1, h2⟩ := (R1.wipe hw).ow i d h
    rw [q] at h1
    cases h1
    exact h2.at_.some hD
  have hz : ds.length ≤ sz := (wk 0 F1 H1 (Same.refl _) R1.fh).2.2
  refine ⟨fun i n H' => ∃ F' ρ' accV acc, Same F1 F' ∧ Rel c.K c.mg c.xt G F' H' (L2.wipe σ vs) ρ' ∧ F' D' = none ∧ H' D' = some (.lst accV) ∧ Dns c.K c.mg F' accV acc ∧ (∀ (j : Nat) (d : D), ρ'[j]? = some (.ow d) → (L2.wipe σ vs)[j]? ≠ some (some (.ref D'))) ∧
    acc.length ≤ i ∧ lcL vs t mt me (ds.drop i) acc ρ' = .ok ys ρf ∧ n = ds.length - i ∧ i ≤ ds.length,
    ⟨ds.length, F1, wipeE ρ1 vs, [], [], Same.refl _, (R1.wipe hw).own fD hD0 nD (.none hD), fD, upd_same, .nil, nD, Nat.le_refl _, e, by simp, Nat.zero_le _⟩, ?_⟩
  rintro i n H' ⟨F', ρ', accV, acc, s', R', f', h', ra, n', hl, e', rfl, hi'⟩
  obtain ⟨go, stop, _⟩ := wk i F' H' s' R'.fh
  by_cases hlt : i < ds.length
  case neg =>
    left
    have ei : i = ds.length := by omega
    subst ei
    refine ⟨stop (Nat.le_refl _), ?_⟩
    rw [List.drop_length] at e'
    cases e'
    -- frozen now
    have sF : Same F' (upd F' D' (.lst accV)) := fun a o q => by rw [upd_ne (ne_of_none q f')]; exact q
    have R2 : Rel c.K c.mg c.xt G (upd F' D' (.lst accV)) H' (L2.wipe σ vs) ρf := by
      refine ⟨R'.f0.trans sF, fun a o q => ?_, R'.kept, R'.par, fun j d h => ?_, fun j d h => ?_, R'.ne, R'.len, R'.pw, fun b hb => ?_, R'.tbs, R'.tb.updF (.lst h'), fun j x h => ?_⟩
      · by_cases ha : a = D'
        · subst ha; rw [upd_same] at q; cases q; exact h'
        · rw [upd_ne ha] at q; exact R'.fh a o q
      · obtain ⟨v, h1, h2⟩ := R'.fz j d h
        exact ⟨v, h1, h2.mono sF⟩
      · obtain ⟨a, h1, h2⟩ := R'.ow j d h
        have : a ≠ D' := fun zz => n' j d h (by rw [← zz]; exact h1)
        exact ⟨a, h1, ⟨by rw [upd_ne this]; exact h2.nf, h2.nh, h2.at_.mono sF fun _ q => q⟩⟩
      · have : b ≠ D' := fun zz => by subst zz; exact hb hD0
        rw [upd_ne this]; exact R'.fn b hb
      · obtain ⟨p, cls, d, h1, h2, h3, h4, h5⟩ := R'.xc j x h
        exact ⟨p, cls, d, h1, h2, h3, h4, h5.mono sF⟩
    exact q1 (.ref D') _ H' (s'.trans sF) (R1.back hw (s'.trans sF) R2) (.lst (.inl upd_same) (ra.mono sF) (by omega))
  right
  have hd : ds[i]? = some ds[i] := List.getElem?_eq_getElem hlt
  obtain ⟨hgo, hy⟩ := go _ hd
  refine ⟨hgo, fun H2 => ∃ F2 ρ2 accV acc, Same F1 F2 ∧ Rel c.K c.mg c.xt G F2 H2 (L2.wipe σ vs) ρ2 ∧ F2 D' = none ∧ H2 D' = some (.lst accV) ∧ Dns c.K c.mg F2 accV acc ∧ (∀ (j : Nat) (d : D), ρ2[j]? = some (.ow d) → (L2.wipe σ vs)[j]? ≠ some (some (.ref D'))) ∧
    acc.length ≤ i + 1 ∧ lcL vs t mt me (ds.drop (i + 1)) acc ρ2 = .ok ys ρf, ?_, fun x H2 y => ?_⟩
  · rintro H2 ⟨F2, ρ2, aV, ac, q2, q3, q4, q5, q6, q7, q8, q9⟩
    exact ⟨ds.length - (i + 1), by omega, F2, ρ2, aV, ac, q2, q3, q4, q5, q6, q7, q8, q9, rfl, hlt⟩
  obtain ⟨F2, ex, rx⟩ := hy x H2 y
  have R2 := R'.ext ex
  have f2 : F2 D' = none := by rw [ex.nn D' (by rw [h']; exact nofun)]; exact f'
  have h2 : H2 D' = some (.lst accV) := ex.hh _ _ h'
  rw [List.drop_eq_getElem_cons hlt] at e'
  unfold lcL at e'
  cases et : t ds[i] ρ' with
  | none => simp only [et] at e'; cases e'
  | some ρ2 =>
  simp only [et] at e'
  -- the turn's own entry
  have Rn := R2.nest
  refine kg _ F2 H2 (L2.wipe σ vs) ρ' ρ2 x _ _ Rn rx et fun σ3 R3 b3 => ⟨wipe_but hsl b3, ?_⟩
  have nOwn : ∀ p ∈ owns (L2.wipe σ vs) ρ', p.2 ≠ D' := fun ⟨j, a⟩ hm zz => by
    obtain ⟨d, q1, q2⟩ := mem_owns.mp hm
    have zz : a = D' := zz
    subst zz
    exact n' j d q1 q2
  have lf : ∀ {F4 H4 : Hp} {ρ4 : En}, Rel c.K c.mg c.xt ⟨F2, H2, owns (L2.wipe σ vs) ρ'⟩ F4 H4 σ3 ρ4 → H4 D' = some (.lst accV) ∧ F4 D' = none ∧ Same F2 F4 := fun {F4 H4 ρ4} R4 => by
    refine ⟨R4.kept D' _ h2 (fun _ q => by cases q) nOwn, ?_, R4.f0⟩
    rw [R4.fn D' (by show H2 D' ≠ none; rw [h2]; exact nofun)]
    exact f2
  have nD4 : ∀ {F4 H4 : Hp} {ρ4 : En}, Rel c.K c.mg c.xt ⟨F2, H2, owns (L2.wipe σ vs) ρ'⟩ F4 H4 σ3 ρ4 → ∀ (j : Nat) (d : D), ρ4[j]? = some (.ow d) → σ3[j]? ≠ some (some (.ref D')) := fun {F4 H4 ρ4} R4 j d hj q => by
    obtain ⟨a, h1, h3⟩ := R4.ow j d hj
    rw [q] at h1
    cases h1
    rcases h3.nh with zz | ⟨p, pm, zz⟩
    · have zz : H2 D' = none := zz
      rw [h2] at zz; cases zz
    · exact nOwn p pm zz
  -- back in the loop's own entry, the block's names gone
  have up : ∀ {F4 H4 : Hp} {ρ4 : En}, Rel c.K c.mg c.xt ⟨F2, H2, owns (L2.wipe σ vs) ρ'⟩ F4 H4 σ3 ρ4 → noOw ρ4 vs = true → Rel c.K c.mg c.xt G F4 H4 (L2.wipe σ vs) (wipeE ρ4 vs) ∧ ∀ (j : Nat) (d : D), (wipeE ρ4 vs)[j]? = some (.ow d) → (L2.wipe σ vs)[j]? ≠ some (some (.ref D')) := fun {F4 H4 ρ4} R4 hw4 => by
    have b4 := wipe_but hsl b3
    have R5 := R4.wipe hw4
    rw [b4] at R5
    refine ⟨R2.unnest R5 fun _ _ => rfl, fun j d hj q => ?_⟩
    by_cases hjv : j ∈ vs
    · rcases wipeE_in (ρ := ρ4) hjv with zz | zz <;> rw [zz] at hj <;> cases hj
    · rw [wipeE_out hjv] at hj
      refine nD4 R4 j d hj ?_
      rw [b3.2 j fun zz => hjv (hsl j zz)]
      exact q
  refine ⟨⟨F2, H2, owns (L2.wipe σ vs) ρ'⟩, F2, ρ2, R3, ?_⟩
  cases em : mt ρ2 with
  | bad => simp only [em] at e'; cases e'
  | err x ρ3 => simp only [em] at e'; cases e'
  | ok b ρ3 =>
  simp only [em] at e'
  rintro b' F4 H4 s4 R4 rfl
  obtain ⟨k1, k2, k3⟩ := lf R4
  cases b' with
  | false =>
    rw [if_neg Bool.false_ne_true]
    simp only at e'
    by_cases hw4 : noOw ρ3 vs = true
    case neg => rw [if_neg hw4] at e'; cases e'
    rw [if_pos hw4] at e'
    obtain ⟨R5, n5⟩ := up R4 hw4
    exact ⟨F4, wipeE ρ3 vs, accV, acc, (s'.trans ex.ff).trans k3, R5, k2, k1, ra.mono (ex.ff.trans k3), n5, by omega, e'⟩
  | true =>
    rw [if_pos rfl]
    simp only at e'
    refine ⟨⟨F2, H2, owns (L2.wipe σ vs) ρ'⟩, F4, ρ3, R4, ?_⟩
    cases ee : me ρ3 with
    | bad => simp only [ee] at e'; cases e'
    | err x ρ4 => simp only [ee] at e'; cases e'
    | ok yd ρ4 =>
    simp only [ee] at e'
    intro yv F5 H5 s5 R5 ry
    obtain ⟨k4, k5, k6⟩ := lf R5
    by_cases hw5 : noOw ρ4 vs = true
    case neg => rw [if_neg hw5] at e'; cases e'
    rw [if_pos hw5] at e'
    obtain ⟨R6, n6⟩ := up R5 hw5
    have hacc := ra.length
    refine ⟨accV, k4, by rw [sz_eq]; omega, F5, wipeE ρ4 vs, accV ++ [yv], acc ++ [yd], (s'.trans ex.ff).trans k6, R6.own k5 hD0 n6 (.lst k4), k5, upd_same, (ra.mono (ex.ff.trans k6)).snoc ry, n6, by simp; omega, e'⟩

theorem ed_lc {elt tg iter : Expr} {ifs : List Expr} {scope : Scope} {own : List (Str × Nat)} {sl : List Nat} {pos : Pos} {src : M (List D)} {t : Tg} {mt : M Bool} {me : M D} (hi : EI c tg iter src) (ok : blkC c.N c.sc scope own = true)
    (hg : EG (c.blk scope) tg sl t) (ht : ETs (c.blk scope) ifs mt) (he : ED (c.blk scope) elt me) (hsl : ∀ i ∈ sl, i ∈ own.map (·.2)) (hs : ∀ env x, foldedSetIterable iter env x = pure x := by intro _ _; rfl) (hc : c.hot = false := by first | rfl | assumption) :
    ED c (.ListComp elt [⟨tg, iter, ifs, 0⟩] scope pos) (lcM src (own.map (·.2)) t mt me) := fun G X W z => by
  obtain ⟨g, pg, kg⟩ := hg
  exact pe_imp (pe_lc (own := own) (z.calm hc) (by rw [z.N]; exact z.nd) (hi G X W z) (by rw [z.N, z.sc]; exact blkOk_by ok) (fun s H C cl fp => pg _ _ (cz_blk z hc s H scope cl C fp)) (fun s H C cl fp => lcT z hc ht s H C cl fp) (fun s H C cl fp => lcE z hc he s H C cl fp) (hs _)) fun σ H Q h => lc_imp (c := c) (scope := scope) hsl kg h
/-- x = [..], x a local of the def -/
theorem es_setLc {i : Nat} {y : Str} {py spos : Pos} {elt tg iter : Expr} {ifs : List Expr} {scope : Scope} {own : List (Str × Nat)} {sl : List Nat} {pos : Pos} {src : M (List D)} {t : Tg} {mt : M Bool} {me : M D} (hy : c.N[i]? = some y) (hyl : c.sc.names.lookup y = some .local) (hl : (py.line == pos.line) = true) (hk : c.sc.kind = .function)
    (hsc : (scope.names.any fun (n, k) => n == y && (k == .local || k == .cell)) = false) (hi : EI c tg iter src) (ok : blkC c.N c.sc scope own = true)
    (hg : EG (c.blk scope) tg sl t) (ht : ETs (c.blk scope) ifs mt) (he : ED (c.blk scope) elt me) (hsl : ∀ i ∈ sl, i ∈ own.map (·.2)) (hs : ∀ env x, foldedSetIterable iter env x = pure x := by intro _ _; rfl) (hc : c.hot = false := by first | rfl | assumption) :
    ES c (.Assign [.Name y py] (.ListComp elt [⟨tg, iter, ifs, 0⟩] scope pos) spos) (asgM (put i) (lcM src (own.map (·.2)) t mt me)) := fun G X W p z => by
  obtain ⟨g, pg, kg⟩ := hg
  refine ps_imp (ps_setLc (own := own) (z.calm hc) (by rw [z.N]; exact z.nd) (by rw [z.N]; exact hy) (by rw [z.sc]; exact hyl) (sw_true (by rw [z.sc]; exact hk) (by rw [z.sc]; exact hyl) hl hsc) (hi G X W z) (by rw [z.N, z.sc]; exact blkOk_by ok) (fun s H C cl fp => pg _ _ (cz_blk z hc s H scope cl C fp)) (fun s H C cl fp => lcT z hc ht s H C cl fp) (fun s H C cl fp => lcE z hc he s H C cl fp) (hs _)) fun Z σ H ⟨F, ρ, R, q⟩ => ?_
  refine lc_imp (c := c) (scope := scope) hsl kg (tG_bindS R q fun F1 H1 ρ1 x dx s1 R1 rx q1 => ?_)
  cases e : put i dx ρ1 with
  | none => simp only [e] at q1; exact q1.elim
  | some ρ2 => simp only [e] at q1; exact q1 _ F1 H1 (Same.refl _) (R1.put rx e)
theorem sw_cell {elt : Expr} {gs : List Comprehension} {scope : Scope} {pos pt : Pos} {t : Str} {l : Nat} {env : Env} (h : env.scope.names.lookup t = some .cell) : swapsWith (.ListComp elt gs scope pos) (some (.Name t pt)) l env = pure false := by
  have k : env.kindOf t = some .cell := h
  show pure (env.blockKind == .function && env.kindOf t == some .local && _ && _) = _
  rw [k]
  cases env.blockKind == .function <;> rfl
end
end DL

namespace DL
open PySem L2 PyProof.Rows
/-! ### defs -/
inductive OutF where
  | ok (d : D) (es : List D) | oko (d : D) (es : List D) | err (x : Xc) (es : List D) | bad
def ioAt : List Nat → En → Option (List D)
  | [], _ => some []
  | i :: r, ρ => match ρ[i]? with
    | some (.ow d) => (ioAt r ρ).map (d :: ·)
    | _ => none
def enc (io : List Nat) : Nat → List D → En
  | _, [] => []
  | k, d :: r => (if io.contains k then .ow d else .fz d) :: enc io (k + 1) r
def entry (io : List Nat) (ds : List D) (n : Nat) : En := enc io 0 ds ++ List.replicate (n - ds.length) .un
def fnM (np n : Nat) (io : List Nat) (body : M Fl) : List D → OutF := fun ds => if ds.length = np then (match body (entry io ds n) with
  | .ok (.rt d) ρ => (match ioAt io ρ with
    | some es => .ok d es
    | none => .bad)
  | .ok .nx ρ => (match ioAt io ρ with
    | some es => .ok .non es
    | none => .bad)
  | .ok (.ro d) ρ => (match ioAt io ρ with
    | some es => .oko d es
    | none => .bad)
  | .err x ρ => (match ioAt io ρ with
    | some es => .err x es
    | none => .bad)
  | _ => .bad) else .bad
section
variable (b : Base)
structure ArgsOk (F H : Hp) (io : List Nat) (vs : List V) (ds : List D) : Prop where
  len : vs.length = ds.length
  fz : ∀ (i : Nat) v d, i ∉ io → vs[i]? = some v → ds[i]? = some d → Dn b.K b.mg F v d
  ow : ∀ (i : Nat) d, i ∈ io → ds[i]? = some d → ∃ a, vs[i]? = some (.ref a) ∧ F a = none ∧ OwnAt b.K b.mg F H a d
  ne : ∀ (i j : Nat) (a : Addr), i ≠ j → i ∈ io → j ∈ io → vs[i]? = some (.ref a) → vs[j]? ≠ some (.ref a)
  tb : TbOk b.T F H
structure Fin (F H : Hp) (io : List Nat) (vs : List V) (es : List D) (F' H' : Hp) : Prop where
  ff : Same F F'
  fh : Same F' H'
  nn : ∀ x, H x ≠ none → F' x = F x
  kept : ∀ x o, H x = some o → (∀ ps, o ≠ .tbl ps) → (∀ i ∈ io, vs[i]? ≠ some (.ref x)) → H' x = some o
  tbs : ∀ x ps, H x = some (.tbl ps) → ∃ qs, H' x = some (.tbl qs)
  tb : TbOk b.T F' H'
  io : ∀ (k i : Nat) e, io[k]? = some i → es[k]? = some e → ∃ a, vs[i]? = some (.ref a) ∧ F' a = none ∧ OwnAt b.K b.mg F' H' a e
def spF (io : List Nat) (g : List D → OutF) : Sp := fun vs H Q E => ∃ F ds, Same F H ∧ ArgsOk b F H io vs ds ∧
  match g ds with
  | .ok d es => ∀ v F' H', Fin b F H io vs es F' H' → Dn b.K b.mg F' v d → Q v H'
  | .oko d es => ∀ a F' H', Fin b F H io vs es F' H' → F' a = none → H a = none → OwnAt b.K b.mg F' H' a d → Q (.ref a) H'
  | .err x es => ∀ cls dd F' H', Fin b F H io vs es F' H' → XRel b.mg b.K F' cls dd x → E cls dd H'
  | .bad => False
end
section
variable {b : Base}
theorem enc_length (io : List Nat) : ∀ (k : Nat) (ds : List D), (enc io k ds).length = ds.length
  | _, [] => rfl
  | k, d :: r => by unfold enc; simp [enc_length io (k + 1) r]
theorem enc_get (io : List Nat) : ∀ (k : Nat) (ds : List D) (i : Nat), (enc io k ds)[i]? = (ds[i]?).map fun d => if io.contains (k + i) then .ow d else .fz d
  | _, [], i => by simp [enc]
  | k, d :: r, 0 => by unfold enc; simp
  | k, d :: r, i + 1 => by
    unfold enc
    simp only [List.getElem?_cons_succ]
    rw [enc_get io (k + 1) r i]
    rw [show k + 1 + i = k + (i + 1) by omega]
theorem entry_get {io : List Nat} {ds : List D} {n i : Nat} {s : Sl} (h : (entry io ds n)[i]? = some s) : s = .un ∨ ∃ d, ds[i]? = some d ∧ s = if io.contains i then .ow d else .fz d := by
  unfold entry at h
  by_cases hi : i < ds.length
  · rw [List.getElem?_append_left (by rw [enc_length]; exact hi), enc_get] at h
    cases e : ds[i]? with
    | none => rw [e] at h; cases h
    | some d =>
      rw [e] at h
      simp only [Option.map_some, Nat.zero_add, Option.some.injEq] at h
      exact .inr ⟨d, rfl, h.symm⟩
  · rw [List.getElem?_append_right (by rw [enc_length]; omega), List.getElem?_replicate] at h
    split at h <;> cases h
    exact .inl rfl
theorem start_get {N : List Str} {vs : List V} {i : Nat} {v : V} (h : vs[i]? = some v) : (L2.start N vs)[i]? = some (some v) := by
  unfold L2.start
  have hi : i < vs.length := (List.getElem?_eq_some_iff.mp h).1
  rw [List.getElem?_append_left (by simpa using hi), List.getElem?_map, h]
  rfl
def paOf (io : List Nat) (vs : List V) : List (Nat × Addr) := io.filterMap fun (i : Nat) => match vs[i]? with
  | some (.ref a) => some (i, a)
  | _ => none
theorem mem_paOf {io : List Nat} {vs : List V} {i : Nat} {a : Addr} : (i, a) ∈ paOf io vs ↔ i ∈ io ∧ vs[i]? = some (.ref a) := by
  unfold paOf
  rw [List.mem_filterMap]
  constructor
  · rintro ⟨j, hj, e⟩
    split at e
    · rename_i a' h
      cases e
      exact ⟨hj, h⟩
    · cases e
  · rintro ⟨h1, h2⟩
    exact ⟨i, h1, by rw [h2]⟩
theorem ioAt_get : ∀ {io : List Nat} {ρ : En} {es : List D} {k i : Nat} {e : D}, ioAt io ρ = some es → io[k]? = some i → es[k]? = some e → ρ[i]? = some (.ow e)
  | [], _, _, k, i, e, _, h, _ => by simp at h
  | j :: r, ρ, es, k, i, e, h, h1, h2 => by
    unfold ioAt at h
    split at h
    · rename_i d hd
      cases q : ioAt r ρ with
      | none => rw [q] at h; cases h
      | some es' =>
        rw [q] at h
        cases h
        cases k with
        | zero =>
          simp at h1 h2
          subst h1 h2
          exact hd
        | succ k =>
          simp at h1 h2
          exact ioAt_get q h1 h2
    · cases h
theorem rel_entry {F H : Hp} {io : List Nat} {vs : List V} {ds : List D} {N : List Str} (s : Same F H) (a : ArgsOk b F H io vs ds) (hN : vs.length ≤ N.length) : Rel b.K b.mg ⟨b.T, none⟩ ⟨F, H, paOf io vs⟩ F H (L2.start N vs) (entry io ds N.length) where
  f0 := Same.refl _
  fh := s
  kept := fun _ _ h _ _ => h
  par := fun ⟨i, x⟩ hp => start_get (mem_paOf.mp hp).2
  fz := fun i d h => by
    rcases entry_get h with q | ⟨d', h1, h2⟩
    · cases q
    · have hi : i < vs.length := by rw [a.len]; exact (List.getElem?_eq_some_iff.mp h1).1
      have hc : io.contains i = false := by
        cases e : io.contains i with
        | false => rfl
        | true => rw [e] at h2; cases h2
      rw [hc] at h2
      cases h2
      have hni : i ∉ io := fun m => by rw [List.contains_iff_mem.mpr m] at hc; cases hc
      exact ⟨vs[i], start_get (List.getElem?_eq_getElem hi), a.fz i _ d hni (List.getElem?_eq_getElem hi) h1⟩
  ow := fun i d h => by
    rcases entry_get h with q | ⟨d', h1, h2⟩
    · cases q
    · have hc : io.contains i = true := by
        cases e : io.contains i with
        | true => rfl
        | false => rw [e] at h2; cases h2
      rw [hc] at h2
      cases h2
      have hm := List.contains_iff_mem.mp hc
      obtain ⟨x, q1, q2, q3⟩ := a.ow i d hm h1
      exact ⟨x, start_get q1, ⟨q2, .inr ⟨(i, x), mem_paOf.mpr ⟨hm, q1⟩, rfl⟩, q3⟩⟩
  ne := fun i j x d e hij h1 h2 h3 h4 => by
    have k : ∀ (i : Nat) (d : D), (entry io ds N.length)[i]? = some (.ow d) → i ∈ io ∧ ds[i]? = some d := fun i d h => by
      rcases entry_get h with q | ⟨d', q1, q2⟩
      · cases q
      · have hc : io.contains i = true := by
          cases e : io.contains i with
          | true => rfl
          | false => rw [e] at q2; cases q2
        rw [hc] at q2
        cases q2
        exact ⟨List.contains_iff_mem.mp hc, q1⟩
    obtain ⟨i1, i2⟩ := k i d h1
    obtain ⟨j1, j2⟩ := k j e h2
    obtain ⟨xi, p1, _⟩ := a.ow i d i1 i2
    obtain ⟨xj, p2, _⟩ := a.ow j e j1 j2
    have e1 := start_get (N := N) p1
    have e2 := start_get (N := N) p2
    rw [h3] at e1
    rw [h4] at e2
    cases e1
    cases e2
    exact a.ne i j x hij i1 j1 p1 p2
  len := by
    unfold L2.start entry
    simp only [List.length_append, List.length_map, List.length_replicate, enc_length, a.len]
  pw := fun ⟨i, x⟩ hp => by
    obtain ⟨h1, h2⟩ := mem_paOf.mp hp
    have hi : i < ds.length := by rw [← a.len]; exact (List.getElem?_eq_some_iff.mp h2).1
    refine ⟨ds[i], ?_⟩
    unfold entry
    rw [List.getElem?_append_left (by rw [enc_length]; exact hi), enc_get, List.getElem?_eq_getElem hi]
    simp [h1]
  fn := fun _ _ => rfl
  tbs := fun _ ps h => ⟨ps, h⟩
  tb := a.tb
  xc := fun i x h => by
    rcases entry_get h with q | ⟨d', h1, h2⟩
    · cases q
    · split at h2 <;> cases h2
theorem fin_of {F H F' H' : Hp} {io : List Nat} {vs : List V} {σ' : L2.St} {ρ' : En} {es : List D} (hio : ∀ i ∈ io, ∃ a, vs[i]? = some (.ref a)) (s : Same F F') (R : Rel b.K b.mg ⟨b.T, none⟩ ⟨F, H, paOf io vs⟩ F' H' σ' ρ') (h : ioAt io ρ' = some es) : Fin b F H io vs es F' H' where
  ff := s
  fh := R.fh
  nn := fun x hx => R.fn x hx
  tbs := fun x ps h => R.tbs x ps h
  tb := R.tb
  kept := fun x o h1 ht h2 => R.kept x o h1 ht fun ⟨i, a⟩ hp e => by
    obtain ⟨q1, q2⟩ := mem_paOf.mp hp
    have e : a = x := e
    subst e
    exact h2 i q1 q2
  io := fun k i e h1 h2 => by
    have hm : i ∈ io := List.mem_of_getElem? h1
    obtain ⟨a, ha⟩ := hio i hm
    have hρ := ioAt_get h h1 h2
    obtain ⟨a', q1, q2⟩ := R.ow i e hρ
    have q3 := R.par (i, a) (mem_paOf.mpr ⟨hm, ha⟩)
    rw [q1] at q3
    cases q3
    exact ⟨a, ha, q2.nf, q2.at_⟩
/-- a promise of a def where no text of a container is being written -/
structure FnG (P : Program) (w : World) (K : PySem.W.Frag) (mg : Str → Option Value) (base : Heap) (k : Nat) (f : Addr) (fd : FuncData) (ps : List Str) (sp : Sp) : Prop where
  len : ∀ vs H Q E, sp vs H Q E → vs.length = ps.length
  run : ∀ (A : Around) (outer : List Env) (s : Shared) (H : Hp) (args : Args) (us : List Value) (vs : List V) (Q : VK) (E : XK), Room k A → A.guards = some [] → Env0 P w K mg base A outer s H → BindsTo s fd args (ps.zip us) → Vals vs us → sp vs H Q E →
    codeAny (model P w) A (.call (.ref f) args) (CR (L2.CX P w) outer P w H s Q E) s
section
variable {X : Cx} {k : Nat} {f : Addr} {fd : FuncData} {ps : List Str} {sp : Sp}
theorem CR.end_ {CX : CXT} {E : XK} {pins : List (Addr × Obj)} {σ : L2.St} {H : Hp} {s s' : Shared} {Q : VK} {r : Result} (I : Inv X pins σ H s) (hx : PassesAt CX X σ E) (h : CR CX X.stack X.prog X.w H s Q E r s') :
    match r with
    | .ok (.ret u) => EP X pins σ Q u s'
    | .ok _ => False
    | .error e => X.xe e s' := by
  cases r with
  | error e => exact hx pins H s e s' I h
  | ok fl =>
    cases fl with
    | ret u => exact I.after h
    | next => exact h
    | brk => exact h
    | cont => exact h
theorem run_fnG {E : L2.St → XK} {pins : List (Addr × Obj)} {σ : L2.St} {H : Hp} {s : Shared} {Q : VK} {us : List Value} {vs : List V} (F : FnG X.prog X.w X.K X.mg X.base k f fd ps sp) (hr : Room k X.A) (hg : X.A.guards = some []) (hb : Binds X.K fd ps []) (hx : PassesAt (L2.CX X.prog X.w) X σ (E σ))
    (I : Inv X pins σ H s) (r : Vals vs us) (h : sp vs H Q (E σ)) : wpAny (model X.prog X.w) X.A (call (.ref f) us) (EP X pins σ Q) X.xe s := by
  have hl : us.length = ps.length := by rw [← r.length]; exact F.len _ _ _ _ h
  have b := hb s us I.kIn (by rw [List.append_nil]; exact hl)
  rw [List.append_nil] at b
  refine wpAny_call (codeAny_mono (F.run X.A X.stack s H ⟨us, []⟩ us vs Q (E σ) hr hg I.env0 b r h) fun r s' hq => ?_)
  have q := CR.end_ I hx hq
  cases r with
  | error e => exact q
  | ok fl => cases fl <;> exact q
theorem pe_callG {E : L2.St → XK} {x : Str} {p pos : Pos} {e : Expr} {es : List Expr} {t : TA} (F : FnG X.prog X.w X.K X.mg X.base k f fd ps sp) (hr : Room k X.A) (hgd : X.A.guards = some []) (hg : Gl X x) (hm : X.mg x = some (.ref f)) (hk : PySem.W.keepIn X.K (.ref f) = true) (hb : Binds X.K fd ps []) (hx : ∀ σ, PassesAt (L2.CX X.prog X.w) X σ (E σ))
    (ha : PA X (e :: es) t) (hdb : (x == ("__debug__" : Str)) = false := by decide) (he : starEach (e :: es) X.env = (false, eval e X.env) :: starEach es X.env := by rfl) (hpl : (backTo pos (starEach es X.env)).any (·.1) = false := by rfl) :
    PE X (.Call (.Name x p) (e :: es) [] pos) (tCallS sp E t) := by
  refine ⟨fun pins s σ H Q I h => ?_⟩
  refine wpAny_Call_Name_kw (ld_glob I hg hm ?_ hdb)
  refine PySem.W.callWith_K (h₀ := X.base) I.ok.mod.kin hk (thn (ha.run pos pins s σ H _ I h) fun us s1 ⟨vs, H1, I1, r, q⟩ => ⟨I1.kIn, ?_⟩) he hpl
  exact run_fnG F hr hgd hb (hx σ) I1 r q
end
/-- from the body of the def -/
theorem fnG_of {P : Program} {w : World} {K : PySem.W.Frag} {mg : Str → Option Value} {base : Heap} {x qual : Str} {st : Stmt} {f : Addr} {fd : FuncData} {N ps : List Str} {k : Nat} {sp : Sp} (F : Fun K x qual st f fd) (S : FnScope N ps (defScope st)) (len : ∀ vs H Q E, sp vs H Q E → vs.length = ps.length)
    (hbody : ∀ (cdv : Value) (A : Around) (outer : List Env) (s : Shared) (H : Hp) (vs : List V) (Q : VK) (E : XK), Room k (A.deeper (envOfC qual (defScope st) s.heap.objs.size f cdv)) → A.guards = some [] → sp vs H Q E →
      ∃ t, PSs (cxOf (L2.CX P w) P w K mg base N qual (defScope st) f cdv A outer s H E) (defBody st) t ∧ t { nx := fun _ H' => Q .non H', rt := Q } (L2.start N vs) H) : FnG P w K mg base (k + 1) f fd ps sp := by
  obtain ⟨oc, od, kV, doc, pm, an, cdv, ct, osl, rfl, lk, hcd⟩ := F.ex
  refine ⟨len, fun A outer s H args us vs Q E hr hg e0 hb r hsp => ?_⟩
  -- the promise at this surrounding alone
  have old : ∀ b o, base.get? b = some o → s.heap.get? b = some o := fun b o e => (e0.bs b o e).1
  have KX : K.In s.heap := e0.mod.kin.keeps old
  refine codeAny_call_function hr.depth (KX _ _ lk) rfl S.co S.gen rfl (PySem.W.codeRec_of KX hcd) (hb _ _ _ _ ?_)
  refine wpAny_newFunctionEnv_cells S.kind (fun ⟨n, v⟩ hy => (S.par n (List.of_mem_zip hy).1).imp id fun q => ⟨q, PySem.W.cellsFrom_some _ _ _ (.inl q)⟩) fun env he s1 x => ?_
  subst he
  refine ⟨(e0.mod.nolimit.keeps old).keeps x.toInCall.keep, codeAny_func ?_⟩
  obtain ⟨t, ht, hq⟩ := hbody cdv A outer s H vs Q E (hr.deeper _) hg hsp
  have I := inv_start (CX := L2.CX P w) (E := E) S hr.hd e0 (len _ _ _ _ hsp) r x
  refine wpAny_mono (ht.run [] s1 (L2.start N vs) H _ I hq) (fun fl s' hs => ?_) fun e s' hs => hs
  cases fl with
  | ret u => obtain ⟨v, σ', H', J, rv, q⟩ := hs; exact ⟨v, H', J.os, J.bare, J.base, J.hok, rv, q⟩
  | next => obtain ⟨σ', H', J, q⟩ := hs; exact ⟨V.non, H', J.os, J.bare, J.base, J.hok, rfl, q⟩
  | brk => obtain ⟨_, _, _, q⟩ := hs; exact q.elim
  | cont => obtain ⟨_, _, _, q⟩ := hs; exact q.elim
def stOf (b : Base) (N : List Str) (sc : Scope) (k np : Nat) : Stat := { b with N := N, sc := sc, raw := sc, k := k, np := np, hot := false, xe := none, fr := true }
theorem fn_ok {x qual : Str} {st : Stmt} {f : Addr} {fd : FuncData} {N ps : List Str} {k : Nat} {io : List Nat} {m : M Fl} (Fn : Fun b.K x qual st f fd) (S : FnScope N ps (defScope st)) (hio : ∀ i ∈ io, i < ps.length)
    (h : ESs (stOf b N (defScope st) k ps.length) (defBody st) m) : FnG b.P b.w b.K b.mg b.base (k + 1) f fd ps (spF b io (fnM ps.length N.length io m)) := by
  have hlen : ∀ vs H Q E, spF b io (fnM ps.length N.length io m) vs H Q E → vs.length = ps.length := by
    rintro vs H Q E ⟨F, ds, s, a, q⟩
    by_cases hl : ds.length = ps.length
    · rw [a.len]; exact hl
    · unfold fnM at q
      rw [if_neg hl] at q
      exact q.elim
  refine fnG_of Fn S hlen (fun cdv A outer s H vs Q E hr hgd hq => ?_)
  have hvl := hlen _ _ _ _ hq
  obtain ⟨F, ds, sm, a, q⟩ := hq
  have hdl : ds.length = ps.length := by rw [← a.len]; exact hvl
  have hN : vs.length ≤ N.length := by
    have := congrArg List.length S.pre
    rw [List.length_take] at this
    omega
  have R := rel_entry (N := N) sm a hN
  have hpa : PaOk (stOf b N (defScope st) k ps.length) ⟨F, H, paOf io vs⟩ := fun ⟨i, x⟩ hp => hio i (mem_paOf (vs := vs).mp hp).1
  have hv : ∀ i ∈ io, ∃ x, vs[i]? = some (.ref x) := fun i hi => by
    have hlt : i < ds.length := by rw [hdl]; exact hio i hi
    obtain ⟨x, q1, _⟩ := a.ow i _ hi (List.getElem?_eq_getElem hlt)
    exact ⟨x, q1⟩
  refine ⟨tS (stOf b N (defScope st) k ps.length) ⟨F, H, paOf io vs⟩ (fun cls d _ H => E cls d H) m, h _ _ _ hpa ?_, F, _, R, ?_⟩
  · exact { P := rfl, w := rfl, K := rfl, mg := rfl, base := rfl, N := rfl, sc := rfl, nd := S.nd, fnc := fun _ _ => rfl, calm := fun _ => rfl, lm := (fun _ _ e => nomatch e), room := L2H.roomH_of hr, hd := fun _ => hr.hd, xp := (fun _ q => nomatch q), xh := fun _ => rfl, gd := hgd, fr := fun _ => ⟨rfl, rfl⟩, tk := takes_of rfl rfl rfl rfl, po := passes_of rfl }
  · unfold fnM at q
    rw [if_pos hdl] at q
    cases e : m (entry io ds N.length) with
    | bad => rw [e] at q; exact q.elim
    | err x ρ' =>
      rw [e] at q
      cases e2 : ioAt io ρ' with
      | none => simp only [e2] at q
      | some es =>
        simp only [e2] at q
        exact fun σ' F' H' cls d s' R' xr => q cls d F' H' (fin_of hv s' R' e2) xr
    | ok fl ρ' =>
      rw [e] at q
      cases fl with
      | bk => exact q.elim
      | ct => exact q.elim
      | nx =>
        cases e2 : ioAt io ρ' with
        | none => simp only [e2] at q
        | some es =>
          simp only [e2] at q
          exact fun σ' F' H' s' R' => q .non F' H' (fin_of hv s' R' e2) .non
      | rt d =>
        cases e2 : ioAt io ρ' with
        | none => simp only [e2] at q
        | some es =>
          simp only [e2] at q
          exact fun v σ' F' H' s' R' rv => q v F' H' (fin_of hv s' R' e2) rv
      | ro d =>
        cases e2 : ioAt io ρ' with
        | none => simp only [e2] at q
        | some es =>
          simp only [e2] at q
          intro x σ' F' H' s' R' ow no
          refine q x F' H' (fin_of hv s' R' e2) ow.nf ?_ ow.at_
          rcases ow.nh with z | ⟨⟨i, y⟩, hp, z⟩
          · exact z
          · exfalso
            have z : y = x := z
            subst z
            obtain ⟨d', hd'⟩ := R'.pw _ hp
            exact no i d' hd' (R'.par _ hp)
end
end DL

namespace DL
open PySem L2
section
variable {c : Stat}
/-! ### one of the frame's own things is changed -/
theorem Rel.chg {G : Ent} {F H F' H' : Hp} {σ : L2.St} {ρ : En} {i : Nat} {a : Addr} {d d' : D} (R : Rel c.K c.mg c.xt G F H σ ρ) (hρ : ρ[i]? = some (.ow d)) (hσ : σ[i]? = some (some (.ref a))) (ff : Same F F') (fh : Same F' H')
    (nn : ∀ x, H x ≠ none → F' x = F x) (kp : ∀ x o, x ≠ a → (∀ ps, o ≠ .tbl ps) → H x = some o → H' x = some o) (kt : ∀ x ps, H x = some (.tbl ps) → ∃ qs, H' x = some (.tbl qs)) (tt : TbOk c.T F' H') (ow : OwnAt c.K c.mg F' H' a d') : Rel c.K c.mg c.xt G F' H' σ (ρ.set i (.ow d')) := by
  have hl : i < ρ.length := (List.getElem?_eq_some_iff.mp hρ).1
  obtain ⟨a', e1, ow1⟩ := R.ow i d hρ
  rw [hσ] at e1
  cases e1
  have back : ∀ (j : Nat) (e : D), (ρ.set i (.ow d'))[j]? = some (.ow e) → (j = i ∧ e = d') ∨ (j ≠ i ∧ ρ[j]? = some (.ow e)) := fun j e q => by
    by_cases hj : j = i
    · subst hj
      rw [List.getElem?_set_self hl] at q
      cases q
      exact .inl ⟨rfl, rfl⟩
    · rw [List.getElem?_set_ne (Ne.symm hj)] at q
      exact .inr ⟨hj, q⟩
  have was : ∀ (j : Nat) (e : D), (ρ.set i (.ow d'))[j]? = some (.ow e) → ∃ e', ρ[j]? = some (.ow e') := fun j e q => by
    rcases back j e q with ⟨rfl, _⟩ | ⟨_, q⟩
    · exact ⟨d, hρ⟩
    · exact ⟨e, q⟩
  refine ⟨R.f0.trans ff, fh, fun b o h1 ht h2 => ?_, R.par, fun j e q => ?_, fun j e q => ?_, fun j k x e f hjk q1 q2 q3 => ?_, (by rw [List.length_set]; exact R.len), fun p hp => ?_, fun b hb => ?_, fun b ps h => ?_, tt, ?_⟩
  · refine kp b o (fun z => ?_) ht (R.kept b o h1 ht h2)
    subst z
    rcases ow1.nh with z | ⟨p, pm, z⟩
    · rw [h1] at z; cases z
    · exact h2 p pm z
  · have hj : j ≠ i := fun z => by subst z; rw [List.getElem?_set_self hl] at q; cases q
    rw [List.getElem?_set_ne (Ne.symm hj)] at q
    obtain ⟨v, h1, h2⟩ := R.fz j e q
    exact ⟨v, h1, h2.mono ff⟩
  · rcases back j e q with ⟨rfl, rfl⟩ | ⟨hj, q⟩
    · exact ⟨a, hσ, ⟨by rw [nn a ow1.at_.some]; exact ow1.nf, ow1.nh, ow⟩⟩
    · obtain ⟨x, h1, h2⟩ := R.ow j e q
      have hx : x ≠ a := fun z => R.ne i j a d e (Ne.symm hj) hρ q hσ (by rw [← z]; exact h1)
      exact ⟨x, h1, ⟨by rw [nn x h2.at_.some]; exact h2.nf, h2.nh, h2.at_.mono' ff fun o ho z => kp x o hx ho z⟩⟩
  · obtain ⟨e', w1⟩ := was j e q1
    obtain ⟨f', w2⟩ := was k f q2
    exact R.ne j k x e' f' hjk w1 w2 q3
  · obtain ⟨e, q⟩ := R.pw p hp
    by_cases hj : p.1 = i
    · exact ⟨d', by rw [hj]; exact List.getElem?_set_self hl⟩
    · exact ⟨e, by rw [List.getElem?_set_ne (Ne.symm hj)]; exact q⟩
  · rw [nn b (R.h_some hb)]; exact R.fn b hb
  · obtain ⟨qs, q⟩ := R.tbs b ps h
    exact kt b qs q
  · refine xcMono' ff (R.xcSet (i := i) (s := .ow d') (fun x q => by cases q) fun _ _ => rfl)
/-- behind a call that changes nothing of the frame -/
theorem Rel.fin {G : Ent} {F H F' H' : Hp} {σ : L2.St} {ρ : En} {vs : List V} {es : List D} (R : Rel c.K c.mg c.xt G F H σ ρ) (f : Fin c.toBase F H [] vs es F' H') : Rel c.K c.mg c.xt G F' H' σ ρ where
  f0 := R.f0.trans f.ff
  fh := f.fh
  kept := fun b o h1 ht h2 => f.kept b o (R.kept b o h1 ht h2) ht fun _ z => (nomatch z)
  par := R.par
  fz := fun i d h => let ⟨v, h1, h2⟩ := R.fz i d h; ⟨v, h1, h2.mono f.ff⟩
  ow := fun i d h => let ⟨a, h1, h2⟩ := R.ow i d h; ⟨a, h1, ⟨by rw [f.nn _ h2.at_.some]; exact h2.nf, h2.nh, h2.at_.mono' f.ff fun o ho q => f.kept a o q ho fun _ z => (nomatch z)⟩⟩
  ne := R.ne
  len := R.len
  pw := R.pw
  fn := fun b h => by rw [f.nn b (R.h_some h)]; exact R.fn b h
  tbs := fun b ps h => let ⟨qs, q⟩ := R.tbs b ps h; f.tbs b qs q
  tb := f.tb
  xc := xcMono' f.ff R.xc
theorem args_pure {b : Base} {F H : Hp} {vs : List V} {ds : List D} (r : Dns b.K b.mg F vs ds) (tb : TbOk b.T F H) : ArgsOk b F H [] vs ds :=
  ⟨r.length, fun i v d _ h1 h2 => by
    obtain ⟨v', q1, q2⟩ := r.get h2
    rw [h1] at q1; cases q1
    exact q2, fun _ _ z => (nomatch z), fun _ _ _ _ z => (nomatch z), tb⟩
/-! ### calls -/
def cal (g : List D → OutF) (a : M (List D)) : M D := bnd a fun ds ρ => match g ds with
  | .ok d _ => .ok d ρ
  | .err x _ => .err x ρ
  | _ => .bad
/-- the first argument is the frame's own thing in slot i -/
def isOw (i : Nat) (ρ : En) : Bool := match ρ[i]? with
  | some (.ow _) => true
  | _ => false
def own {α : Type} (i : Nat) (m : M α) : M α := fun ρ => if isOw i ρ then m ρ else .bad
theorem isOw_of {i : Nat} {ρ : En} (h : isOw i ρ = true) : ∃ d, ρ[i]? = some (.ow d) := by
  unfold isOw at h
  split at h
  · rename_i d e; exact ⟨d, e⟩
  · cases h
def calR (g : List D → OutF) (i : Nat) (a : M (List D)) : M D := own i (bnd a fun ds ρ => match ρ[i]? with
  | some (.ow j) => (match g (j :: ds) with
    | .ok d [e] => .ok d (ρ.set i (.ow e))
    | .err x [e] => .err x (ρ.set i (.ow e))
    | _ => .bad)
  | _ => .bad)
structure Cal (b : Base) (k : Nat) (x : Str) (io : List Nat) (g : List D → OutF) : Prop where
  ex : ∃ f fd ps, FnG b.P b.w b.K b.mg b.base k f fd ps (spF b io g) ∧ b.mg x = some (.ref f) ∧ PySem.W.keepIn b.K (.ref f) = true ∧ Binds b.K fd ps []
theorem post_cal {G : Ent} {W : WX} {σ : L2.St} {H F : Hp} {ρ : En} {vs : List V} {ds : List D} {g : List D → OutF} {Q : VK} (R : Rel c.K c.mg c.xt G F H σ ρ) (r : Dns c.K c.mg F vs ds)
    (q : Post (Dn c.K c.mg) c G W F σ (match g ds with | .ok d _ => .ok d ρ | .err x _ => .err x ρ | _ => .bad : Out D) Q) : spF c.toBase [] g vs H Q (WE W σ) := by
  refine ⟨F, ds, R.fh, args_pure r R.tb, ?_⟩
  cases e : g ds with
  | bad => rw [e] at q; exact q
  | oko d es => rw [e] at q; exact q.elim
  | ok d es => rw [e] at q; exact fun v F' H' f rv => q v F' H' f.ff (R.fin f) rv
  | err x es => rw [e] at q; exact fun cls dd F' H' f xr => q F' H' cls dd f.ff (R.fin f) xr
theorem ed_cal {k : Nat} {x : Str} {g : List D → OutF} {e : Expr} {es : List Expr} {f : M (List D)} {p pos : Pos} (cl : Cal c.toBase k x [] g) (hk : k ≤ c.k) (hg : Gn c x) (ha : EA c (e :: es) f) (hdb : (x == ("__debug__" : Str)) = false := by decide)
    (he : ∀ env, starEach (e :: es) env = (false, eval e env) :: starEach es env := by intro _; rfl) (hpl : ∀ env, (backTo pos (starEach es env)).any (·.1) = false := by intro _; rfl) (hc : c.hot = false := by first | rfl | assumption) : ED c (.Call (.Name x p) (e :: es) [] pos) (cal g f) := fun G X W z => by
  obtain ⟨fa, fd, ps, F, hm, kp, hb⟩ := cl.ex
  have F' : FnG X.prog X.w X.K X.mg X.base k fa fd ps (spF c.toBase [] g) := by rw [z.P, z.w, z.K, z.mg, z.base]; exact F
  refine pe_imp (pe_callG F' ((z.cold hc).mono hk) z.gd (hg.gl z) (by rw [z.mg]; exact hm) (by rw [z.K]; exact kp) (by rw [z.K]; exact hb) (fun σ => passAt z.tk σ) (ha G X W z) hdb (he _) (hpl _)) fun σ H Q ⟨F0, ρ, R, q⟩ => ?_
  refine tG_bind R q fun F1 H1 ρ1 vs ds s1 R1 rx q1 => ?_
  exact post_cal R1 rx q1
theorem post_calR {G : Ent} {W : WX} {σ : L2.St} {H F : Hp} {ρ : En} {vs : List V} {ds : List D} {g : List D → OutF} {Q : VK} {i : Nat} {v0 : V} (R : Rel c.K c.mg c.xt G F H σ ρ) (r : Dns c.K c.mg F vs ds) (h0 : σ[i]? = some (some v0))
    (q : Post (Dn c.K c.mg) c G W F σ (match ρ[i]? with
      | some (.ow j) => (match g (j :: ds) with
        | .ok d [e] => .ok d (ρ.set i (.ow e))
        | .err x [e] => .err x (ρ.set i (.ow e))
        | _ => .bad)
      | _ => .bad : Out D) Q) : spF c.toBase [0] g (v0 :: vs) H Q (WE W σ) := by
  cases e0 : ρ[i]? with
  | none => rw [e0] at q; exact q.elim
  | some s =>
  rw [e0] at q
  cases s <;> try exact q.elim
  rename_i j
  obtain ⟨a, h1, h2⟩ := R.ow i j e0
  rw [h0] at h1
  cases h1
  refine ⟨F, j :: ds, R.fh, ⟨by simp [r.length], fun k v d hk q1 q2 => ?_, fun k d hk q1 => ?_, fun k l x hkl hk hl => ?_, R.tb⟩, ?_⟩
  · cases k with
    | zero => exact absurd List.mem_cons_self hk
    | succ k =>
      simp at q1 q2
      obtain ⟨v', p1, p2⟩ := r.get q2
      rw [q1] at p1; cases p1
      exact p2
  · have hk0 : k = 0 := by simpa using hk
    subst hk0
    simp at q1
    subst q1
    exact ⟨a, rfl, h2.nf, h2.at_⟩
  · have hk0 : k = 0 := by simpa using hk
    have hl0 : l = 0 := by simpa using hl
    omega
  · have upd : ∀ {es : List D} {e : D} {F' H' : Hp}, es = [e] → Fin c.toBase F H [0] (.ref a :: vs) es F' H' → Rel c.K c.mg c.xt G F' H' σ (ρ.set i (.ow e)) := fun {es e F' H'} he f => by
      subst he
      obtain ⟨a', q1, q2, q3⟩ := f.io 0 0 e rfl rfl
      simp at q1
      subst q1
      exact R.chg e0 h0 f.ff f.fh f.nn (fun x o hx ht hh => f.kept x o hh ht fun k hk zz => by
        have hk0 : k = 0 := by simpa using hk
        subst hk0
        simp at zz
        exact hx zz.symm) f.tbs f.tb q3
    cases e : g (j :: ds) with
    | bad => simp only [e] at q; exact q
    | oko d es => simp only [e] at q; exact q.elim
    | ok d es =>
      simp only [e] at q
      intro v F' H' f rv
      match es, q with
      | [e'], q => exact q v F' H' f.ff (upd rfl f) rv
    | err x es =>
      simp only [e] at q
      intro cls dd F' H' f xr
      match es, q with
      | [e'], q => exact q F' H' cls dd f.ff (upd rfl f) xr
theorem ed_calR {k : Nat} {x y : Str} {g : List D → OutF} {i : Nat} {es : List Expr} {f : M (List D)} {p p2 pos : Pos} (cl : Cal c.toBase k x [0] g) (hk : k ≤ c.k) (hg : Gn c x) (hN : c.N[i]? = some y) (hv : Vis c.sc y) (ha : EA c es f) (hdb : (x == ("__debug__" : Str)) = false := by decide)
    (hd : (y == ("__debug__" : Str)) = false := by decide) (hcd : (y == ("__classdict__" : Str)) = false := by decide)
    (hpl : ∀ env, (backTo pos (starEach es env)).any (·.1) = false := by intro _; rfl) (hc : c.hot = false := by first | rfl | assumption) : ED c (.Call (.Name x p) (.Name y p2 :: es) [] pos) (calR g i f) := fun G X W z => by
  obtain ⟨fa, fd, ps, F, hm, kp, hb⟩ := cl.ex
  have F' : FnG X.prog X.w X.K X.mg X.base k fa fd ps (spF c.toBase [0] g) := by rw [z.P, z.w, z.K, z.mg, z.base]; exact F
  have pv : PE X (.Name y p2) (tVar i) := pe_var (i := i) (by rw [z.N]; exact hN) (by rw [z.sc]; exact hv) hd hcd
  refine pe_imp (pe_callG F' ((z.cold hc).mono hk) z.gd (hg.gl z) (by rw [z.mg]; exact hm) (by rw [z.K]; exact kp) (by rw [z.K]; exact hb) (fun σ => passAt z.tk σ) (pa_cons pv (ha G X W z)) hdb rfl (hpl _)) fun σ H Q ⟨F0, ρ, R, q⟩ => ?_
  unfold calR own at q
  split at q
  case isFalse => exact q.elim
  rename_i ho
  obtain ⟨d0, ho⟩ := isOw_of ho
  obtain ⟨a, h0, _⟩ := R.ow i d0 ho
  refine ⟨_, h0, ?_⟩
  refine tG_bind R q fun F1 H1 ρ1 vs ds s1 R1 rx q1 => ?_
  exact post_calR R1 rx h0 q1
/-! ### the frame's own lists and dicts -/
/-- own list: len, item -/
def lenO (i : Nat) : M D := fun ρ => match ρ[i]? with
  | some (.ow (.lst ds)) => .ok (.int ds.length) ρ
  | _ => .bad
theorem ed_lenO {i : Nat} {x y : Str} {p p2 pos : Pos} (hx : x = "len") (hg : Gn c x) (hm : c.mg x = none) (hN : c.N[i]? = some y) (hv : Vis c.sc y) (hd : (y == ("__debug__" : Str)) = false := by decide) (hcd : (y == ("__classdict__" : Str)) = false := by decide) :
    ED c (.Call (.Name x p) [.Name y p2] [] pos) (lenO i) := fun G X W z => by
  subst hx
  have pv : PE X (.Name y p2) (tVar i) := pe_var (i := i) (by rw [z.N]; exact hN) (by rw [z.sc]; exact hv) hd hcd
  refine pe_imp (pe_callB call_len (hg.gl z) (by rw [z.mg]; exact hm) PySem.boot_len (pa_cons pv pa_nil)) fun σ H Q ⟨F, ρ, R, q⟩ => ?_
  unfold lenO at q
  split at q
  · rename_i ds e
    obtain ⟨a, h0, ow⟩ := R.ow i _ e
    obtain ⟨vs, h1, h2⟩ := ow.at_
    refine ⟨_, h0, _, _, rfl, .inl ⟨vs, .inl (.inl h1), rfl⟩, ?_⟩
    rw [h2.length]
    exact q _ F H (Same.refl _) R (.int _)
  · exact q.elim
/-- x[e], x an own list (or dict) -/
def ixO (i : Nat) (a : M D) : M D := own i (bnd a fun k ρ => match ρ[i]? with
  | some (.ow (.lst ds)) => (match k with
    | .int n => (match atI ds n with
      | some d => .ok d ρ
      | none => .bad)
    | _ => .bad)
  | some (.ow (.dct kvs)) => (match asK k with
    | some k => (match lookK k kvs with
      | some d => .ok d ρ
      | none => .bad)
    | none => .bad)
  | _ => .bad)
theorem ed_ixO {i : Nat} {y : Str} {b : Expr} {f : M D} {p2 pos : Pos} (hN : c.N[i]? = some y) (hv : Vis c.sc y) (hb : ED c b f) (hs : PlainIx b := by intro _ _; rfl) (hd : (y == ("__debug__" : Str)) = false := by decide) (hcd : (y == ("__classdict__" : Str)) = false := by decide) :
    ED c (.Subscript (.Name y p2) b pos) (ixO i f) := fun G X W z => by
  have pv : PE X (.Name y p2) (tVar i) := pe_var (i := i) (by rw [z.N]; exact hN) (by rw [z.sc]; exact hv) hd hcd
  refine pe_imp (pe_ix (IxR.or ix_list (ix_dict (by have := z.room.units; omega))) pv (hb G X W z) hs) fun σ H Q ⟨F, ρ, R, q⟩ => ?_
  unfold ixO own at q
  split at q
  case isFalse => exact q.elim
  rename_i ho
  obtain ⟨d0, ho⟩ := isOw_of ho
  obtain ⟨a, h0, _⟩ := R.ow i d0 ho
  refine ⟨_, h0, ?_⟩
  refine tG_bind R q fun F1 H1 ρ1 k dk s1 R1 rk q1 => ?_
  split at q1
  · rename_i ds e1
    obtain ⟨a1, h1, ow⟩ := R1.ow i _ e1
    rw [h0] at h1; cases h1
    obtain ⟨vs, h2, h3⟩ := ow.at_
    split at q1
    · rename_i n
      cases rk
      cases e2 : atI ds n with
      | none => simp only [e2] at q1; exact q1.elim
      | some d =>
        simp only [e2] at q1
        obtain ⟨v, p1, p2⟩ := atI_dns h3 e2
        exact .inl ⟨_, _, _, v, rfl, rfl, .inl (.inl h2), p1, q1 v F1 H1 (Same.refl _) R1 p2⟩
    · exact q1.elim
  · rename_i kvs e1
    obtain ⟨a1, h1, ow⟩ := R1.ow i _ e1
    rw [h0] at h1; cases h1
    obtain ⟨kvV, h2, h3⟩ := ow.at_
    cases hk : asK dk with
    | none => simp only [hk] at q1; exact q1.elim
    | some k' =>
      simp only [hk] at q1
      rcases dkv_look k' h3 with ⟨p1, p2⟩ | ⟨d2, v2, p1, p2, p3⟩
      · simp only [p1] at q1; exact q1.elim
      · simp only [p1] at q1
        exact .inr ⟨_, v2, rfl, .inl ⟨_, _, .inl h2, asK_V rk hk, p2.symm⟩, q1 v2 F1 H1 (Same.refl _) R1 p3⟩
  · exact q1.elim
theorem Rel.chgU {G : Ent} {F H : Hp} {σ : L2.St} {ρ : En} {i : Nat} {a : Addr} {d d' : D} {o : HO} (R : Rel c.K c.mg c.xt G F H σ ρ) (hρ : ρ[i]? = some (.ow d)) (hσ : σ[i]? = some (some (.ref a))) (nf : F a = none) (ow : OwnAt c.K c.mg F (upd H a o) a d') :
    Rel c.K c.mg c.xt G F (upd H a o) σ (ρ.set i (.ow d')) := by
  obtain ⟨a', e1, ow1⟩ := R.ow i d hρ
  rw [hσ] at e1; cases e1
  have pl := ow1.at_.plain
  refine R.chg hρ hσ (Same.refl _) (fun x u e => by rw [upd_ne (ne_of_none e nf)]; exact R.fh x u e) (fun _ _ => rfl) (fun x u hx _ e => by rw [upd_ne hx]; exact e) (fun x ps e => ⟨ps, ?_⟩) (R.tb.upd pl) ow
  rw [upd_ne fun z => pl.t ps (by rw [← z]; exact e)]; exact e
theorem Rel.own_lst {G : Ent} {F H : Hp} {σ : L2.St} {ρ : En} {i : Nat} {a : Addr} {d : D} {vs : List V} {ds : List D} (R : Rel c.K c.mg c.xt G F H σ ρ) (hρ : ρ[i]? = some (.ow d)) (hσ : σ[i]? = some (some (.ref a))) (nf : F a = none) (r : Dns c.K c.mg F vs ds) :
    Rel c.K c.mg c.xt G F (upd H a (.lst vs)) σ (ρ.set i (.ow (.lst ds))) :=
  R.chgU hρ hσ nf ⟨vs, upd_same, r⟩
def isOwL (i : Nat) (ρ : En) : Bool := match ρ[i]? with
  | some (.ow (.lst _)) => true
  | _ => false
def ownL {α : Type} (i : Nat) (m : M α) : M α := fun ρ => if isOwL i ρ then m ρ else .bad
theorem isOwL_of {i : Nat} {ρ : En} (h : isOwL i ρ = true) : ∃ d, ρ[i]? = some (.ow (.lst d)) := by
  unfold isOwL at h
  split at h
  · rename_i d e; exact ⟨d, e⟩
  · cases h
/-- x.append(e) -/
def appO (i : Nat) (a : M D) : M D := ownL i (bnd a fun d ρ => match ρ[i]? with
  | some (.ow (.lst ds)) => if ds.length < sz then .ok .non (ρ.set i (.ow (.lst (ds ++ [d])))) else .bad
  | _ => .bad)
theorem ed_appO {i : Nat} {y : Str} {b : Expr} {f : M D} {apos cpos p2 : Pos} (hN : c.N[i]? = some y) (hv : Vis c.sc y) (hb : ED c b f) (hd : (y == ("__debug__" : Str)) = false := by decide) (hcd : (y == ("__classdict__" : Str)) = false := by decide)
    (hst : ∀ env, starEach [b] env = [(false, eval b env)] := by intro _; rfl) (hl : (apos.endLine == cpos.line) = true := by rfl) : ED c (.Call (.Attribute (.Name y p2) "append" apos) [b] [] cpos) (appO i f) := fun G X W z => by
  have pv : PE X (.Name y p2) (tVar i) := pe_var (i := i) (by rw [z.N]; exact hN) (by rw [z.sc]; exact hv) hd hcd
  refine pe_imp (pe_bm PySem.F.plainAttrs_list PySem.F.slot_list_append PySem.F.type_list_append mt_append pv (pa_cons (hb G X W z) pa_nil (hst _)) rfl (by rw [hst]; rfl) hl (hst _) rfl) fun σ H Q ⟨F, ρ, R, q⟩ => ?_
  unfold appO ownL at q
  split at q
  case isFalse => exact q.elim
  rename_i ho
  obtain ⟨d0, ho⟩ := isOwL_of ho
  obtain ⟨a, h0, ow0⟩ := R.ow i _ ho
  obtain ⟨vs0, h20, _⟩ := ow0.at_
  refine ⟨_, h0, .inl ⟨rfl, _, .inl (.inl h20)⟩, ?_⟩
  refine tG_bind R q fun F1 H1 ρ1 k dk s1 R1 rk q1 => ?_
  split at q1
  · rename_i ds e1
    obtain ⟨a1, h1, ow⟩ := R1.ow i _ e1
    rw [h0] at h1; cases h1
    obtain ⟨vs, h2, h3⟩ := ow.at_
    split at q1
    · rename_i hlen
      refine ⟨_, vs, _, rfl, rfl, h2, by rw [sz_eq, h3.length]; exact hlen, ?_⟩
      exact q1 .non F1 _ (Same.refl _) (R1.own_lst e1 h0 ow.nf (h3.snoc rk)) .non
    · exact q1.elim
  · exact q1.elim
/-- x.pop(e) -/
def popO (i : Nat) (a : M D) : M D := ownL i (bnd a fun k ρ => match ρ[i]?, k with
  | some (.ow (.lst ds)), .int n => if 0 ≤ n ∧ n < 2 ^ 62 then (match ds[n.toNat]? with
    | some d => .ok d (ρ.set i (.ow (.lst (ds.eraseIdx n.toNat))))
    | none => .bad) else .bad
  | _, _ => .bad)
theorem ed_popO {i : Nat} {y : Str} {b : Expr} {f : M D} {apos cpos p2 : Pos} (hN : c.N[i]? = some y) (hv : Vis c.sc y) (hb : ED c b f) (hd : (y == ("__debug__" : Str)) = false := by decide) (hcd : (y == ("__classdict__" : Str)) = false := by decide)
    (hst : ∀ env, starEach [b] env = [(false, eval b env)] := by intro _; rfl) (hl : (apos.endLine == cpos.line) = true := by rfl) : ED c (.Call (.Attribute (.Name y p2) "pop" apos) [b] [] cpos) (popO i f) := fun G X W z => by
  have pv : PE X (.Name y p2) (tVar i) := pe_var (i := i) (by rw [z.N]; exact hN) (by rw [z.sc]; exact hv) hd hcd
  refine pe_imp (pe_bm PySem.F.plainAttrs_list PySem.F.slot_list_pop PySem.F.type_list_pop mt_popAt pv (pa_cons (hb G X W z) pa_nil (hst _)) rfl (by rw [hst]; rfl) hl (hst _) rfl) fun σ H Q ⟨F, ρ, R, q⟩ => ?_
  unfold popO ownL at q
  split at q
  case isFalse => exact q.elim
  rename_i ho
  obtain ⟨d0, ho⟩ := isOwL_of ho
  obtain ⟨a, h0, ow0⟩ := R.ow i _ ho
  obtain ⟨vs0, h20, _⟩ := ow0.at_
  refine ⟨_, h0, .inl ⟨rfl, _, .inl (.inl h20)⟩, ?_⟩
  refine tG_bind R q fun F1 H1 ρ1 k dk s1 R1 rk q1 => ?_
  split at q1
  · rename_i ds n e1
    obtain ⟨a1, h1, ow⟩ := R1.ow i _ e1
    rw [h0] at h1; cases h1
    obtain ⟨vs, h2, h3⟩ := ow.at_
    cases rk
    split at q1
    case isFalse => exact q1.elim
    rename_i hn
    cases e2 : ds[n.toNat]? with
    | none => simp only [e2] at q1; exact q1.elim
    | some d =>
      simp only [e2] at q1
      obtain ⟨v, p1, p2⟩ := h3.get e2
      have hlt : n.toNat < vs.length := (List.getElem?_eq_some_iff.mp p1).1
      refine ⟨_, vs, n, n.toNat, v, rfl, rfl, h2, by omega, by omega, seqIndex_of hn.1 (by omega), p1, ?_⟩
      exact q1 v F1 _ (Same.refl _) (R1.own_lst e1 h0 ow.nf (h3.eraseIdx _)) p2
  · exact q1.elim
/-- x[k] = e, x an own list or dict -/
def putK' (k : DK) (d : D) (kvs : List (DK × D)) : List (DK × D) := if (kvs.any fun kv => decide (kv.1 = k)) = true then kvs.map fun kv => if kv.1 = k then (kv.1, d) else kv else kvs ++ [(k, d)]
def stO (i : Nat) (a k : M D) : M Fl := own i (bnd a fun d => own i (bnd k fun k ρ => match ρ[i]? with
  | some (.ow (.lst ds)) => (match k with
    | .int n => (match ixN ds.length n with
      | some j => .ok .nx (ρ.set i (.ow (.lst (ds.set j d))))
      | none => .bad)
    | _ => .bad)
  | some (.ow (.dct kvs)) => (match asK k with
    | some k => if kvs.length < sz then .ok .nx (ρ.set i (.ow (.dct (putK' k d kvs)))) else .bad
    | none => .bad)
  | _ => .bad))
theorem PSet.or {X : Cx} {r r' : TSet} (h : PSet X r) (h' : PSet X r') : PSet X (fun o i v H Q => r o i v H Q ∨ r' o i v H Q) := fun pins s σ H o i v ov iv u Q I ro ri rv q => by
  rcases q with q | q
  · exact h pins s σ H o i v ov iv u Q I ro ri rv q
  · exact h' pins s σ H o i v ov iv u Q I ro ri rv q
def rSetD' : TSet := fun o i v H Q => ∃ a H', o = .ref a ∧ DPut H a i v H' ∧ Q H'
theorem set_dict' {X : Cx} (hu : X.A.units + 1 < cLine) : PSet X rSetD' := set_dict hu
theorem key_dec (j k : DK) : decide (j.key = k.key) = decide (j = k) := by
  by_cases h : j = k
  · subst h; simp
  · have : j.key ≠ k.key := fun q => h (key_inj q)
    simp [h, this]
theorem dkv_any {K : PySem.W.Frag} {mg : Str → Option Value} {F : Hp} {k : DK} : ∀ {kvs : List (Key × V)} {kds : List (DK × D)}, Dkv K mg F kvs kds → (kvs.any fun kv => decide (kv.1 = k.key)) = kds.any fun kv => decide (kv.1 = k)
  | _, _, .nil => rfl
  | _, _, .cons _ _ r => by simp only [List.any_cons, key_dec, dkv_any r]
theorem dkv_map {K : PySem.W.Frag} {mg : Str → Option Value} {F : Hp} {k : DK} {v : V} {d : D} (h : Dn K mg F v d) : ∀ {kvs : List (Key × V)} {kds : List (DK × D)}, Dkv K mg F kvs kds → Dkv K mg F (kvs.map fun kv => if kv.1 = k.key then (kv.1, v) else kv) (kds.map fun kv => if kv.1 = k then (kv.1, d) else kv)
  | _, _, .nil => .nil
  | _, _, @Dkv.cons _ _ _ j w e vs ds ok q r => by
    by_cases hj : j = k
    · subst hj
      simp only [List.map_cons, if_true]
      exact .cons ok h (dkv_map h r)
    · have hk : j.key ≠ k.key := fun q => hj (key_inj q)
      simp only [List.map_cons, if_neg hj, if_neg hk]
      exact .cons ok q (dkv_map h r)
theorem dkv_snoc {K : PySem.W.Frag} {mg : Str → Option Value} {F : Hp} {k : DK} {v : V} {d : D} (hk : okK k) (h : Dn K mg F v d) : ∀ {kvs : List (Key × V)} {kds : List (DK × D)}, Dkv K mg F kvs kds → Dkv K mg F (kvs ++ [(k.key, v)]) (kds ++ [(k, d)])
  | _, _, .nil => .cons hk h .nil
  | _, _, .cons ok q r => .cons ok q (dkv_snoc hk h r)
theorem dkv_put {K : PySem.W.Frag} {mg : Str → Option Value} {F : Hp} {k : DK} {v : V} {d : D} (hk : okK k) (h : Dn K mg F v d) {kvs : List (Key × V)} {kds : List (DK × D)} (r : Dkv K mg F kvs kds) : Dkv K mg F (putK kvs k.key v) (putK' k d kds) := by
  unfold putK putK'
  rw [dkv_any r]
  split
  · exact dkv_map h r
  · exact dkv_snoc hk h r
theorem Dkv.length {K : PySem.W.Frag} {mg : Str → Option Value} {F : Hp} : ∀ {kvs : List (Key × V)} {kds : List (DK × D)}, Dkv K mg F kvs kds → kvs.length = kds.length
  | _, _, .nil => rfl
  | _, _, .cons _ _ r => by simp [r.length]
theorem es_stO {i : Nat} {y : Str} {b e : Expr} {f g : M D} {p2 pos' pos : Pos} (hN : c.N[i]? = some y) (hv : Vis c.sc y) (he : ED c e f) (hb : ED c b g) (hd : (y == ("__debug__" : Str)) = false := by decide) (hcd : (y == ("__classdict__" : Str)) = false := by decide)
    (h1 : ∀ env, swapsWithSole [.Subscript (.Name y p2) b pos'] e pos.line env = pure false := by intro _; rfl) (h2 : ∀ env, swappedStores [.Subscript (.Name y p2) b pos'] e env = pure none := by intro _; rfl)
    (h3 : ∀ env, List.map (fun x => x.snd) (assignEach [.Subscript (.Name y p2) b pos'] env) = [assign (.Subscript (.Name y p2) b pos') env] := by intro _; rfl)
    (ha : ∀ env v, assign (.Subscript (.Name y p2) b pos') env v = (do
      let ov ← holding [v] (eval (.Name y p2) env)
      let iv ← holding [v, ov] (eval b env)
      standAt pos'
      holding [v, ov, iv] (setItem ov iv v)
      release [v, ov, iv] []) := by intro _ _; rfl) : ES c (.Assign [.Subscript (.Name y p2) b pos'] e pos) (stO i f g) := fun G X W p z => by
  have pv : PE X (.Name y p2) (tVar i) := pe_var (i := i) (by rw [z.N]; exact hN) (by rw [z.sc]; exact hv) hd hcd
  refine ps_imp (ps_asg (he G X W z) (pg_sub pv (hb G X W z) (PSet.or set_list (set_dict' (by have := z.room.units; omega))) (fun v => ha _ v)) (h1 _) (h2 _) (h3 _)) fun Z σ H ⟨F, ρ, R, q⟩ => ?_
  unfold stO at q
  have q' := q
  unfold own at q'
  split at q'
  case isFalse => exact q'.elim
  refine tG_bindS R q' fun F1 H1 ρ1 x dx s1 R1 rx q1 => ?_
  unfold own at q1
  split at q1
  case isFalse => exact q1.elim
  rename_i ho
  obtain ⟨d0, ho⟩ := isOw_of ho
  obtain ⟨a, h0, _⟩ := R1.ow i d0 ho
  refine ⟨_, h0, ?_⟩
  refine tG_bindS R1 q1 fun F2 H2 ρ2 k dk s2 R2 rk q2 => ?_
  split at q2
  · rename_i ds e1
    obtain ⟨a1, h1, ow⟩ := R2.ow i _ e1
    rw [h0] at h1; cases h1
    obtain ⟨vs, p1, p2⟩ := ow.at_
    split at q2
    case _ n =>
      cases rk
      cases e2 : ixN ds.length n with
      | none => simp only [e2] at q2; exact q2.elim
      | some j =>
        simp only [e2] at q2
        refine .inl ⟨_, vs, n, j, rfl, rfl, p1, by rw [p2.length]; exact e2, ?_⟩
        exact q2 σ F2 _ (Same.refl _) (R2.own_lst e1 h0 ow.nf (p2.set (rx.mono s2) j))
    case _ => exact q2.elim
  · rename_i kvs e1
    obtain ⟨a1, h1, ow⟩ := R2.ow i _ e1
    rw [h0] at h1; cases h1
    obtain ⟨kvV, p1, p2⟩ := ow.at_
    cases hk : asK dk with
    | none => simp only [hk] at q2; exact q2.elim
    | some k' =>
      simp only [hk] at q2
      split at q2
      case isFalse => exact q2.elim
      rename_i hlen
      refine .inr ⟨_, _, rfl, .inl ⟨kvV, k'.key, p1, asK_V rk hk, by rw [sz_eq, p2.length]; exact hlen, rfl⟩, ?_⟩
      refine q2 σ F2 _ (Same.refl _) (R2.chgU e1 h0 ow.nf ⟨_, upd_same, dkv_put (asK_ok rk hk) (rx.mono s2) p2⟩)
  · exact q2.elim
end
end DL

namespace DL
open PySem L2
section
variable {c : Stat}
/-! ### values that are the frame's own -/
def SlAt (c : Stat) (G : Ent) (F H : Hp) (σ : L2.St) (ρ : En) (v : V) : Sl → Prop
  | .un => False
  | .xc _ => False
  | .fz d => Dn c.K c.mg F v d
  | .ow d => ∃ a, v = .ref a ∧ Ow c.K c.mg G F H a d ∧ ∀ (i : Nat) (e : D), ρ[i]? = some (.ow e) → σ[i]? ≠ some (some (.ref a))
def PostV (c : Stat) (G : Ent) (W : WX) (F : Hp) (σ : L2.St) (o : Out Sl) (Q : VK) : Prop := match o with
  | .ok s ρ' => ∀ v F' H', Same F F' → Rel c.K c.mg c.xt G F' H' σ ρ' → SlAt c G F' H' σ ρ' v s → Q v H'
  | .err x ρ' => ∀ F' H' cls d, Same F F' → Rel c.K c.mg c.xt G F' H' σ ρ' → XRel c.mg c.K F' cls d x → W cls d σ H'
  | .bad => False
def tV (c : Stat) (G : Ent) (W : WX) (m : M Sl) : TE := fun σ H Q => ∃ F ρ, Rel c.K c.mg c.xt G F H σ ρ ∧ PostV c G W F σ (m ρ) Q
def EV (c : Stat) (e : Expr) (m : M Sl) : Prop := ∀ G X W, Cz c X W → PE X e (tV c G W m)
theorem PostV.mono {G : Ent} {W : WX} {F F' : Hp} {σ : L2.St} {o : Out Sl} {Q : VK} (s : Same F F') (h : PostV c G W F σ o Q) : PostV c G W F' σ o Q := by
  cases o with
  | ok a ρ => exact fun b F2 H2 s2 => h b F2 H2 (s.trans s2)
  | err x ρ => exact fun F2 H2 cls d s2 => h F2 H2 cls d (s.trans s2)
  | bad => exact h
theorem tG_bindV {α β : Type} {R : Hp → β → α → Prop} {G : Ent} {W : WX} {σ : L2.St} {H : Hp} {m : M α} {f : α → M Sl} {k : β → Hp → Prop} {Q : VK} {F : Hp} {ρ : En} (r : Rel c.K c.mg c.xt G F H σ ρ) (h : PostV c G W F σ (bnd m f ρ) Q)
    (hk : ∀ F' H1 ρ' b a, Same F F' → Rel c.K c.mg c.xt G F' H1 σ ρ' → R F' b a → PostV c G W F' σ (f a ρ') Q → k b H1) : tG R c G W m σ H k := by
  refine ⟨F, ρ, r, ?_⟩
  unfold bnd at h
  cases e : m ρ with
  | bad => rw [e] at h; exact h
  | err x ρ' => rw [e] at h; exact h
  | ok a ρ' =>
    rw [e] at h
    exact fun b F' H' s r' rb => hk F' H' ρ' b a s r' rb (PostV.mono s h)
def fzV (m : M D) : M Sl := bnd m fun d => ret (.fz d)
theorem ev_fz {e : Expr} {f : M D} (h : ED c e f) : EV c e (fzV f) := fun G X W z => by
  refine pe_imp (h G X W z) fun σ H Q ⟨F, ρ, R, q⟩ => ?_
  exact tG_bindV R q fun F1 H1 ρ1 x dx s1 R1 rx q1 => q1 x F1 H1 (Same.refl _) R1 rx
/-- something new, laid at p -/
theorem fresh_own {G : Ent} {F H : Hp} {σ : L2.St} {ρ : En} {p : Addr} {o : HO} {d : D} (R : Rel c.K c.mg c.xt G F H σ ρ) (hp : H p = none) (h : OwnAt c.K c.mg F (upd H p o) p d) : Rel c.K c.mg c.xt G F (upd H p o) σ ρ ∧ SlAt c G F (upd H p o) σ ρ (.ref p) (.ow d) := by
  have no : ∀ (i : Nat) (e : D), ρ[i]? = some (.ow e) → σ[i]? ≠ some (some (.ref p)) := fun i e hi q => by
    obtain ⟨a, h1, h2⟩ := R.ow i e hi
    rw [q] at h1; cases h1
    exact h2.at_.some hp
  exact ⟨R.own (R.fh.free hp) (R.h0_none hp) no (.none hp), p, rfl, ⟨R.fh.free hp, .inl (R.h0_none hp), h⟩, no⟩
def owL (a : M (List D)) : M Sl := bnd a fun ds => if ds.length ≤ sz then ret (.ow (.lst ds)) else fun _ => .bad
theorem ev_lst {es : List Expr} {f : M (List D)} {pos} (ha : EA c es f) : EV c (.List es pos) (owL f) := fun G X W z => by
  refine pe_imp (pe_lst (ha G X W z)) fun σ H Q ⟨F, ρ, R, q⟩ => ?_
  refine tG_bindV R q fun F1 H1 ρ1 vs ds s1 R1 rx q1 => ?_
  split at q1
  · rename_i hl
    refine ⟨by rw [sz_eq, rx.length]; exact hl, fun p hp => ?_⟩
    obtain ⟨R2, s2⟩ := fresh_own (d := .lst ds) (o := .lst vs) R1 hp ⟨vs, upd_same, rx⟩
    exact q1 _ F1 _ (Same.refl _) R2 s2
  · exact q1.elim
theorem ev_dict0 {pos} : EV c (.Dict [] [] pos) (ret (.ow (.dct []))) := fun G X W z => by
  refine pe_imp pe_dnewK fun σ H Q ⟨F, ρ, R, q⟩ => fun p hp => ?_
  obtain ⟨R2, s2⟩ := fresh_own (d := .dct []) (o := .dK []) R hp ⟨[], upd_same, .nil⟩
  exact q _ F _ (Same.refl _) R2 s2
/-- list(x) -/
def owSeq (a : M D) : M Sl := bnd a fun d => match dSeq d with
  | some ds => ret (.ow (.lst ds))
  | none => fun _ => .bad
/-! ### stores of such -/
def putS (np i : Nat) (s : Sl) : En → Option En := fun ρ => match ρ[i]? with
  | none => none
  | some (.ow _) => if np ≤ i then some (ρ.set i s) else none
  | some _ => some (ρ.set i s)
theorem putS_eq {np i : Nat} {s : Sl} {ρ ρ' : En} (h : DL.putS np i s ρ = some ρ') : ρ' = ρ.set i s ∧ i < ρ.length := by
  unfold DL.putS at h
  cases e : ρ[i]? with
  | none => rw [e] at h; cases h
  | some t =>
    have hl : i < ρ.length := (List.getElem?_eq_some_iff.mp e).1
    rw [e] at h
    cases t with
    | ow d =>
      dsimp only at h
      split at h <;> cases h
      exact ⟨rfl, hl⟩
    | un => cases h; exact ⟨rfl, hl⟩
    | xc d => cases h; exact ⟨rfl, hl⟩
    | fz d => cases h; exact ⟨rfl, hl⟩
theorem Rel.putS {G : Ent} {F H : Hp} {σ : L2.St} {ρ ρ' : En} {i : Nat} {v : V} {s : Sl} (R : Rel c.K c.mg c.xt G F H σ ρ) (hp : PaOk c G) (r : SlAt c G F H σ ρ v s) (h : DL.putS c.np i s ρ = some ρ') : Rel c.K c.mg c.xt G F H (σ.set i (some v)) ρ' := by
  unfold DL.putS at h
  have key : (∀ p ∈ G.pa, p.1 ≠ i) ∧ i < ρ.length ∧ ρ' = ρ.set i s := by
    cases e : ρ[i]? with
    | none => rw [e] at h; cases h
    | some t =>
      have hl : i < ρ.length := (List.getElem?_eq_some_iff.mp e).1
      cases t with
      | ow d =>
        rw [e] at h
        dsimp only at h
        split at h
        · rename_i hn
          cases h
          exact ⟨fun p pm z => by have := hp p pm; omega, hl, rfl⟩
        · cases h
      | un =>
        rw [e] at h; cases h
        exact ⟨(fun p pm z => by obtain ⟨d, q⟩ := R.pw p pm; rw [z, e] at q; cases q), hl, rfl⟩
      | xc _ =>
        rw [e] at h; cases h
        exact ⟨(fun p pm z => by obtain ⟨d, q⟩ := R.pw p pm; rw [z, e] at q; cases q), hl, rfl⟩
      | fz d =>
        rw [e] at h; cases h
        exact ⟨(fun p pm z => by obtain ⟨d, q⟩ := R.pw p pm; rw [z, e] at q; cases q), hl, rfl⟩
  obtain ⟨npa, hl, rfl⟩ := key
  have hσ : i < σ.length := by rw [R.len]; exact hl
  refine ⟨R.f0, R.fh, R.kept, fun p pm => ?_, fun j e q => ?_, fun j e q => ?_, fun j k a e f hjk q1 q2 q3 => ?_, ?_, fun p pm => ?_, R.fn, R.tbs, R.tb, R.xcSet (fun x q => by subst q; exact r) fun j hj => List.getElem?_set_ne (Ne.symm hj)⟩
  · rw [List.getElem?_set_ne (Ne.symm (npa p pm))]
    exact R.par p pm
  · by_cases hj : j = i
    · subst hj
      rw [List.getElem?_set_self hl] at q
      cases q
      exact ⟨v, List.getElem?_set_self hσ, r⟩
    · rw [List.getElem?_set_ne (Ne.symm hj)] at q ⊢
      exact R.fz j e q
  · by_cases hj : j = i
    · subst hj
      rw [List.getElem?_set_self hl] at q
      cases q
      obtain ⟨a, rfl, h1, _⟩ := r
      exact ⟨a, List.getElem?_set_self hσ, h1⟩
    · rw [List.getElem?_set_ne (Ne.symm hj)] at q ⊢
      exact R.ow j e q
  · by_cases hj : j = i
    · subst hj
      rw [List.getElem?_set_self hl] at q1
      cases q1
      obtain ⟨a', rfl, _, h2⟩ := r
      rw [List.getElem?_set_self hσ] at q3
      cases q3
      have hk : k ≠ j := Ne.symm hjk
      rw [List.getElem?_set_ne (Ne.symm hk)] at q2 ⊢
      exact h2 k f q2
    · rw [List.getElem?_set_ne (Ne.symm hj)] at q1 q3
      by_cases hk : k = i
      · subst hk
        rw [List.getElem?_set_self hl] at q2
        cases q2
        obtain ⟨a', rfl, _, h2⟩ := r
        rw [List.getElem?_set_self hσ]
        intro z
        cases z
        exact h2 j e q1 q3
      · rw [List.getElem?_set_ne (Ne.symm hk)] at q2 ⊢
        exact R.ne j k a e f hjk q1 q2 q3
  · rw [List.length_set, List.length_set]; exact R.len
  · obtain ⟨e, q⟩ := R.pw p pm
    exact ⟨e, by rw [List.getElem?_set_ne (Ne.symm (npa p pm))]; exact q⟩
def asgV (np i : Nat) (e : M Sl) : M Fl := bnd e fun s ρ => match putS np i s ρ with
  | some ρ' => .ok .nx ρ'
  | none => .bad
theorem tV_bindS {G : Ent} {W : WX} {σ : L2.St} {H : Hp} {m : M Sl} {f : Sl → M Fl} {k : V → Hp → Prop} {Z : Ends} {F : Hp} {ρ : En} (r : Rel c.K c.mg c.xt G F H σ ρ) (h : PostS c G W F (bnd m f ρ) Z)
    (hk : ∀ F' H1 ρ' v s, Same F F' → Rel c.K c.mg c.xt G F' H1 σ ρ' → SlAt c G F' H1 σ ρ' v s → PostS c G W F' (f s ρ') Z → k v H1) : tV c G W m σ H k := by
  refine ⟨F, ρ, r, ?_⟩
  unfold bnd at h
  cases e : m ρ with
  | bad => rw [e] at h; exact h
  | err x ρ' => rw [e] at h; exact fun F2 H2 cls d s2 r2 x2 => h σ F2 H2 cls d s2 r2 x2
  | ok a ρ' =>
    rw [e] at h
    exact fun b F' H' s r' rb => hk F' H' ρ' b a s r' rb (PostS.mono s h)
/-- x = e, the value perhaps the frame's own -/
theorem es_asgV {i : Nat} {x : Str} {e : Expr} {f : M Sl} {px pos : Pos} (h : Lc c i x) (he : EV c e f) (h1 : ∀ X W, Cz c X W → swapsWith e (some (.Name x px)) pos.line X.env = pure false := by intro _ _ _; rfl) : ES c (.Assign [.Name x px] e pos) (asgV c.np i f) := fun G X W p z => by
  refine ps_imp (ps_set (i := i) (by rw [z.N]; exact z.nd) (by rw [z.N]; exact h.1) (by rw [z.sc]; exact h.2.imp (fun k => k) (fun k => k.1)) (he G X W z) (h1 X W z) (h.2.elim (fun k => .inr (by rw [z.sc]; exact k)) fun k => .inl (z.fnc x k.2))) fun Z σ H ⟨F, ρ, R, q⟩ => ?_
  refine tV_bindS R q fun F1 H1 ρ1 v s s1 R1 rv q1 => ?_
  cases e1 : putS c.np i s ρ1 with
  | none => simp only [e1] at q1; exact q1.elim
  | some ρ' => simp only [e1] at q1; exact q1 _ F1 H1 (Same.refl _) (R1.putS p rv e1)
/-- return e, the value the frame's own -/
def retV (e : M Sl) : M Fl := bnd e fun s => match s with
  | .ow d => ret (.ro d)
  | .fz d => ret (.rt d)
  | _ => fun _ => .bad
theorem es_retV {e : Expr} {f : M Sl} {pos : Pos} (h : EV c e f) : ES c (.Return (some e) pos) (retV f) := fun G X W _ z => by
  refine ps_imp (ps_ret (h G X W z)) fun Z σ H ⟨F, ρ, R, q⟩ => ?_
  refine tV_bindS R q fun F1 H1 ρ1 v s s1 R1 rv q1 => ?_
  cases s with
  | un => exact rv.elim
  | xc _ => exact rv.elim
  | fz d => exact q1 v σ F1 H1 (Same.refl _) R1 rv
  | ow d =>
    obtain ⟨a, rfl, ow, no⟩ := rv
    exact q1 a σ F1 H1 (Same.refl _) R1 ow no
/-- two names at once -/
def parV (np i j : Nat) (a b : M Sl) : M Fl := bnd a fun s => bnd b fun t ρ => match putS np i s ρ with
  | some ρ1 => (match putS np j t ρ1 with
    | some ρ2 => .ok .nx ρ2
    | none => .bad)
  | none => .bad
theorem es_parV {i j : Nat} {x y : Str} {a b : Expr} {f g : M Sl} {px py pt pt2 pos : Pos} {kt k2 : Nat} (hi : c.N[i]? = some x) (hj : c.N[j]? = some y) (hij : i ≠ j) (hx : c.sc.names.lookup x = some .local) (hy : c.sc.names.lookup y = some .local) (ha : EV c a f) (hb : EV c b g)
    (hw : ∀ X W, Cz c X W → swappedStores [.Tuple [.Name x px, .Name y py] kt pt] (.Tuple [a, b] k2 pt2) X.env = pure (some [x, y])) (h1 : ∀ env, swapsWithSole [.Tuple [.Name x px, .Name y py] kt pt] (.Tuple [a, b] k2 pt2) pos.line env = pure false := by intro _; rfl)
    (hs : ∀ env, starEach [a, b] env = [(false, eval a env), (false, eval b env)] := by intro _; rfl) (hs2 : ∀ env, starEach [b] env = [(false, eval b env)] := by intro _; rfl) (hc : c.hot = false := by first | rfl | assumption) : ES c (.Assign [.Tuple [.Name x px, .Name y py] kt pt] (.Tuple [a, b] k2 pt2) pos) (parV c.np i j f g) := fun G X W p z => by
  have pb : PE X b (fun σ H Q => ∃ G', tV c G' W g σ H Q) := ⟨fun pins s σ H Q I ⟨G', q⟩ => (hb G' X W z).run pins s σ H Q I q⟩
  refine ps_imp (ps_par (z.calm hc) (by rw [z.N]; exact z.nd) (by rw [z.N]; exact hi) (by rw [z.N]; exact hj) hij (by rw [z.sc]; exact hx) (by rw [z.sc]; exact hy) (pa_cons (ha G X W z) (pa_cons pb pa_nil (by rw [hs2]; rfl)) (by rw [hs, hs2])) (hw X W z) (h1 _)) fun Z σ H ⟨F, ρ, R, q⟩ => ?_
  refine tV_bindS R q fun F1 H1 ρ1 v s s1 R1 rv q1 => ?_
  refine ⟨_, F1, ρ1, R1.nest, ?_⟩
  unfold bnd at q1
  cases e : g ρ1 with
  | bad => rw [e] at q1; exact q1
  | err x ρ' => rw [e] at q1; exact fun F2 H2 cls d s2 r2 x2 => q1 σ F2 H2 cls d s2 (R1.unnest r2 fun _ _ => rfl) x2
  | ok t ρ' =>
  rw [e] at q1
  intro w F2 H2 s2 R2 rw2
  refine ⟨v, w, rfl, ?_⟩
  have R3 := R1.unnest R2 fun _ _ => rfl
  -- the first value behind the second
  have rv3 : SlAt c G F2 H2 σ ρ' v s := by
    cases s with
    | un => exact rv.elim
    | xc _ => exact rv.elim
    | fz d => exact rv.mono s2
    | ow d =>
      obtain ⟨a', rfl, ow, no⟩ := rv
      have hne := ow.at_.some
      have nOwn : ∀ q ∈ owns σ ρ1, q.2 ≠ a' := fun ⟨k, b'⟩ hm zz => by
        obtain ⟨d', q1', q2'⟩ := mem_owns.mp hm
        have zz : b' = a' := zz
        subst zz
        exact no k d' q1' q2'
      refine ⟨a', rfl, ⟨?_, ow.nh, ow.at_.mono' s2 fun o ht ho => R2.kept a' o ho ht nOwn⟩, fun k e' hk hq => ?_⟩
      · rw [R2.fn a' hne]; exact ow.nf
      · obtain ⟨b', h1', h2'⟩ := R2.ow k e' hk
        rw [hq] at h1'; cases h1'
        rcases h2'.nh with zz | ⟨q', qm, zz⟩
        · exact hne zz
        · exact nOwn q' qm zz
  have rw3 : SlAt c G F2 H2 σ ρ' w t := by
    cases t with
    | un => exact rw2.elim
    | xc _ => exact rw2.elim
    | fz d => exact rw2
    | ow d =>
      obtain ⟨b', rfl, ow, no⟩ := rw2
      refine ⟨b', rfl, ⟨ow.nf, ?_, ow.at_⟩, no⟩
      rcases ow.nh with zz | ⟨⟨k, y'⟩, qm, zz⟩
      · exact .inl (R1.h0_none zz)
      · have zz : y' = b' := zz
        subst zz
        obtain ⟨d', q1', q2'⟩ := mem_owns.mp qm
        obtain ⟨y2, q3', q4'⟩ := R1.ow k d' q1'
        rw [q2'] at q3'; cases q3'
        exact q4'.nh
  dsimp only at q1
  cases e1 : putS c.np i s ρ' with
  | none => simp only [e1] at q1; exact q1.elim
  | some ρ2 =>
  simp only [e1] at q1
  cases e2 : putS c.np j t ρ2 with
  | none => simp only [e2] at q1; exact q1.elim
  | some ρ3 =>
  simp only [e2] at q1
  have R4 := R3.putS p rv3 e1
  refine q1 _ F2 H2 s2 (R4.putS p ?_ e2)
  obtain ⟨rfl, hl⟩ := putS_eq e1
  cases t with
  | un => exact rw3.elim
  | xc _ => exact rw3.elim
  | fz d => exact rw3
  | ow d =>
    obtain ⟨b', rfl, ow, no⟩ := rw3
    refine ⟨b', rfl, ow, fun k e' hk hq => ?_⟩
    by_cases hki : k = i
    · subst hki
      rw [List.getElem?_set_self hl] at hk
      cases hk
      have hσl : k < σ.length := by rw [R3.len]; exact hl
      rw [List.getElem?_set_self hσl] at hq
      obtain ⟨a', rfl, owa, noa⟩ := rv
      cases hq
      have hne := owa.at_.some
      have ⟨b2, hb2, owb, nob⟩ := rw2
      cases hb2
      rcases owb.nh with zz | ⟨⟨l, y'⟩, qm, zz⟩
      · exact hne zz
      · obtain ⟨d', q1', q2'⟩ := mem_owns.mp qm
        refine noa l d' q1' ?_
        rw [q2']
        exact congrArg (fun t => some (some (V.ref t))) zz
    · rw [List.getElem?_set_ne (Ne.symm hki)] at hk hq
      exact no k e' hk hq
/-! ### a thing of the frame's own is given up: from now on it stays as it is -/
def frzM {α : Type} (i : Nat) (m : M α) : M α := fun ρ => match ρ[i]? with
  | some (.ow (.lst ds)) => if ds.length ≤ sz then m (ρ.set i (.fz (.lst ds))) else .bad
  | some (.ow (.dct ds)) => if ds.length ≤ sz then m (ρ.set i (.fz (.dct ds))) else .bad
  | some (.ow (.ins cl fs)) => m (ρ.set i (.fz (.ins cl fs)))
  | _ => .bad
theorem Rel.frz {G : Ent} {F H : Hp} {σ : L2.St} {ρ : En} {i : Nat} {a : Addr} {d e : D} {o : HO} (R : Rel c.K c.mg c.xt G F H σ ρ) (hp : PaOk c G) (hi : c.np ≤ i) (hρ : ρ[i]? = some (.ow d)) (hσ : σ[i]? = some (some (.ref a))) (r : Dn c.K c.mg (upd F a o) (.ref a) e) :
    Rel c.K c.mg c.xt G (upd F a o) (upd H a o) σ (ρ.set i (.fz e)) := by
  have hl : i < ρ.length := (List.getElem?_eq_some_iff.mp hρ).1
  obtain ⟨a', e1, ow⟩ := R.ow i d hρ
  rw [hσ] at e1; cases e1
  have npa : ∀ p ∈ G.pa, p.1 ≠ i := fun p pm z => by have := hp p pm; omega
  have h0 : G.H0 a = none := by
    rcases ow.nh with z | ⟨p, pm, z⟩
    · exact z
    · exfalso
      obtain ⟨d', q⟩ := R.pw p pm
      refine R.ne p.1 i p.2 d' d (npa p pm) q hρ (R.par p pm) ?_
      rw [z]; exact hσ
  have sF : Same F (upd F a o) := fun x u q => by rw [upd_ne (ne_of_none q ow.nf)]; exact q
  refine ⟨R.f0.trans sF, fun x u q => ?_, fun b u h1 ht h2 => ?_, R.par, fun j f q => ?_, fun j f q => ?_, fun j k x f g hjk q1 q2 q3 => ?_, (by rw [List.length_set]; exact R.len), fun p pm => ?_, fun b hb => ?_, fun b ps h => ?_, (R.tb.updF ow.at_.plain).upd ow.at_.plain, xcMono' sF (R.xcSet (i := i) (s := .fz e) (fun x q => by cases q) fun _ _ => rfl)⟩
  · by_cases hx : x = a
    · subst hx; rw [upd_same] at q ⊢; exact q
    · rw [upd_ne hx] at q ⊢; exact R.fh x u q
  · rw [upd_ne (ne_of_none h1 h0)]; exact R.kept b u h1 ht h2
  · by_cases hj : j = i
    · subst hj
      rw [List.getElem?_set_self hl] at q
      cases q
      exact ⟨_, hσ, r⟩
    · rw [List.getElem?_set_ne (Ne.symm hj)] at q
      obtain ⟨v, h1, h2⟩ := R.fz j f q
      exact ⟨v, h1, h2.mono sF⟩
  · have hj : j ≠ i := fun z => by subst z; rw [List.getElem?_set_self hl] at q; cases q
    rw [List.getElem?_set_ne (Ne.symm hj)] at q
    obtain ⟨x, h1, h2⟩ := R.ow j f q
    have hx : x ≠ a := fun z => R.ne i j a d f (Ne.symm hj) hρ q hσ (by rw [← z]; exact h1)
    exact ⟨x, h1, ⟨by rw [upd_ne hx]; exact h2.nf, h2.nh, h2.at_.mono sF fun u z => by rw [upd_ne hx]; exact z⟩⟩
  · have hj : j ≠ i := fun z => by subst z; rw [List.getElem?_set_self hl] at q1; cases q1
    have hk : k ≠ i := fun z => by subst z; rw [List.getElem?_set_self hl] at q2; cases q2
    rw [List.getElem?_set_ne (Ne.symm hj)] at q1
    rw [List.getElem?_set_ne (Ne.symm hk)] at q2
    exact R.ne j k x f g hjk q1 q2 q3
  · obtain ⟨f, q⟩ := R.pw p pm
    exact ⟨f, by rw [List.getElem?_set_ne (Ne.symm (npa p pm))]; exact q⟩
  · have : b ≠ a := fun z => by subst z; exact hb h0
    rw [upd_ne this]; exact R.fn b hb
  · obtain ⟨qs, q⟩ := R.tbs b ps h
    exact ⟨qs, by rw [upd_ne (ne_of_none h h0)]; exact q⟩
theorem upd_self {H : Hp} {a : Addr} {o : HO} (h : H a = some o) : upd H a o = H := by
  funext x
  unfold upd
  split
  · rename_i e; subst e; exact h.symm
  · rfl
theorem ess_frz {i : Nat} {ss : List Stmt} {m : M Fl} (hi : c.np ≤ i) (h : ESs c ss m) : ESs c ss (frzM i m) := fun G X W p z => by
  refine ⟨fun pins s σ H Z I ⟨F, ρ, R, q⟩ => ?_⟩
  unfold frzM at q
  cases e : ρ[i]? with
  | none => rw [e] at q; exact q.elim
  | some t =>
  rw [e] at q
  cases t with
  | un => exact q.elim
  | xc d => exact q.elim
  | fz d => exact q.elim
  | ow d =>
  obtain ⟨a, hσ, ow⟩ := R.ow i d e
  have sF : ∀ o, Same F (upd F a o) := fun o x u q => by rw [upd_ne (ne_of_none q ow.nf)]; exact q
  cases d with
  | lst ds =>
    dsimp only at q
    split at q
    case isFalse => exact q.elim
    rename_i hl
    obtain ⟨vs, h1, h2⟩ := ow.at_
    have R2 := R.frz (o := .lst vs) p hi e hσ (dn_lst ow.nf h2 hl)
    rw [upd_self h1] at R2
    exact (h G X W p z).run pins s σ H Z I ⟨_, _, R2, PostS.mono (sF _) q⟩
  | dct ds =>
    dsimp only at q
    split at q
    case isFalse => exact q.elim
    rename_i hl
    obtain ⟨kvs, h1, h2⟩ := ow.at_
    obtain ⟨od, I1⟩ := I.lock h1 trivial
    have R2 := R.frz (o := .frz od (.dK kvs)) (e := .dct ds) p hi e hσ (.dct upd_same (h2.mono (sF _)) hl)
    exact (h G X W p z).run pins s σ _ Z I1 ⟨_, _, R2, PostS.mono (sF _) q⟩
  | ins cl fs =>
    obtain ⟨C, dx, vs, g, h1, h2⟩ := ow.at_
    have R2 := R.frz (o := .ins C dx vs) (e := .ins cl fs) p hi e hσ (.ins g upd_same (h2.mono (sF _)))
    rw [upd_self h1] at R2
    exact (h G X W p z).run pins s σ H Z I ⟨_, _, R2, PostS.mono (sF _) q⟩
  | non => exact q.elim
  | bl _ => exact q.elim
  | int _ => exact q.elim
  | str _ => exact q.elim
  | tup _ => exact q.elim
  | gl _ => exact q.elim
  | ty _ => exact q.elim
/-- never reached -/
theorem es_never {s : Stmt} : ES c s (fun _ => .bad) := fun G X W _ z => ⟨fun pins st σ H Z I ⟨F, ρ, R, q⟩ => q.elim⟩
theorem ed_never {e : Expr} : ED c e (fun _ => .bad) := fun G X W z => ⟨fun pins st σ H Z I ⟨F, ρ, R, q⟩ => q.elim⟩
end
end DL

namespace DL
open PySem L2
theorem char_inj {a b : Char} (h : a.toNat = b.toNat) : a = b := Char.ext (UInt32.toNat_inj.mp h)
theorem map_char_inj : ∀ {a b : List Char}, a.map Char.toNat = b.map Char.toNat → a = b
  | [], [], _ => rfl
  | [], _ :: _, h => by cases h
  | _ :: _, [], h => by cases h
  | x :: a, y :: b, h => by
    simp only [List.map_cons, List.cons.injEq] at h
    rw [char_inj h.1, map_char_inj h.2]
theorem ofString_inj {a b : String} (h : Str.ofString a = Str.ofString b) : a = b := by
  rw [Str.ofString_eq_toList, Str.ofString_eq_toList] at h
  have h2 : (a.toList.map Char.toNat).toArray = (b.toList.map Char.toNat).toArray := congrArg Str.cps h
  have h3 := congrArg Array.toList h2
  simp only [List.toList_toArray] at h3
  exact String.toList_inj.mp (map_char_inj h3)
section
variable {c : Stat}
def lookF (f : String) : List (String × D) → Option D
  | [] => none
  | (g, d) :: r => if g = f then some d else lookF f r
def putF' (f : String) (d : D) : List (String × D) → List (String × D)
  | [] => [(f, d)]
  | (g, e) :: r => if g = f then (g, d) :: r else (g, e) :: putF' f d r
theorem dfs_look {K : PySem.W.Frag} {mg : Str → Option Value} {F : Hp} {f : String} {d : D} : ∀ {vs : List (Str × V)} {fs : List (String × D)}, Dfs K mg F vs fs → lookF f fs = some d → ∃ v, vs.lookup (Str.ofString f) = some v ∧ Dn K mg F v d
  | _, _, .nil, h => by cases h
  | _, _, @Dfs.cons _ _ _ g v e vs fs h r, q => by
    unfold lookF at q
    by_cases hg : g = f
    · subst hg
      rw [if_pos rfl] at q
      cases q
      exact ⟨v, by simp [List.lookup], h⟩
    · rw [if_neg hg] at q
      obtain ⟨w, h1, h2⟩ := dfs_look r q
      have hn : (Str.ofString f == Str.ofString g) = false := by
        rw [beq_eq_false_iff_ne]
        exact fun z => hg (ofString_inj z).symm
      exact ⟨w, by simp [List.lookup, hn, h1], h2⟩
theorem dfs_none {K : PySem.W.Frag} {mg : Str → Option Value} {F : Hp} {f : String} : ∀ {vs : List (Str × V)} {fs : List (String × D)}, Dfs K mg F vs fs → lookF f fs = none → vs.lookup (Str.ofString f) = none
  | _, _, .nil, h => rfl
  | _, _, @Dfs.cons _ _ _ g v e vs fs h r, q => by
    unfold lookF at q
    by_cases hg : g = f
    · subst hg
      rw [if_pos rfl] at q
      cases q
    · rw [if_neg hg] at q
      have hn : (Str.ofString f == Str.ofString g) = false := by
        rw [beq_eq_false_iff_ne]
        exact fun z => hg (ofString_inj z).symm
      simp [List.lookup, hn, dfs_none r q]
theorem dfs_put {K : PySem.W.Frag} {mg : Str → Option Value} {F : Hp} {f : String} {v : V} {d : D} (h : Dn K mg F v d) : ∀ {vs : List (Str × V)} {fs : List (String × D)}, Dfs K mg F vs fs → Dfs K mg F (putF (Str.ofString f) v vs) (putF' f d fs)
  | _, _, .nil => .cons h .nil
  | _, _, @Dfs.cons _ _ _ g w e vs fs q r => by
    unfold putF putF'
    by_cases hg : g = f
    · subst hg
      rw [if_pos rfl, if_pos rfl]
      exact .cons h r
    · rw [if_neg hg, if_neg fun z => hg (ofString_inj z)]
      exact .cons q (dfs_put h r)
theorem Dfs.length {K : PySem.W.Frag} {mg : Str → Option Value} {F : Hp} : ∀ {vs : List (Str × V)} {fs : List (String × D)}, Dfs K mg F vs fs → vs.length = fs.length
  | _, _, .nil => rfl
  | _, _, .cons _ r => by simp [r.length]
/-! ### own classes -/
structure ClD (b : Base) (cl : String) (C : Addr) : Prop where
  g : b.mg (Str.ofString cl) = some (.ref C)
  c : Cls b.K C
theorem ClD.same {b : Base} {cl : String} {C C' : Addr} (k : ClD b cl C) (h : b.mg (Str.ofString cl) = some (.ref C')) : C' = C := by
  rw [k.g] at h; cases h; rfl
def dAttr (cl f : String) : D → Option D
  | .ins c fs => if c = cl then lookF f fs else none
  | _ => none
theorem ed_attr {cl f : String} {C : Addr} {e : Expr} {g : M D} {pos : Pos} (k : ClD c.toBase cl C) (n : NoAttr c.K C (Str.ofString f)) (he : ED c e g) (hb : ∀ env x, attributeBase e (Str.ofString f) env x = x := by intro _ _; rfl) : ED c (.Attribute e (Str.ofString f) pos) (op1 (dAttr cl f) g) :=
  ed_op1 he fun X W z => by
    refine ⟨fun x H Q => ∃ a C dx fs v, x = .ref a ∧ H a = some (.ins C dx fs) ∧ Cls X.K C ∧ NoAttr X.K C (Str.ofString f) ∧ fs.lookup (Str.ofString f) = some v ∧ Q v H, ?_, fun ta pa => pe_fld pa (hb _ _)⟩
    intro F H x dx d Q s rx e a
    cases rx <;> simp only [dAttr] at e <;> try cases e
    rename_i g1 h1 r1
    split at e
    case isFalse => cases e
    rename_i hc
    subst hc
    have := k.same g1
    subst this
    obtain ⟨v, p1, p2⟩ := dfs_look r1 e
    exact ⟨_, _, _, _, v, rfl, s _ _ h1, by rw [z.K]; exact k.c, by rw [z.K]; exact n, p1, a.here s p2⟩
/-- self.f, self the frame's own -/
def attrO (i : Nat) (cl f : String) : M D := fun ρ => match ρ[i]? with
  | some (.ow (.ins c fs)) => if c = cl then (match lookF f fs with
    | some d => .ok d ρ
    | none => .bad) else .bad
  | _ => .bad
theorem ed_attrO {i : Nat} {y : Str} {cl f : String} {C : Addr} {p2 pos : Pos} (k : ClD c.toBase cl C) (n : NoAttr c.K C (Str.ofString f)) (hN : c.N[i]? = some y) (hv : Vis c.sc y) (hd : (y == ("__debug__" : Str)) = false := by decide) (hcd : (y == ("__classdict__" : Str)) = false := by decide) :
    ED c (.Attribute (.Name y p2) (Str.ofString f) pos) (attrO i cl f) := fun G X W z => by
  have pv : PE X (.Name y p2) (tVar i) := pe_var (i := i) (by rw [z.N]; exact hN) (by rw [z.sc]; exact hv) hd hcd
  refine pe_imp (pe_fld pv rfl) fun σ H Q ⟨F, ρ, R, q⟩ => ?_
  unfold attrO at q
  split at q
  · rename_i cc fs e
    split at q
    case isFalse => exact q.elim
    rename_i hc
    subst hc
    obtain ⟨a, h0, ow⟩ := R.ow i _ e
    obtain ⟨C', dx, vs, g1, h1, h2⟩ := ow.at_
    have := k.same g1
    subst this
    cases e2 : lookF f fs with
    | none => simp only [e2] at q; exact q.elim
    | some d =>
      simp only [e2] at q
      obtain ⟨v, p1, p2⟩ := dfs_look h2 e2
      exact ⟨_, h0, a, C', dx, vs, v, rfl, h1, by rw [z.K]; exact k.c, by rw [z.K]; exact n, p1, q v F H (Same.refl _) R p2⟩
  · exact q.elim
/-- self.f = e -/
def staO (i : Nat) (cl f : String) (a : M D) : M Fl := bnd a fun d ρ => match ρ[i]? with
  | some (.ow (.ins c fs)) => if c = cl ∧ fs.length < 1000 then .ok .nx (ρ.set i (.ow (.ins c (putF' f d fs)))) else .bad
  | _ => .bad
theorem es_staO {i : Nat} {y : Str} {cl f : String} {C : Addr} {e : Expr} {g : M D} {p2 pos' pos : Pos} (k : ClD c.toBase cl C) (n : NoAttr c.K C (Str.ofString f)) (hN : c.N[i]? = some y) (hv : Vis c.sc y) (he : ED c e g)
    (hs : ∀ env, swapsWith e (some (.Attribute (.Name y p2) (Str.ofString f) pos')) pos.line env = pure false := by intro _; rfl) (hd : (y == ("__debug__" : Str)) = false := by decide) (hcd : (y == ("__classdict__" : Str)) = false := by decide) :
    ES c (.Assign [.Attribute (.Name y p2) (Str.ofString f) pos'] e pos) (staO i cl f g) := fun G X W p z => by
  have pv : PE X (.Name y p2) (tVar i) := pe_var (i := i) (by rw [z.N]; exact hN) (by rw [z.sc]; exact hv) hd hcd
  refine ps_imp (ps_fld pv (he G X W z) (hs _)) fun Z σ H ⟨F, ρ, R, q⟩ => ?_
  refine tG_bindS R q fun F1 H1 ρ1 x dx s1 R1 rx q1 => ?_
  split at q1
  · rename_i cc fs e
    split at q1
    case isFalse => exact q1.elim
    rename_i hc
    obtain ⟨rfl, hl⟩ := hc
    obtain ⟨a, h0, ow⟩ := R1.ow i _ e
    obtain ⟨C', dx', vs, g1, h1, h2⟩ := ow.at_
    have := k.same g1
    subst this
    refine ⟨_, h0, a, C', dx', vs, rfl, h1, by rw [z.K]; exact k.c, by rw [z.K]; exact n, by rw [h2.length]; exact hl, ?_⟩
    refine q1 σ F1 _ (Same.refl _) (R1.chgU e h0 ow.nf ⟨C', dx', _, g1, upd_same, dfs_put rx h2⟩)
  · exact q1.elim
/-! ### methods -/
def tMethX (C : Addr) (m : Str) (sp : Sp) (E : L2.St → XK) (ta : TE) (t : TA) : TE := fun σ H Q => ta σ H fun x H1 => ∃ a dx fs, x = .ref a ∧ H1 a = some (.ins C dx fs) ∧ fs.lookup m = none ∧ t σ H1 fun vs H2 => sp (x :: vs) H2 Q (E σ)
theorem pe_methX {X : Cx} {k : Nat} {C f : Addr} {fd : FuncData} {ps : List Str} {sp : Sp} {E : L2.St → XK} {m : Str} {pos apos : Pos} {e o : Expr} {es : List Expr} {ta : TE} {t : TA} {pl : Sem Bool} (he : PE X o ta) (c : Cls X.K C) (hm : Meth X.K C m f) (F : FnG X.prog X.w X.K X.mg X.base k f fd ps sp) (hr : Room k X.A) (hgd : X.A.guards = some []) (hb : Binds X.K fd ps []) (hx : ∀ σ, PassesAt (L2.CX X.prog X.w) X σ (E σ)) (ha : PA X (e :: es) t)
    (hst : starEach (e :: es) X.env = (false, eval e X.env) :: starEach es X.env := by rfl) (hpl : (backTo pos (starEach es X.env)).any (·.1) = false := by rfl)
    (ht : eval (.Call (.Attribute o m apos) (e :: es) [] pos) X.env = (do
      let ov ← eval o X.env
      standAt apos.atName
      let (f, first) ← holding [ov] (getMethod ov m pl)
      callWith pos f first (backTo pos (starEach (e :: es) X.env)) (backToKw pos (keywordEach [] X.env))) := by rfl) :
    PE X (.Call (.Attribute o m apos) (e :: es) [] pos) (tMethX C m sp E ta t) := by
  refine ⟨fun pins s σ H Q I h => ?_⟩
  refine PySem.W.methodCall_KW (pl := pl) (thn (he.run pins s σ H _ I h) fun u s1 ⟨x, H1, I1, rx, a, dx, fs, ex, ea, l, q⟩ => ?_) ht
  subst ex
  obtain rfl : u = Value.ref a := rx
  refine getmeth_ok I1 ea c hm l ?_
  refine PySem.W.callWith_K (first := [.ref a]) (h₀ := X.base) I.ok.mod.kin hm.kp (thn (ha.run pos pins s1 σ H1 _ I1 q) fun us s2 ⟨vs, H2, I2, r, q2⟩ => ⟨I2.kIn, ?_⟩) hst hpl
  exact run_fnG (us := .ref a :: us) (vs := .ref a :: vs) F hr hgd hb (hx σ) I2 (.cons rfl r) q2
/-- a method of the class cl, by its name -/
structure MetD (b : Base) (k : Nat) (cl m : String) (io : List Nat) (g : List D → OutF) : Prop where
  ex : ∃ C f fd ps, ClD b cl C ∧ Meth b.K C (Str.ofString m) f ∧ FnG b.P b.w b.K b.mg b.base k f fd ps (spF b io g) ∧ Binds b.K fd ps []
/-- an instance of cl without a field m -/
def okIns (cl m : String) : D → Bool
  | .ins c fs => decide (c = cl) && (lookF m fs).isNone
  | _ => false
def metM (cl m : String) (g : List D → OutF) (o : M D) (a : M (List D)) : M D := bnd o fun x => if okIns cl m x then bnd a (fun ds ρ => match g (x :: ds) with
  | .ok d _ => .ok d ρ
  | .err x _ => .err x ρ
  | _ => .bad) else fun _ => .bad
theorem okIns_of {K : PySem.W.Frag} {mg : Str → Option Value} {F : Hp} {cl m : String} {x : V} {d : D} (h : okIns cl m d = true) (r : Dn K mg F x d) : ∃ a C dx vs fs, x = .ref a ∧ d = .ins cl fs ∧ mg (Str.ofString cl) = some (.ref C) ∧ F a = some (.ins C dx vs) ∧ Dfs K mg F vs fs ∧ vs.lookup (Str.ofString m) = none := by
  cases r <;> try cases h
  rename_i g1 h1 r1
  simp only [okIns, Bool.and_eq_true, decide_eq_true_eq] at h
  obtain ⟨rfl, hn⟩ := h
  exact ⟨_, _, _, _, _, rfl, rfl, g1, h1, r1, dfs_none r1 (by simpa using hn)⟩
theorem ed_met {k : Nat} {cl m : String} {g : List D → OutF} {o e : Expr} {es : List Expr} {fo : M D} {f : M (List D)} {apos pos : Pos} {pl : Env → Sem Bool} (me : MetD c.toBase k cl m [] g) (hk : k ≤ c.k) (ho : ED c o fo) (ha : EA c (e :: es) f)
    (hst : ∀ env, starEach (e :: es) env = (false, eval e env) :: starEach es env := by intro _; rfl) (hpl : ∀ env, (backTo pos (starEach es env)).any (·.1) = false := by intro _; rfl)
    (ht : ∀ env, eval (.Call (.Attribute o (Str.ofString m) apos) (e :: es) [] pos) env = (do
      let ov ← eval o env
      standAt apos.atName
      let (f, first) ← holding [ov] (getMethod ov (Str.ofString m) (pl env))
      callWith pos f first (backTo pos (starEach (e :: es) env)) (backToKw pos (keywordEach [] env))) := by intro _; rfl) (hc : c.hot = false := by first | rfl | assumption) :
    ED c (.Call (.Attribute o (Str.ofString m) apos) (e :: es) [] pos) (metM cl m g fo f) := fun G X W z => by
  obtain ⟨C, fa, fd, ps, kc, mt, F, hb⟩ := me.ex
  have F' : FnG X.prog X.w X.K X.mg X.base k fa fd ps (spF c.toBase [] g) := by rw [z.P, z.w, z.K, z.mg, z.base]; exact F
  refine pe_imp (pe_methX (pl := pl X.env) (ho G X W z) (by rw [z.K]; exact kc.c) (by rw [z.K]; exact mt) F' ((z.cold hc).mono hk) z.gd (by rw [z.K]; exact hb) (fun σ => passAt z.tk σ) (ha G X W z) (hst _) (hpl _) (ht _)) fun σ H Q ⟨F0, ρ, R, q⟩ => ?_
  refine tG_bind R q fun F1 H1 ρ1 x dx s1 R1 rx q1 => ?_
  split at q1
  case isFalse => exact q1.elim
  rename_i hc
  obtain ⟨a, C', dx', vs', fs', rfl, rfl, g1, h1, r1, hn⟩ := okIns_of hc rx
  have := kc.same g1
  subst this
  refine ⟨_, _, _, rfl, R1.fh _ _ h1, hn, ?_⟩
  refine tG_bind R1 q1 fun F2 H2 ρ2 vs ds s2 R2 rvs q3 => ?_
  exact post_cal R2 (.cons (rx.mono s2) rvs) q3
/-! ### properties -/
structure PropD (b : Base) (k : Nat) (cl m : String) (g : List D → OutF) : Prop where
  ex : ∃ C p f fd ps, ClD b cl C ∧ PropOf b.K C (Str.ofString m) p f ∧ FnG b.P b.w b.K b.mg b.base k f fd ps (spF b [] g) ∧ Binds b.K fd ps []
def isIns (cl : String) : D → Bool
  | .ins c _ => decide (c = cl)
  | _ => false
def proM (cl : String) (g : List D → OutF) (o : M D) : M D := bnd o fun x ρ => if isIns cl x then (match g [x] with
  | .ok d _ => .ok d ρ
  | _ => .bad) else .bad
theorem isIns_of {K : PySem.W.Frag} {mg : Str → Option Value} {F : Hp} {cl : String} {x : V} {d : D} (h : isIns cl d = true) (r : Dn K mg F x d) : ∃ a C dx vs fs, x = .ref a ∧ d = .ins cl fs ∧ mg (Str.ofString cl) = some (.ref C) ∧ F a = some (.ins C dx vs) ∧ Dfs K mg F vs fs := by
  cases r <;> try cases h
  rename_i g1 h1 r1
  simp only [isIns, decide_eq_true_eq] at h
  subst h
  exact ⟨_, _, _, _, _, rfl, rfl, g1, h1, r1⟩
theorem pe_propG {X : Cx} {k : Nat} {C p g : Addr} {f : Str} {fd : FuncData} {ps : List Str} {sp : Sp} {e : Expr} {pos : Pos} {ta : TE} (he : PE X e ta) (c : Cls X.K C) (hp : PropOf X.K C f p g) (F : FnG X.prog X.w X.K X.mg X.base k g fd ps sp) (hr : Room (k + 1) X.A) (hgd : X.A.guards = some []) (hb : Binds X.K fd ps [])
    (hab : attributeBase e f X.env (eval e X.env) = eval e X.env) : PE X (.Attribute e f pos) (tProp C sp [] E0 ta) := by
  refine ⟨fun pins s σ H Q I h => ?_⟩
  refine attr_of hab (thn (he.run pins s σ H _ I h) fun u s1 ⟨x, H1, I1, rx, a, dx, fs, ex, ea, q⟩ => ?_)
  subst ex
  obtain rfl : u = Value.ref a := rx
  obtain ⟨mA, O, _, _, _, _⟩ := ins_get I1.hok ea
  obtain ⟨od, J, _⟩ := O.look
  obtain ⟨rest, hrec⟩ := hp.rec_
  have I2 := I1.tok (s1.toks + 1)
  obtain ⟨cd, hc, _⟩ := PySem.W.any_some c.hd
  have hl := F.len _ _ _ _ q
  refine PySem.W.get_bind I1.kIn J (PySem.W.plainGet_of (c.get f)).1 (PySem.W.findObj_data (by rw [hc]; rfl) hp.at_ hp.get hp.tak) (PySem.W.plainGet_of (c.get f)).2 (wpAny_call (PySem.W.prop_get (s := { s1 with toks := s1.toks + 1 }) I1.kIn hrec ?_))
  refine codeAny_mono (F.run X.A.in1 X.stack { s1 with toks := s1.toks + 1 } H1 ⟨[.ref a], []⟩ [.ref a] [.ref a] Q E0 hr.in1 hgd I2.env0.in1 (hb _ [.ref a] I2.kIn hl) (.cons rfl .nil) q) fun r s' hq => ?_
  have z := CR.end_ (X := X.nox) (I2.wish _) (fun pins H s e s' I c => (passL (X := X.nox) pins σ H s e s' I c)) hq
  cases r with
  | error er => exact z.elim
  | ok fl =>
    cases fl with
    | ret u =>
      obtain ⟨v, H', I3, rv, q3⟩ := I2.after hq
      show wpAny _ _ (handedOut u) _ _ _
      rw [PySem.W.handedOut_of (handed_of rv)]
      exact wpAny_pure ⟨v, H', I3, rv, q3⟩
    | next => exact False.elim hq
    | brk => exact False.elim hq
    | cont => exact False.elim hq
theorem ed_pro {k : Nat} {cl m : String} {g : List D → OutF} {o : Expr} {fo : M D} {pos : Pos} (me : PropD c.toBase k cl m g) (hk : k + 1 ≤ c.k) (ho : ED c o fo) (hb : ∀ env x, attributeBase o (Str.ofString m) env x = x := by intro _ _; rfl) (hc : c.hot = false := by first | rfl | assumption) : ED c (.Attribute o (Str.ofString m) pos) (proM cl g fo) := fun G X W z => by
  obtain ⟨C, p, fa, fd, ps, kc, mt, F, bi⟩ := me.ex
  have F' : FnG X.prog X.w X.K X.mg X.base k fa fd ps (spF c.toBase [] g) := by rw [z.P, z.w, z.K, z.mg, z.base]; exact F
  refine pe_imp (pe_propG (ho G X W z) (by rw [z.K]; exact kc.c) (by rw [z.K]; exact mt) F' ((z.cold hc).mono hk) z.gd (by rw [z.K]; exact bi) (hb _ _)) fun σ H Q ⟨F0, ρ, R, q⟩ => ?_
  refine tG_bind R q fun F1 H1 ρ1 x dx s1 R1 rx q1 => ?_
  split at q1
  case isFalse => exact q1.elim
  rename_i hc
  obtain ⟨a, C', dx', vs', fs', rfl, rfl, g1, h1, r1⟩ := isIns_of hc rx
  have := kc.same g1
  subst this
  refine ⟨_, _, _, rfl, R1.fh _ _ h1, ?_⟩
  refine ⟨F1, [.ins cl fs'], R1.fh, args_pure (.cons rx .nil) R1.tb, ?_⟩
  cases e : g [.ins cl fs'] with
  | bad => simp only [e] at q1; exact q1
  | oko d es => simp only [e] at q1; exact q1.elim
  | ok d es => simp only [e] at q1; exact fun v F' H' f rv => q1 v F' H' f.ff (R1.fin f) rv
  | err x es => simp only [e] at q1; exact q1.elim
/-! ### x in o, o of a class with its own __contains__ -/
def rInI (c : Stat) (C : Addr) (sp : Sp) (E : XK) (neg : Bool) : R2 := fun x y H Q => ∃ a dx fs, y = .ref a ∧ H a = some (.ins C dx fs) ∧ sp [.ref a, x] H (fun v H1 => ∃ b, v = .bl b ∧ Q (.bl (if neg then !b else b)) H1) E
def inI (cl : String) (g : List D → OutF) (neg : Bool) (a b : M D) : M D := bnd a fun x => bnd b fun y ρ => if isIns cl y then (match g [y, x] with
  | .ok (.bl b) _ => .ok (.bl (if neg then !b else b)) ρ
  | _ => .bad) else .bad
theorem op_inI {X : Cx} {k : Nat} {C f : Addr} {fd : FuncData} {ps : List Str} {sp : Sp} (kc : Cls X.K C) (mt : Meth X.K C (Str.ofString "__contains__") f) (F : FnG X.prog X.w X.K X.mg X.base k f fd ps sp) (hr : Room k X.A) (hgd : X.A.guards = some []) (hb : Binds X.K fd ps []) : OpR X (compareOp .In) (rInI c C sp E0 false) := by
  intro pins s σ H x y v u Q I rx ry ⟨a, dx, fs, ey, ea, q⟩
  subst ey
  obtain rfl : u = Value.ref a := ry
  obtain ⟨mA, O, _⟩ := ins_get I.hok ea
  obtain ⟨od, J, _⟩ := O.look
  obtain ⟨m, Fr⟩ := I.fr
  refine PySem.W.in_K Fr I.mod.kin J mt.at_ mt.fn ?_
  refine thn (run_fnG (E := fun _ => E0) (us := [.ref a, v]) (vs := [.ref a, x]) F hr hgd hb (fun pins H s e s' I c => (passL (X := X) pins σ H s e s' I c)) I (.cons rfl (.cons rx .nil)) q) fun r s1 ⟨w, H1, I1, rw1, b, ew, q1⟩ => ?_
  subst ew
  obtain rfl : r = Value.bool b := rw1
  exact thn (L2.tru_ok pins s1 σ H1 (.bl b) (.bool b) (fun k H2 => k = b ∧ H2 = H1) I1 rfl ⟨b, rfl, rfl, rfl⟩) fun k s2 ⟨H2, I2, hk, hH⟩ => by
    subst hk hH
    exact ⟨.bl _, _, I2, rfl, q1⟩
theorem op_notInI {X : Cx} {k : Nat} {C f : Addr} {fd : FuncData} {ps : List Str} {sp : Sp} (kc : Cls X.K C) (mt : Meth X.K C (Str.ofString "__contains__") f) (F : FnG X.prog X.w X.K X.mg X.base k f fd ps sp) (hr : Room k X.A) (hgd : X.A.guards = some []) (hb : Binds X.K fd ps []) : OpR X (compareOp .NotIn) (rInI c C sp E0 true) := by
  intro pins s σ H x y v u Q I rx ry ⟨a, dx, fs, ey, ea, q⟩
  subst ey
  obtain rfl : u = Value.ref a := ry
  obtain ⟨mA, O, _⟩ := ins_get I.hok ea
  obtain ⟨od, J, _⟩ := O.look
  obtain ⟨m, Fr⟩ := I.fr
  refine PySem.W.notIn_K Fr I.mod.kin J mt.at_ mt.fn ?_
  refine thn (run_fnG (E := fun _ => E0) (us := [.ref a, v]) (vs := [.ref a, x]) F hr hgd hb (fun pins H s e s' I c => (passL (X := X) pins σ H s e s' I c)) I (.cons rfl (.cons rx .nil)) q) fun r s1 ⟨w, H1, I1, rw1, b, ew, q1⟩ => ?_
  subst ew
  obtain rfl : r = Value.bool b := rw1
  exact thn (L2.tru_ok pins s1 σ H1 (.bl b) (.bool b) (fun k H2 => k = b ∧ H2 = H1) I1 rfl ⟨b, rfl, rfl, rfl⟩) fun k s2 ⟨H2, I2, hk, hH⟩ => by
    subst hk hH
    exact ⟨.bl _, _, I2, rfl, q1⟩
theorem ed_inI {neg : Bool} {op : CmpOp} (hop : (op = .In ∧ neg = false) ∨ (op = .NotIn ∧ neg = true)) {k : Nat} {cl : String} {g : List D → OutF} {a b : Expr} {fa fb : M D} {pos : Pos} (me : MetD c.toBase k cl "__contains__" [] g) (hk : k ≤ c.k) (ha : ED c a fa) (hb : ED c b fb) (hm : behindInMarks op b = false := by rfl) (hc : c.hot = false := by first | rfl | assumption) : ED c (.Compare a [op] [b] pos) (inI cl g neg fa fb) := fun G X W z => by
  obtain ⟨C, f, fd, ps, kc, mt, F, bi⟩ := me.ex
  have F' : FnG X.prog X.w X.K X.mg X.base k f fd ps (spF c.toBase [] g) := by rw [z.P, z.w, z.K, z.mg, z.base]; exact F
  have o : OpR X (compareOp op) (rInI c C (spF c.toBase [] g) E0 neg) := by
    rcases hop with ⟨rfl, rfl⟩ | ⟨rfl, rfl⟩
    · exact op_inI (by rw [z.K]; exact kc.c) (by rw [z.K]; exact mt) F' ((z.cold hc).mono hk) z.gd (by rw [z.K]; exact bi)
    · exact op_notInI (by rw [z.K]; exact kc.c) (by rw [z.K]; exact mt) F' ((z.cold hc).mono hk) z.gd (by rw [z.K]; exact bi)
  refine pe_imp (pe_cmpR o (ha G X W z) (hb G X W z) hm) fun σ H Q ⟨F0, ρ, R, q⟩ => ?_
  refine tG_bind R q fun F1 H1 ρ1 x dx s1 R1 rx q1 => ?_
  refine tG_bind R1 q1 fun F2 H2 ρ2 y dy s2 R2 ry q2 => ?_
  split at q2
  case isFalse => exact q2.elim
  rename_i hc
  obtain ⟨ad, C', dx', vs', fs', rfl, rfl, g1, h1, r1⟩ := isIns_of hc ry
  have := kc.same g1
  subst this
  refine ⟨_, _, _, rfl, R2.fh _ _ h1, F2, [.ins cl fs', dx], R2.fh, args_pure (.cons ry (.cons (rx.mono s2) .nil)) R2.tb, ?_⟩
  cases e : g [.ins cl fs', dx] with
  | bad => simp only [e] at q2; exact q2
  | oko d es => simp only [e] at q2; exact q2.elim
  | err x es => simp only [e] at q2; exact q2.elim
  | ok d es =>
    simp only [e] at q2
    cases d <;> try exact q2.elim
    intro v F' H' f rv
    cases rv
    exact ⟨_, rfl, q2 _ F' H' f.ff (R2.fin f) (.bl _)⟩
/-- as a test -/
theorem et_inI {neg : Bool} {op : CmpOp} (hop : (op = .In ∧ neg = false) ∨ (op = .NotIn ∧ neg = true)) {k : Nat} {cl : String} {g : List D → OutF} {a b : Expr} {fa fb : M D} {pos : Pos} (me : MetD c.toBase k cl "__contains__" [] g) (hk : k ≤ c.k) (ha : ED c a fa) (hb : ED c b fb) (hm : behindInMarks op b = false := by rfl) (hc : c.hot = false := by first | rfl | assumption) : ET c (.Compare a [op] [b] pos) (tbM (inI cl g neg fa fb)) := fun G X W z => by
  obtain ⟨C, f, fd, ps, kc, mt, F, bi⟩ := me.ex
  have F' : FnG X.prog X.w X.K X.mg X.base k f fd ps (spF c.toBase [] g) := by rw [z.P, z.w, z.K, z.mg, z.base]; exact F
  have o : OpR X (compareOp op) (rInI c C (spF c.toBase [] g) E0 neg) := by
    rcases hop with ⟨rfl, rfl⟩ | ⟨rfl, rfl⟩
    · exact op_inI (by rw [z.K]; exact kc.c) (by rw [z.K]; exact mt) F' ((z.cold hc).mono hk) z.gd (by rw [z.K]; exact bi)
    · exact op_notInI (by rw [z.K]; exact kc.c) (by rw [z.K]; exact mt) F' ((z.cold hc).mono hk) z.gd (by rw [z.K]; exact bi)
  refine pt_imp (pt_cmpR o (ha G X W z) (hb G X W z) hm) fun σ H Q h => tbM_test h fun ⟨F0, ρ, R, q⟩ => ?_
  refine tG_bind R q fun F1 H1 ρ1 x dx s1 R1 rx q1 => ?_
  refine tG_bind R1 q1 fun F2 H2 ρ2 y dy s2 R2 ry q2 => ?_
  split at q2
  case isFalse => exact q2.elim
  rename_i hc
  obtain ⟨ad, C', dx', vs', fs', rfl, rfl, g1, h1, r1⟩ := isIns_of hc ry
  have := kc.same g1
  subst this
  refine ⟨_, _, _, rfl, R2.fh _ _ h1, F2, [.ins cl fs', dx], R2.fh, args_pure (.cons ry (.cons (rx.mono s2) .nil)) R2.tb, ?_⟩
  cases e : g [.ins cl fs', dx] with
  | bad => simp only [e] at q2; exact q2
  | oko d es => simp only [e] at q2; exact q2.elim
  | err x es => simp only [e] at q2; exact q2.elim
  | ok d es =>
    simp only [e] at q2
    cases d <;> try exact q2.elim
    intro v F' H' f rv
    cases rv
    exact ⟨_, rfl, q2 _ F' H' f.ff (R2.fin f) (.bl _)⟩
end
end DL

namespace DL
open PySem L2
/-! ### plain lists of plain things -/
def bools : List D → Option (List Bool)
  | [] => some []
  | .bl b :: r => (bools r).map (b :: ·)
  | _ => none
def asStrs : List D → Option (List Cs)
  | [] => some []
  | .str b :: r => (asStrs r).map (b :: ·)
  | _ => none
def asInts : List D → Option (List Int)
  | [] => some []
  | .int b :: r => (asInts r).map (b :: ·)
  | _ => none
section
variable {K : PySem.W.Frag} {mg : Str → Option Value} {F : Hp}
theorem bools_of : ∀ {vs : List V} {ds : List D} {bs : List Bool}, Dns K mg F vs ds → bools ds = some bs → vs = bs.map V.bl ∧ ds = bs.map D.bl
  | _, _, bs, .nil, h => by cases h; exact ⟨rfl, rfl⟩
  | _, d :: ds, bs, .cons h r, e => by
    cases d <;> try cases e
    rename_i b
    cases q : bools ds with
    | none => simp [bools, q] at e
    | some l =>
      simp [bools, q] at e
      subst e
      cases h
      obtain ⟨h1, h2⟩ := bools_of r q
      rw [h1, h2]
      exact ⟨rfl, rfl⟩
theorem ints_of : ∀ {vs : List V} {ds : List D} {bs : List Int}, Dns K mg F vs ds → asInts ds = some bs → vs = bs.map V.int ∧ ds = bs.map D.int
  | _, _, bs, .nil, h => by cases h; exact ⟨rfl, rfl⟩
  | _, d :: ds, bs, .cons h r, e => by
    cases d <;> try cases e
    rename_i b
    cases q : asInts ds with
    | none => simp [asInts, q] at e
    | some l =>
      simp [asInts, q] at e
      subst e
      cases h
      obtain ⟨h1, h2⟩ := ints_of r q
      rw [h1, h2]
      exact ⟨rfl, rfl⟩
theorem strs_of : ∀ {vs : List V} {ds : List D} {bs : List Cs}, Dns K mg F vs ds → asStrs ds = some bs → vs = (bs.map toS).map V.str ∧ ds = bs.map D.str ∧ ∀ b ∈ bs, okS b
  | _, _, bs, .nil, h => by cases h; exact ⟨rfl, rfl, fun _ z => nomatch z⟩
  | _, d :: ds, bs, .cons h r, e => by
    cases d <;> try cases e
    rename_i b
    cases q : asStrs ds with
    | none => simp [asStrs, q] at e
    | some l =>
      simp [asStrs, q] at e
      subst e
      cases h
      rename_i hb
      obtain ⟨h1, h2, h3⟩ := strs_of r q
      rw [h1, h2]
      refine ⟨rfl, rfl, fun c hc => ?_⟩
      rcases List.mem_cons.mp hc with z | z
      · rw [z]; exact hb
      · exact h3 c z
theorem dns_ints : ∀ (ns : List Int), Dns K mg F (ns.map V.int) (ns.map D.int)
  | [] => .nil
  | n :: r => .cons (.int n) (dns_ints r)
theorem dns_bls : ∀ (ns : List Bool), Dns K mg F (ns.map V.bl) (ns.map D.bl)
  | [] => .nil
  | n :: r => .cons (.bl n) (dns_bls r)
theorem dns_strs : ∀ {cs : List Cs}, (∀ c ∈ cs, okS c) → Dns K mg F ((cs.map toS).map V.str) (cs.map D.str)
  | [], _ => .nil
  | n :: r, h => .cons (.str n (h n List.mem_cons_self)) (dns_strs fun c hc => h c (List.mem_cons_of_mem _ hc))
end
theorem strs_map (l : List Cs) : asStrs (l.map D.str) = some l := by
  induction l with
  | nil => rfl
  | cons a r ih => simp [asStrs, ih]
theorem bools_map (l : List Bool) : bools (l.map D.bl) = some l := by
  induction l with
  | nil => rfl
  | cons a r ih => simp [bools, ih]
theorem ints_map (l : List Int) : asInts (l.map D.int) = some l := by
  induction l with
  | nil => rfl
  | cons a r ih => simp [asInts, ih]
/-! ### sorting -/
def insert' {α : Type} (le : α → α → Bool) (x : α) : List α → List α
  | [] => [x]
  | y :: r => if le x y then x :: y :: r else y :: insert' le x r
def isort {α : Type} (le : α → α → Bool) : List α → List α
  | [] => []
  | x :: r => insert' le x (isort le r)
theorem insert_perm {α : Type} (le : α → α → Bool) (x : α) : ∀ l : List α, (insert' le x l).Perm (x :: l)
  | [] => .refl _
  | y :: r => by
    unfold insert'
    split
    · exact .refl _
    · exact ((insert_perm le x r).cons y).trans (.swap ..)
theorem isort_perm {α : Type} (le : α → α → Bool) : ∀ l : List α, (isort le l).Perm l
  | [] => .refl _
  | x :: r => (insert_perm le x _).trans ((isort_perm le r).cons x)
theorem insert_sorted {α : Type} {le : α → α → Bool} (tr : ∀ a b c, le a b = true → le b c = true → le a c = true) (tot : ∀ a b, le a b = true ∨ le b a = true) (x : α) : ∀ {l : List α}, l.Pairwise (fun a b => le a b = true) → (insert' le x l).Pairwise (fun a b => le a b = true)
  | [], _ => List.pairwise_singleton _ _
  | y :: r, h => by
    unfold insert'
    split
    · rename_i hx
      refine List.pairwise_cons.mpr ⟨fun a ha => ?_, h⟩
      rcases List.mem_cons.mp ha with z | z
      · rw [z]; exact hx
      · exact tr _ _ _ hx ((List.pairwise_cons.mp h).1 a z)
    · rename_i hx
      have hyx : le y x = true := (tot y x).resolve_right hx
      refine List.pairwise_cons.mpr ⟨fun a ha => ?_, insert_sorted tr tot x (List.pairwise_cons.mp h).2⟩
      rcases List.mem_cons.mp ((insert_perm le x r).mem_iff.mp ha) with z | z
      · rw [z]; exact hyx
      · exact (List.pairwise_cons.mp h).1 a z
theorem isort_sorted {α : Type} {le : α → α → Bool} (tr : ∀ a b c, le a b = true → le b c = true → le a c = true) (tot : ∀ a b, le a b = true ∨ le b a = true) : ∀ l : List α, (isort le l).Pairwise (fun a b => le a b = true)
  | [] => .nil
  | x :: r => insert_sorted tr tot x (isort_sorted tr tot r)
theorem isort_eq {α : Type} {le : α → α → Bool} (tr : ∀ a b c, le a b = true → le b c = true → le a c = true) (tot : ∀ a b, le a b = true ∨ le b a = true) (anti : ∀ a b, le a b = true → le b a = true → a = b) {l l' : List α} (p : l'.Perm l) (s : l'.Pairwise (fun a b => le a b = true)) : l' = isort le l :=
  List.Perm.eq_of_pairwise (le := fun a b => le a b = true) (fun a b _ _ => anti a b) s (isort_sorted tr tot l) (p.trans (isort_perm le l).symm)
def leI (a b : Int) : Bool := decide (a ≤ b)
def leS (a b : Cs) : Bool := !decide (b < a)
theorem leS_tr (a b c : Cs) (h1 : leS a b = true) (h2 : leS b c = true) : leS a c = true := by
  simp [leS] at *
  exact List.le_trans h1 h2
theorem leS_tot (a b : Cs) : leS a b = true ∨ leS b a = true := by
  simp [leS]
  exact List.le_total a b
theorem leS_anti (a b : Cs) (h1 : leS a b = true) (h2 : leS b a = true) : a = b := by
  simp [leS] at *
  exact List.le_antisymm h1 h2
theorem leI_tr (a b c : Int) (h1 : leI a b = true) (h2 : leI b c = true) : leI a c = true := by
  simp [leI] at *; omega
theorem leI_tot (a b : Int) : leI a b = true ∨ leI b a = true := by
  simp [leI]; omega
theorem leI_anti (a b : Int) (h1 : leI a b = true) (h2 : leI b a = true) : a = b := by
  simp [leI] at *; omega
def sortS : List Cs → List Cs := isort leS
def sortI : List Int → List Int := isort leI
open PySem.Spec PyProof.Rows in
theorem rising_pw : ∀ (p : Str) (l : List Str), risingS p l = true → ((p :: l).map (·.cps.toList)).Pairwise (fun a b => leS a b = true)
  | p, [], _ => List.pairwise_singleton _ _
  | p, x :: r, h => by
    unfold risingS at h
    simp only [Bool.and_eq_true, Bool.not_eq_true'] at h
    have ih := rising_pw x r h.2
    have hx : leS p.cps.toList x.cps.toList = true := by
      have := h.1
      rw [ltCps_eq] at this
      unfold leS
      rw [this]; rfl
    simp only [List.map_cons] at ih ⊢
    refine List.pairwise_cons.mpr ⟨fun a ha => ?_, ih⟩
    rcases List.mem_cons.mp ha with z | z
    · rw [z]; exact hx
    · exact leS_tr _ _ _ hx ((List.pairwise_cons.mp ih).1 a z)
open PySem.Spec PyProof.Rows in
theorem sortedS_eq {ys : List Str} {cs : List Cs} (p : ys.Perm (cs.map toS)) (h : sortedS ys = true) : ys = (sortS cs).map toS := by
  have e : ys.map (·.cps.toList) = sortS cs := by
    refine isort_eq leS_tr leS_tot leS_anti ?_ ?_
    · have := p.map (fun s : Str => s.cps.toList)
      rw [List.map_map] at this
      refine this.trans ?_
      rw [show ((fun s : Str => s.cps.toList) ∘ toS) = id from funext fun c => by simp [toS]]
      rw [List.map_id]
    · cases ys with
      | nil => exact .nil
      | cons y r => exact rising_pw y r h
  rw [← e, List.map_map]
  rw [show (toS ∘ fun s : Str => s.cps.toList) = id from funext fun c => by cases c; simp [toS]]
  rw [List.map_id]
section
variable {c : Stat}
/-! ### built-in functions -/
def dLen : List D → Option D
  | [.str cs] => some (.int cs.length)
  | [.lst xs] => some (.int xs.length)
  | [.tup xs] => some (.int xs.length)
  | _ => none
theorem b_len : BCl c (.builtin "len") dLen := fun X W z => ⟨_, call_len, by
  intro F H xs ds d Q s r e a
  cases r with
  | nil => cases e
  | cons h r =>
    cases r with
    | cons _ _ => cases h <;> cases e
    | nil =>
      cases h <;> simp only [dLen] at e <;> try cases e
      · rename_i h1
        exact ⟨_, _, rfl, ⟨by rw [sz_eq, toS_length]; exact h1.1, (toS_length _).symm⟩, a.here s (.int _)⟩
      · rename_i h1 r1 l1
        refine ⟨_, _, rfl, .inr ⟨_, by rw [z.K]; exact same_t s h1, rfl⟩, ?_⟩
        rw [r1.length]
        exact a.here s (.int _)
      · rename_i h1 r1 l1
        refine ⟨_, _, rfl, .inl ⟨_, .inl (same_rd s h1), rfl⟩, ?_⟩
        rw [r1.length]
        exact a.here s (.int _)⟩
/-- one argument -/
theorem r1 {rV : List V → Hp → VK → Prop} {r : D → Option D} (h : ∀ F H x dx d Q, Same F H → Dn c.K c.mg F x dx → r dx = some d → After c F H d Q → rV [x] H Q) : RLok c rV (fun ds => match ds with
    | [x] => r x
    | _ => none) := by
  intro F H xs ds d Q s rx e a
  cases rx with
  | nil => cases e
  | cons h1 rx =>
    cases rx with
    | nil => exact h F H _ _ d Q s h1 e a
    | cons _ _ => cases e
def on1 (r : D → Option D) : List D → Option D := fun ds => match ds with
  | [x] => r x
  | _ => none
def dAbs : D → Option D
  | .int i => some (.int (if i < 0 then -i else i))
  | _ => none
theorem b_abs : BCl c (.builtin "abs") (on1 dAbs) := fun X W z => ⟨_, call_abs, r1 fun F H x dx d Q s h e a => by
  cases h <;> simp only [dAbs] at e <;> cases e
  exact ⟨_, rfl, a.here s (.int _)⟩⟩
def dInt : D → Option D
  | .int i => some (.int i)
  | .bl b => some (.int (if b then 1 else 0))
  | _ => none
theorem b_int : BCl c (.type "int") (on1 dInt) := fun X W z => ⟨_, call_int1, r1 fun F H x dx d Q s h e a => by
  cases h <;> simp only [dInt] at e <;> cases e
  · exact .inr ⟨_, rfl, a.here s (.int _)⟩
  · exact .inl ⟨_, rfl, a.here s (.int _)⟩⟩
def dMax2 : List D → Option D
  | [.int i, .int j] => some (.int (if j > i then j else i))
  | _ => none
def dMin2 : List D → Option D
  | [.int i, .int j] => some (.int (if j < i then j else i))
  | _ => none
theorem two_ints {F : Hp} {xs : List V} {ds : List D} {r : Int → Int → D} {g : List D → Option D} (hg : ∀ ds d, g ds = some d → ∃ i j, ds = [.int i, .int j] ∧ d = r i j) {d : D} (h : Dns c.K c.mg F xs ds) (e : g ds = some d) : ∃ i j, xs = [.int i, .int j] ∧ d = r i j := by
  obtain ⟨i, j, rfl, rfl⟩ := hg _ _ e
  cases h with
  | cons h1 h =>
    cases h with
    | cons h2 h =>
      cases h
      cases h1
      cases h2
      exact ⟨_, _, rfl, rfl⟩
theorem max2_shape (ds : List D) (d : D) (e : dMax2 ds = some d) : ∃ i j, ds = [.int i, .int j] ∧ d = .int (if j > i then j else i) := by
  unfold dMax2 at e
  split at e
  · cases e; exact ⟨_, _, rfl, rfl⟩
  · cases e
theorem min2_shape (ds : List D) (d : D) (e : dMin2 ds = some d) : ∃ i j, ds = [.int i, .int j] ∧ d = .int (if j < i then j else i) := by
  unfold dMin2 at e
  split at e
  · cases e; exact ⟨_, _, rfl, rfl⟩
  · cases e
theorem b_max2 (hc : c.hot = false := by first | rfl | assumption) : BCl c (.builtin "max") dMax2 := fun X W z => ⟨_, call_max2 (z.calm hc), fun F H xs ds d Q s r e a => by
  obtain ⟨i, j, rfl, rfl⟩ := two_ints max2_shape r e
  exact ⟨i, j, rfl, a.here s (.int _)⟩⟩
theorem b_min2 (hc : c.hot = false := by first | rfl | assumption) : BCl c (.builtin "min") dMin2 := fun X W z => ⟨_, call_min2 (z.calm hc), fun F H xs ds d Q s r e a => by
  obtain ⟨i, j, rfl, rfl⟩ := two_ints min2_shape r e
  exact ⟨i, j, rfl, a.here s (.int _)⟩⟩
def dAll : D → Option D
  | .lst xs => (bools xs).map fun bs => .bl (bs.all id)
  | _ => none
def dAny : D → Option D
  | .lst xs => (bools xs).map fun bs => .bl (bs.any id)
  | _ => none
theorem b_all (hc : c.hot = false := by first | rfl | assumption) : BCl c (.builtin "all") (on1 dAll) := fun X W z => ⟨_, cr_all (z.calm hc), r1 fun F H x dx d Q s h e a => by
  cases h <;> simp only [dAll] at e <;> try cases e
  rename_i h1 r1 l1
  obtain ⟨bs, hb, rfl⟩ := Option.map_eq_some_iff.mp e
  obtain ⟨rfl, _⟩ := bools_of r1 hb
  exact ⟨_, bs, rfl, .inl (same_rd s h1), a.here s (.bl _)⟩⟩
theorem b_any (hc : c.hot = false := by first | rfl | assumption) : BCl c (.builtin "any") (on1 dAny) := fun X W z => ⟨_, cr_any (z.calm hc), r1 fun F H x dx d Q s h e a => by
  cases h <;> simp only [dAny] at e <;> try cases e
  rename_i h1 r1 l1
  obtain ⟨bs, hb, rfl⟩ := Option.map_eq_some_iff.mp e
  obtain ⟨rfl, _⟩ := bools_of r1 hb
  exact ⟨_, bs, rfl, .inl (same_rd s h1), a.here s (.bl _)⟩⟩
def dTuple : D → Option D
  | .lst xs => some (.tup xs)
  | .tup xs => some (.tup xs)
  | _ => none
theorem b_tuple : BCl c (.type "tuple") (on1 dTuple) := fun X W z => ⟨_, call_tuple_of, r1 fun F H x dx d Q s h e a => by
  cases h <;> simp only [dTuple] at e <;> cases e
  · rename_i h1 r1 l1
    exact ⟨_, _, rfl, .inr ⟨by rw [z.K]; exact same_t s h1, a.here s (.tup h1 r1 l1)⟩⟩
  · rename_i h1 r1 l1
    exact ⟨_, _, rfl, .inl ⟨.inl (same_rd s h1), fun l hl => after_tup s a hl r1 l1⟩⟩⟩
def dSum : D → Option D
  | .lst xs => (asInts xs).map fun bs => .int bs.sum
  | _ => none
theorem b_sum (hc : c.hot = false := by first | rfl | assumption) : BCl c (.builtin "sum") (on1 dSum) := fun X W z => ⟨_, cr_sum (z.calm hc), r1 fun F H x dx d Q s h e a => by
  cases h <;> simp only [dSum] at e <;> try cases e
  rename_i h1 r1 l1
  obtain ⟨bs, hb, rfl⟩ := Option.map_eq_some_iff.mp e
  obtain ⟨rfl, _⟩ := ints_of r1 hb
  exact ⟨_, bs, rfl, .inl (same_rd s h1), a.here s (.int _)⟩⟩
/-- sorted(list of texts, fewer than 64 | list of asInts) -/
def dSorted : D → Option D
  | .lst xs => match asStrs xs with
    | some ss => if ss.length < 64 then some (.lst ((sortS ss).map .str)) else none
    | none => (asInts xs).map fun ns => .lst ((sortI ns).map .int)
  | _ => none
theorem sortS_mem {l : List Cs} {x : Cs} : x ∈ sortS l ↔ x ∈ l := (isort_perm leS l).mem_iff
theorem sortS_len (l : List Cs) : (sortS l).length = l.length := (isort_perm leS l).length_eq
theorem sortI_len (l : List Int) : (sortI l).length = l.length := (isort_perm leI l).length_eq
theorem b_sorted : BCl c (.builtin "sorted") (on1 dSorted) := fun X W z => ⟨_, CallR.or cr_sortedS cr_sortedI, r1 fun F H x dx d Q s h e a => by
  cases h <;> simp only [dSorted] at e <;> try cases e
  rename_i h1 r1 l1
  split at e
  · rename_i ss hs
    split at e
    case isFalse => cases e
    rename_i h64
    cases e
    obtain ⟨rfl, rfl, hk⟩ := strs_of r1 hs
    refine .inl ⟨_, ss.map toS, rfl, .inl (same_rd s h1), by simpa using h64, fun ys p hp hsr hn => ?_⟩
    rw [sortedS_eq hp hsr]
    exact after_lst s a hn (dns_strs fun c hc => hk c (sortS_mem.mp hc)) (by rw [List.length_map, sortS_len]; simpa using l1)
  · obtain ⟨bs, hb, rfl⟩ := Option.map_eq_some_iff.mp e
    obtain ⟨rfl, rfl⟩ := ints_of r1 hb
    refine .inr ⟨_, bs, rfl, .inl (same_rd s h1), fun ys p hp hsr hn => ?_⟩
    rw [isort_eq leI_tr leI_tot leI_anti hp (hsr.imp fun {a b} h => by simpa [leI] using h)]
    exact after_lst s a hn (dns_ints _) (by rw [List.length_map]; show (sortI bs).length ≤ sz; rw [sortI_len]; simpa using l1)⟩
end
end DL

namespace DL
open PySem L2
section
variable {c : Stat}
/-! ### names of the module and of the language -/
theorem ed_glob {x : Str} {v : V} {u : Value} {d : D} {pos : Pos} (hg : Gn c x) (hm : c.mg x = some u) (r : RelV v u) (h : ∀ F, Dn c.K c.mg F v d) (hd : (x == ("__debug__" : Str)) = false := by decide) : ED c (.Name x pos) (cn d) := fun G X W z =>
  pe_imp (pe_glob (hg.gl z) (by rw [z.mg]; exact hm) r hd) fun σ H Q ⟨F, ρ, R, q⟩ => q v F H (Same.refl _) R (h F)
theorem ed_gint {x : Str} {i : Int} {t : Tok} {pos : Pos} (hg : Gn c x) (hm : c.mg x = some (.int i t)) (hd : (x == ("__debug__" : Str)) = false := by decide) : ED c (.Name x pos) (cn (.int i)) := ed_glob (v := .int i) hg hm ⟨_, rfl⟩ (fun _ => .int i) hd
theorem ed_gstr {x : Str} {cs : Cs} {t : Tok} {pos : Pos} (hg : Gn c x) (hm : c.mg x = some (.str (toS cs) t)) (hk : okS cs) (hd : (x == ("__debug__" : Str)) = false := by decide) : ED c (.Name x pos) (cn (.str cs)) := ed_glob (v := .str (toS cs)) hg hm ⟨_, rfl⟩ (fun _ => .str cs hk) hd
theorem ed_gcls {x : String} {C : Addr} {pos : Pos} (hg : Gn c (Str.ofString x)) (hm : c.mg (Str.ofString x) = some (.ref C)) (hd : (Str.ofString x == ("__debug__" : Str)) = false := by decide) : ED c (.Name (Str.ofString x) pos) (cn (.gl x)) := ed_glob (v := .ref C) hg hm rfl (fun _ => .gl hm) hd
theorem ed_ty {x : Str} {T : String} {pos : Pos} (hg : Gn c x) (hm : c.mg x = none) (hv : bootBuiltins x = some (.type T)) (hn : x ≠ "__name__" := by decide) (hd : (x == ("__debug__" : Str)) = false := by decide) : ED c (.Name x pos) (cn (.ty T)) := fun G X W z =>
  pe_imp (pe_bltn (v := .ty T) (hg.gl z) (by rw [z.mg]; exact hm) hv rfl hn hd) fun σ H Q ⟨F, ρ, R, q⟩ => q _ F H (Same.refl _) R (.ty T)
/-! ### methods of texts -/
def isStr : D → Bool
  | .str _ => true
  | _ => false
def opMt (T : D → Bool) (r : D → List D → Option D) (o : M D) (a : M (List D)) : M D := bnd o fun x => if T x then bnd a fun xs => lift (r x xs) else fun _ => .bad
def RMok (c : Stat) (rV : V → List V → Hp → VK → Prop) (r : D → List D → Option D) : Prop := ∀ F H x dx xs ds d Q, Same F H → Dn c.K c.mg F x dx → Dns c.K c.mg F xs ds → r dx ds = some d → After c F H d Q → rV x xs H Q
def MCl (c : Stat) (id : String) (r : D → List D → Option D) : Prop := ∀ X W, Cz c X W → ∃ rV, MtR X id rV ∧ RMok c rV r
theorem ed_strm {id : String} {name : Str} {r : D → List D → Option D} {o e : Expr} {es : List Expr} {fo : M D} {f : M (List D)} {apos cpos : Pos} (hm : MCl c id r) (slot : Slot "str" name id) (hty : typeOf (.builtin id) = pure (.type "method_descriptor")) (ho : ED c o fo) (ha : EA c (e :: es) f)
    (hbase : ∀ env, attributeBase o name env (eval o env) = eval o env := by intro _; rfl)
    (hfew : ∀ env, ((backTo cpos (starEach (e :: es) env)).all (fun x => !x.1) && (backToKw cpos (keywordEach [] env)).all (fun x => x.1.isSome) && decide ((e :: es).length + ([] : List Keyword).length + (if ([] : List Keyword).isEmpty then 0 else 1) < 30)) = true := by intro _; rfl)
    (hline : (apos.endLine == cpos.line) = true := by rfl) (hs : ∀ env, starEach (e :: es) env = (false, eval e env) :: starEach es env := by intro _; rfl) (hpl : ∀ env, (backTo cpos (starEach es env)).any (·.1) = false := by intro _; rfl) :
    ED c (.Call (.Attribute o name apos) (e :: es) [] cpos) (opMt isStr r fo f) := fun G X W z => by
  obtain ⟨rV, mt, ok⟩ := hm X W z
  refine pe_imp (pe_bm PySem.F.plainAttrs_str slot hty mt (ho G X W z) (ha G X W z) (hbase _) (hfew _) hline (hs _) (hpl _)) fun σ H Q ⟨F, ρ, R, q⟩ => ?_
  refine tG_bind R q fun F1 H1 ρ1 x dx s1 R1 rx q1 => ?_
  split at q1
  case isFalse => exact q1.elim
  rename_i ht
  refine ⟨?_, ?_⟩
  · cases rx <;> first | rfl | cases ht
  · refine tG_bind R1 q1 fun F2 H2 ρ2 xs ds s2 R2 rxs q2 => ?_
    obtain ⟨d, e, af⟩ := q2.lift R2
    exact ok F2 H2 x dx xs ds d Q R2.fh (rx.mono s2) rxs e af
/-- sep.join(list or tuple of texts) -/
def joinCs (sep : Cs) : List Cs → Cs
  | [] => []
  | [x] => x
  | x :: r => x ++ sep ++ joinCs sep r
theorem join_toS (sep : Cs) : ∀ l : List Cs, Str.join (toS sep) (l.map toS) = toS (joinCs sep l)
  | [] => rfl
  | [x] => rfl
  | x :: y :: r => by
    have ih := join_toS sep (y :: r)
    simp only [List.map_cons] at ih ⊢
    unfold Str.join joinCs
    rw [ih]
    apply Str.ext'
    simp [toS, Str.cps_append]
theorem joinCs_len (sep : Cs) : ∀ l : List Cs, (joinCs sep l).length ≤ (l.map List.length).sum + l.length * sep.length
  | [] => by simp [joinCs]
  | [x] => by simp [joinCs]
  | x :: y :: r => by
    have ih := joinCs_len sep (y :: r)
    simp only [joinCs, List.length_append, List.map_cons, List.sum_cons, List.length_cons] at ih ⊢
    rw [Nat.succ_mul]
    omega
theorem joinCs_mem (sep : Cs) {n : Nat} : ∀ l : List Cs, n ∈ joinCs sep l → n ∈ sep ∨ ∃ x ∈ l, n ∈ x
  | [], h => by simp [joinCs] at h
  | [x], h => .inr ⟨x, by simp, h⟩
  | x :: y :: r, h => by
    simp only [joinCs, List.mem_append] at h
    rcases h with (h | h) | h
    · exact .inr ⟨x, by simp, h⟩
    · exact .inl h
    · rcases joinCs_mem sep (y :: r) h with q | ⟨z, q1, q2⟩
      · exact .inl q
      · exact .inr ⟨z, List.mem_cons_of_mem _ q1, q2⟩
theorem joinCs_ok {sep : Cs} {l : List Cs} (hs : okS sep) (hl : ∀ x ∈ l, okS x) (h : (l.map List.length).sum + l.length * sep.length ≤ sz) : okS (joinCs sep l) := by
  refine ⟨Nat.le_trans (joinCs_len sep l) h, fun n hn => ?_⟩
  rcases joinCs_mem sep l hn with q | ⟨x, q1, q2⟩
  · exact hs.2 n q
  · exact (hl x q1).2 n q2
def dSeqL : D → Option (List D)
  | .lst xs => some xs
  | .tup xs => some xs
  | _ => none
def dJoin : D → List D → Option D
  | .str a, [x] => ((dSeqL x).bind asStrs).bind fun ss => if (ss.map List.length).sum + ss.length * a.length ≤ sz then some (.str (joinCs a ss)) else none
  | _, _ => none
theorem m_join : MCl c "str.join" dJoin := fun X W z => ⟨_, mt_join, by
  intro F H x dx xs ds d Q s rx rxs e a
  cases rx <;> try (simp only [dJoin] at e; cases e)
  rename_i cs hcs
  cases rxs with
  | nil => simp only [dJoin] at e; cases e
  | cons h1 rxs =>
    cases rxs with
    | cons _ _ => simp only [dJoin] at e; cases e
    | nil =>
      simp only [dJoin] at e
      cases h1 <;> simp only [dSeqL] at e <;> try cases e
      · rename_i h2 r2 l2
        obtain ⟨ss, e1, e2⟩ := Option.bind_eq_some_iff.mp e
        split at e2
        case isFalse => cases e2
        rename_i hz
        cases e2
        obtain ⟨rfl, rfl, hk⟩ := strs_of r2 e1
        refine ⟨_, _, ss.map toS, rfl, rfl, .inr (by rw [z.K]; exact same_t s h2), ?_, ?_⟩
        · rw [List.map_map, List.length_map, toS_length, show ((fun x : Str => x.length) ∘ toS) = List.length from funext toS_length]
          exact hz
        · show Q (.str (Builtin.Str.glued _ _)) H
          rw [StrLaws.glued_eq_join, join_toS]
          exact a.here s (.str _ (joinCs_ok hcs hk hz))
      · rename_i h2 r2 l2
        obtain ⟨ss, e1, e2⟩ := Option.bind_eq_some_iff.mp e
        split at e2
        case isFalse => cases e2
        rename_i hz
        cases e2
        obtain ⟨rfl, rfl, hk⟩ := strs_of r2 e1
        refine ⟨_, _, ss.map toS, rfl, rfl, .inl (.inl (same_rd s h2)), ?_, ?_⟩
        · rw [List.map_map, List.length_map, toS_length, show ((fun x : Str => x.length) ∘ toS) = List.length from funext toS_length]
          exact hz
        · show Q (.str (Builtin.Str.glued _ _)) H
          rw [StrLaws.glued_eq_join, join_toS]
          exact a.here s (.str _ (joinCs_ok hcs hk hz))⟩
/-- text.index(sign), one sign that is there -/
def idx1 (n : Nat) : Cs → Option Nat
  | [] => none
  | m :: r => if m = n then some 0 else (idx1 n r).map (· + 1)
theorem idx1_spec {n : Nat} : ∀ {cs : Cs} {i : Nat}, idx1 n cs = some i → cs[i]? = some n ∧ ∀ j, j < i → cs[j]? ≠ some n
  | [], i, h => by cases h
  | m :: r, i, h => by
    unfold idx1 at h
    split at h
    · rename_i e
      cases h
      subst e
      exact ⟨rfl, fun j hj => by omega⟩
    · rename_i e
      obtain ⟨k, hk, rfl⟩ := Option.map_eq_some_iff.mp h
      obtain ⟨h1, h2⟩ := idx1_spec hk
      refine ⟨by simpa using h1, fun j hj => ?_⟩
      cases j with
      | zero => simp [e]
      | succ j => simpa using h2 j (by omega)
def dIndex : D → List D → Option D
  | .str a, [.str [n]] => (idx1 n a).map fun i => .int (i : Nat)
  | _, _ => none
theorem at_one {cs : Cs} {n i : Nat} : StrLaws.At (toS cs) (toS [n]) (toS cs).length i ↔ cs[i]? = some n := by
  unfold StrLaws.At
  rw [StrLaws.subAt_eq]
  simp only [toS_length, List.length_singleton]
  rw [toS_cps, toS_cps]
  constructor
  · rintro ⟨h1, h2⟩
    have h2 := eq_of_beq h2
    have hi : i < cs.length := by omega
    rw [List.getElem?_eq_getElem hi]
    rw [List.drop_eq_getElem_cons hi, List.take_succ_cons, List.take_zero] at h2
    exact congrArg some (List.cons.inj h2).1
  · intro h
    obtain ⟨hi, e⟩ := List.getElem?_eq_some_iff.mp h
    refine ⟨by omega, ?_⟩
    rw [List.drop_eq_getElem_cons hi, e]
    simp
theorem occ_idx1 {cs : Cs} {n i : Nat} (h : idx1 n cs = some i) : ∃ rest, Builtin.Str.occurrences (toS cs) (toS [n]) 0 (toS cs).length 1 = i :: rest := by
  obtain ⟨h1, h2⟩ := idx1_spec h
  have hi : i < cs.length := (List.getElem?_eq_some_iff.mp h1).1
  rw [StrLaws.occ_eq]
  rcases StrLaws.occ_first (toS cs) (toS [n]) (toS cs).length 1 (Nat.le_refl _) (List.range' 0 ((toS cs).length + 1 - 0)) 0 (fun _ _ => Nat.zero_le _) with ⟨_, hn⟩ | ⟨pre, a, post, e, h0, ha, hn⟩
  · exact absurd (at_one.mpr h1) (hn i (by rw [List.mem_range'_1, toS_length]; omega))
  · have ha' := at_one.mp ha
    have : a = i := by
      rcases Nat.lt_trichotomy a i with q | q | q
      · exact absurd ha' (h2 a q)
      · exact q
      · exact absurd (at_one.mpr h1) (hn i (StrLaws.range'_split e i q))
    subst this
    revert h0
    generalize (forIn (m := Id) (List.range' 0 ((toS cs).length + 1 - 0)) (#[], 0) (StrLaws.occBody (toS cs) (toS [n]) (toS cs).length 1)).run.fst = arr
    intro h0
    have h0' : arr.toList[0]? = some a := by simpa using h0
    cases e : arr.toList with
    | nil => rw [e] at h0'; cases h0'
    | cons x r => rw [e] at h0'; cases h0'; exact ⟨r, rfl⟩
theorem m_index : MCl c "str.index" dIndex := fun X W z => ⟨_, mt_sindex, by
  intro F H x dx xs ds d Q s rx rxs e a
  cases rx <;> try (simp only [dIndex] at e; cases e)
  rename_i cs hcs
  cases rxs with
  | nil => simp only [dIndex] at e; cases e
  | cons h1 rxs =>
    cases rxs with
    | cons _ _ => unfold dIndex at e; split at e <;> first | cases e | (rename_i q; cases q) | (rename_i q _; cases q)
    | nil =>
      cases h1 <;> try (simp only [dIndex] at e; cases e)
      rename_i ns hns
      unfold dIndex at e
      split at e
      · rename_i n q1 q2
        cases q1
        cases q2
        obtain ⟨i, hi, rfl⟩ := Option.map_eq_some_iff.mp e
        obtain ⟨rest, ho⟩ := occ_idx1 hi
        exact ⟨_, _, i, rest, rfl, rfl, ho, a.here s (.int _)⟩
      · cases e⟩
/-! ### repr -/
def shw (d : D) : Cs := (py d).shown.cps.toList
theorem shw_toS (d : D) : (py d).shown = toS (shw d) := by unfold shw toS; simp
def okRep (d : D) : Bool := isP d && decide (dep d ≤ 60) && (py d).showable && decide (okS (shw d))
def dRepr (d : D) : Option D := if okRep d then some (.str (shw d)) else none
mutual
theorem noDict : ∀ d : D, (py d).hasDict = false
  | .non => by simp [py, PyData.hasDict] | .bl _ => by simp [py, PyData.hasDict] | .int _ => by simp [py, PyData.hasDict] | .str _ => by simp [py, PyData.hasDict]
  | .tup xs => by simp [py, PyData.hasDict, noDicts xs] | .lst xs => by simp [py, PyData.hasDict, noDicts xs]
  | .dct _ => by simp [py, PyData.hasDict] | .ins _ _ => by simp [py, PyData.hasDict] | .gl _ => by simp [py, PyData.hasDict] | .ty _ => by simp [py, PyData.hasDict]
theorem noDicts : ∀ d : List D, PyData.hasDictAll (pys d) = false
  | [] => by simp [pys, PyData.hasDictAll]
  | x :: xs => by simp [pys, PyData.hasDictAll, noDict x, noDicts xs]
end
theorem call_reprD {X : Cx} {W : WX} (z : Cz c X W) : CallR X (.builtin "repr") (fun vs H Q => ∃ F x d, Same F H ∧ vs = [x] ∧ Dn c.K c.mg F x d ∧ okRep d = true ∧ Q (.str (toS (shw d))) H) := by
  intro pins s σ H vs us Q I r ⟨F, x, d, e, ev, rx, hk, q⟩
  subst ev
  obtain ⟨u, rfl, ru⟩ := vals1 r
  simp only [okRep, Bool.and_eq_true, decide_eq_true_eq] at hk
  obtain ⟨⟨⟨hp, hd⟩, hs⟩, hok⟩ := hk
  have hx' : Dp X.K H x (py d) := by rw [z.K]; exact rx.dp e hp
  obtain ⟨as, rd⟩ := Dp.reads I _ x u hx' ru
  have hu := z.room.units
  have hsz : (py d).shown.length ≤ sizeLine := by rw [shw_toS, toS_length, sz_eq]; exact hok.1
  have fin : ∀ (h' : Heap) (t : Tok) (tk : Nat), (∀ b o, s.heap.get? b = some o → h'.get? b = some o) → EP X pins σ Q (.str (py d).shown t) { s with heap := h', toks := tk } := fun h' t tk hk =>
    ⟨.str (toS (shw d)), H, I.kept hk, ⟨t, by rw [shw_toS]⟩, q⟩
  cases rx with
  | non =>
    obtain rfl : u = Value.none := ru
    exact PySem.P.repr_of_none (fin s.heap _ _ fun _ _ h => h)
  | bl b =>
    obtain rfl : u = Value.bool b := ru
    refine PySem.P.repr_of_bool ?_
    have := fin s.heap s.toks (s.toks + 1) fun _ _ h => h
    simpa [py, PyData.shown] using this
  | int i =>
    obtain ⟨t, rfl⟩ := ru
    refine PySem.P.repr_of_int (by simpa [py, PyData.showable] using hs) ?_
    have := fin s.heap s.toks (s.toks + 1) fun _ _ h => h
    simpa [py, PyData.shown] using this
  | str cs h =>
    obtain ⟨t, rfl⟩ := ru
    refine PySem.P.repr_of_str ?_ (by simpa [py, PyData.shown] using hsz)
    have := fin s.heap s.toks (s.toks + 1) fun _ _ h => h
    simpa [py, PyData.shown] using this
  | ty n => simp [isP] at hp
  | gl h => simp [isP] at hp
  | dct _ _ _ => simp [isP] at hp
  | ins _ _ _ => simp [isP] at hp
  | tup h r l =>
    cases ru
    exact repr_of_reads' rd hs (fun h => absurd h (by rw [noDict]; exact Bool.false_ne_true)) z.gd (by rw [dep_py]; omega) (fun _ _ h => h) (fun h' t tk hk => fin h' t tk hk) hsz
  | lst h r l =>
    cases ru
    exact repr_of_reads' rd hs (fun h => absurd h (by rw [noDict]; exact Bool.false_ne_true)) z.gd (by rw [dep_py]; omega) (fun _ _ h => h) (fun h' t tk hk => fin h' t tk hk) hsz
theorem b_repr : BCl c (.builtin "repr") (on1 dRepr) := fun X W z => ⟨_, call_reprD z, r1 fun F H x dx d Q s h e a => by
  unfold dRepr at e
  split at e
  · rename_i hk
    cases e
    have hk' := hk
    simp only [okRep, Bool.and_eq_true, decide_eq_true_eq] at hk'
    exact ⟨F, x, dx, s, rfl, h, hk, a.here s (.str _ hk'.2)⟩
  · cases e⟩
end
end DL

namespace DL
open PySem L2
/-! ### isinstance -/
structure ClI (b : Base) (cl : String) (C : Addr) : Prop extends ClD b cl C where
  ha : PySem.W.findIn b.K (.ref C) "__class__" = some (some (.builtin "object.__class__"))
  hn : PySem.W.specialIn b.K (.builtin "object.__class__") "__get__" = some (some (.builtin "getset_descriptor.__get__"))
  htk : PySem.W.takesIn b.K (.builtin "object.__class__") = some true
  hm : PySem.W.mroIn b.K C (.type "object") = some true
def tyN : D → Option String
  | .non => some "NoneType" | .bl _ => some "bool" | .int _ => some "int" | .str _ => some "str"
  | .tup _ => some "tuple" | .lst _ => some "list" | .dct _ => some "dict"
  | _ => none
def tys : List String := ["str", "int", "bool", "tuple", "list", "dict"]
def btys : List String := ["NoneType", "bool", "int", "str", "tuple", "list", "dict"]
def isiB (t T : String) : Bool := t == T || (t == "bool" && T == "int")
structure Isi (b : Base) (cls : List String) : Prop where
  cl : ∀ c ∈ cls, ∃ C, ClI b c C
  tb : ∀ c ∈ cls, ∀ C, b.mg (Str.ofString c) = some (.ref C) → ∀ T ∈ tys, PySem.W.kitOne b.K (.ref C) (.type T) = some false
  bt : ∀ c ∈ cls, ∀ C, b.mg (Str.ofString c) = some (.ref C) → ∀ t ∈ btys, PySem.W.kitOne b.K (.type t) (.ref C) = some false
  cc : ∀ c ∈ cls, ∀ c' ∈ cls, ∀ C C', b.mg (Str.ofString c) = some (.ref C) → b.mg (Str.ofString c') = some (.ref C') → PySem.W.kitOne b.K (.ref C) (.ref C') = some (decide (c = c'))
theorem tyN_mem {d : D} {t : String} (h : tyN d = some t) : t ∈ btys := by
  cases d <;> simp only [tyN] at h <;> cases h <;> decide
set_option maxRecDepth 200000 in
theorem kit_all : ∀ t ∈ btys, ∀ T ∈ tys, kitB t T = some (isiB t T) := by decide +kernel
def isiT (cls : List String) (T : String) (x : D) : Option Bool := if tys.contains T then (match tyN x with
  | some t => some (isiB t T)
  | none => match x with
    | .ins c _ => if cls.contains c then some false else none
    | _ => none) else none
def isiC (cls : List String) (cl : String) (x : D) : Option Bool := if cls.contains cl then (match tyN x with
  | some _ => some false
  | none => match x with
    | .ins c _ => if cls.contains c then some (decide (c = cl)) else none
    | _ => none) else none
def dIsi (cls : List String) : List D → Option D
  | [x, .ty T] => (isiT cls T x).map D.bl
  | [x, .gl cl] => (isiC cls cl x).map D.bl
  | _ => none
section
variable {c : Stat}
theorem tyx_b {X : Cx} {W : WX} (z : Cz c X W) {F H : Hp} (e : Same F H) {x : V} {d : D} {t : String} (r : Dn c.K c.mg F x d) (h : tyN d = some t) : TyX X.K H x (.type t) := by
  cases r <;> simp only [tyN] at h <;> cases h
  · exact .base .non
  · exact .base (.bl _)
  · exact .base (.int _)
  · exact .base (.str _)
  · rename_i h1 _ _
    rcases h1 with (h1 | ⟨o, h1⟩) | ⟨o, its, n, h1, h2, _⟩
    · exact .base (.tup (e _ _ h1))
    · exact .fTuple (e _ _ h1)
    · exact .kTuple (by rw [z.K]; exact h1) h2
  · rename_i h1 _ _
    rcases h1 with h1 | ⟨o, h1⟩
    · exact .base (.lst (e _ _ h1))
    · exact .base (.frz (e _ _ h1))
  · rename_i h1 _ _
    exact .fDict (e _ _ h1)
theorem tyx_i {X : Cx} {W : WX} (z : Cz c X W) {F H : Hp} (e : Same F H) {x : V} {cl : String} {C : Addr} {fs : List (String × D)} (k : ClI c.toBase cl C) (r : Dn c.K c.mg F x (.ins cl fs)) : TyX X.K H x (.ref C) := by
  cases r
  rename_i h1 g _
  have := k.same g
  subst this
  exact .base (.ins (e _ _ h1) (by rw [z.K]; exact k.c) (by rw [z.K]; exact k.ha) (by rw [z.K]; exact k.hn) (by rw [z.K]; exact k.htk) (by rw [z.K]; exact k.hm))
theorem b_isi {cls : List String} (I : Isi c.toBase cls) : BCl c (.builtin "isinstance") (dIsi cls) := fun X W z => ⟨_, call_isi, by
  intro F H xs ds d Q s r e a
  unfold dIsi at e
  split at e
  · rename_i x T
    cases r with
    | cons r1 r =>
    cases r with
    | cons r2 r =>
    cases r
    cases r2
    obtain ⟨b, hb, rfl⟩ := Option.map_eq_some_iff.mp e
    unfold isiT at hb
    split at hb
    case isFalse => cases hb
    rename_i hT
    have hT : T ∈ tys := List.contains_iff_mem.mp hT
    split at hb
    · rename_i t ht
      cases hb
      exact ⟨_, _, _, _, _, rfl, .ty T, tyx_b z s r1 ht, by rw [z.K]; exact kit_ty (kit_all t (tyN_mem ht) T hT), a.here s (.bl _)⟩
    · split at hb
      · rename_i cl fs ht
        split at hb
        case isFalse => cases hb
        rename_i hcl
        have hcl : cl ∈ cls := List.contains_iff_mem.mp hcl
        cases hb
        obtain ⟨C, k⟩ := I.cl cl hcl
        exact ⟨_, _, _, _, _, rfl, .ty T, tyx_i z s k r1, by rw [z.K]; exact I.tb cl hcl C k.g T hT, a.here s (.bl _)⟩
      · cases hb
  · rename_i x cl'
    cases r with
    | cons r1 r =>
    cases r with
    | cons r2 r =>
    cases r
    cases r2
    rename_i C' hC'
    obtain ⟨b, hb, rfl⟩ := Option.map_eq_some_iff.mp e
    unfold isiC at hb
    split at hb
    case isFalse => cases hb
    rename_i hT
    have hT : cl' ∈ cls := List.contains_iff_mem.mp hT
    split at hb
    · rename_i t ht
      cases hb
      exact ⟨_, _, _, _, _, rfl, .own _, tyx_b z s r1 ht, by rw [z.K]; exact I.bt cl' hT C' hC' t (tyN_mem ht), a.here s (.bl _)⟩
    · split at hb
      · rename_i cl fs ht
        split at hb
        case isFalse => cases hb
        rename_i hcl
        have hcl : cl ∈ cls := List.contains_iff_mem.mp hcl
        cases hb
        obtain ⟨C, k⟩ := I.cl cl hcl
        exact ⟨_, _, _, _, _, rfl, .own _, tyx_i z s k r1, by rw [z.K]; exact I.cc cl hcl cl' hT C C' k.g hC', a.here s (.bl _)⟩
      · cases hb
  · cases e⟩
/-! ### a new list of its own -/
theorem call_list_str' {X : Cx} (hc : X.calm = true) : CallR X (.type "list") (fun xs H Q => ∃ cs : Cs, xs = [.str (toS cs)] ∧ cs.length ≤ sizeLine ∧ ∀ l, H l = none → Q (.ref l) (upd H l (.lst (cs.map fun n => V.str (toS [n]))))) := by
  intro pins s σ H xs us Q I r ⟨cs, ex, hl, q⟩
  subst ex
  obtain ⟨u, rfl, t, rfl⟩ := vals1 r
  refine call_list_str (I.ok.hd hc) (toS cs) t (fun h' tk acc' c' hk hS hi => ?_) (by simpa [toS] using hl)
  have hv : Vals (cs.map fun n => V.str (toS [n])) acc'.toList := by
    have key : ∀ (cs : Cs) (l : List Value), l.length = cs.length → (∀ (j : Nat) v, l[j]? = some v → ∃ n u, cs[j]? = some n ∧ v = .str ⟨#[n]⟩ u) → Vals (cs.map fun n => V.str (toS [n])) l := by
      intro cs
      induction cs with
      | nil => intro l h _; cases l with
        | nil => exact .nil
        | cons _ _ => cases h
      | cons n r ih =>
        intro l h hp
        cases l with
        | nil => cases h
        | cons v l =>
          obtain ⟨m, u, h1, h2⟩ := hp 0 v rfl
          cases h1
          exact .cons ⟨u, h2⟩ (ih l (by simpa using h) fun j w hw => hp (j + 1) w (by simpa using hw))
    refine key cs acc'.toList (by have := hi.1; simpa [toS] using this) fun j v hv => ?_
    obtain ⟨n, u, h1, h2⟩ := hi.2 j v (by simpa using hv)
    exact ⟨n, u, by simpa [toS] using h1, h2⟩
  exact ⟨.ref s.heap.objs.size, _, I.laid (t' := tk) hk (Nat.le_refl _) (show ObjOk X.prog X.w _ h' _ (.lst (cs.map fun n => V.str (toS [n]))) from ⟨by simpa using hl, acc'.toList, c', hv, hS⟩), rfl, q _ (I.hok.fresh (Nat.le_refl _))⟩
theorem ev_list {x : Str} {p pos : Pos} {e : Expr} {f : M D} (hx : x = "list") (hg : Gn c x) (hm : c.mg x = none) (he : ED c e f) (hst : ∀ env, starEach [e] env = [(false, eval e env)] := by intro _; rfl) (hc : c.hot = false := by first | rfl | assumption) : EV c (.Call (.Name x p) [e] [] pos) (owSeq f) := fun G X W z => by
  subst hx
  refine pe_imp (pe_callTy (CallR.or call_list_of (call_list_str' (z.calm hc))) (hg.gl z) (by rw [z.mg]; exact hm) PySem.Pv.boot_list (pa_cons (he G X W z) pa_nil (hst _)) (by decide) (by decide) (hst _) rfl) fun σ H Q ⟨F, ρ, R, q⟩ => ?_
  refine tG_bindV R q fun F1 H1 ρ1 v d s1 R1 rx q1 => ?_
  cases hd : dSeq d with
  | none => simp only [hd] at q1; exact q1.elim
  | some ds =>
    simp only [hd] at q1
    cases rx <;> simp only [dSeq] at hd <;> cases hd
    · rename_i cs h1
      refine .inr ⟨cs, rfl, by rw [sz_eq]; exact h1.1, fun p hp => ?_⟩
      obtain ⟨R2, s2⟩ := fresh_own (d := .lst (cs.map fun n => .str [n])) (o := .lst (cs.map fun n => V.str (toS [n]))) R1 hp ⟨_, upd_same, by
        have := dns_strs (K := c.K) (mg := c.mg) (F := F1) (cs := cs.map fun n => [n]) fun x hx => by
          obtain ⟨n, hn, rfl⟩ := List.mem_map.mp hx
          exact okS_one (h1.2 n hn)
        simpa [List.map_map, Function.comp_def] using this⟩
      exact q1 _ F1 _ (Same.refl _) R2 s2
    · rename_i h1 r1 l1
      refine .inl ⟨_, _, rfl, .inr (by rw [z.K]; exact same_t R1.fh h1), fun p hp => ?_⟩
      obtain ⟨R2, s2⟩ := fresh_own (d := .lst _) (o := .lst _) R1 hp ⟨_, upd_same, r1⟩
      exact q1 _ F1 _ (Same.refl _) R2 s2
    · rename_i h1 r1 l1
      refine .inl ⟨_, _, rfl, .inl (.inl (same_rd R1.fh h1)), fun p hp => ?_⟩
      obtain ⟨R2, s2⟩ := fresh_own (d := .lst _) (o := .lst _) R1 hp ⟨_, upd_same, r1⟩
      exact q1 _ F1 _ (Same.refl _) R2 s2
/-! ### the keys of a dict that stays as it is -/
def dOfK : DK → D
  | .i n => .int n
  | .s cs => .str cs
def dKeys : D → Option (List D)
  | .dct kvs => some (kvs.map fun kv => dOfK kv.1)
  | _ => none
def keysS (a : M D) : M (List D) := bnd a fun x => lift (dKeys x)
theorem dkv_key {K : PySem.W.Frag} {mg : Str → Option Value} {F : Hp} : ∀ {kvs : List (Key × V)} {kds : List (DK × D)} {i : Nat} {k : Key}, Dkv K mg F kvs kds → (kvs[i]?).map (·.1) = some k → ∃ j, (kds.map fun kv => dOfK kv.1)[i]? = some (dOfK j) ∧ Dn K mg F (kV k) (dOfK j)
  | _, _, _, _, .nil, h => by simp at h
  | _, _, 0, _, @Dkv.cons _ _ _ j _ _ _ _ ok _ _, h => by
    simp at h
    subst h
    refine ⟨j, rfl, ?_⟩
    cases j with
    | i n => exact .int n
    | s cs => exact .str cs ok
  | _, _, i + 1, k, .cons _ _ r, h => by
    obtain ⟨j, h1, h2⟩ := dkv_key (i := i) (k := k) r (by simpa using h)
    exact ⟨j, by simpa using h1, h2⟩
theorem walks_keys {F : Hp} {d : Addr} {o : Obj} {kvs : List (Key × V)} {kds : List (DK × D)} (h : F d = some (.frz o (.dK kvs))) (r : Dkv c.K c.mg F kvs kds) (hl : kds.length ≤ sz) : Walks c F (Itk d o kvs) (kds.map fun kv => dOfK kv.1) := by
  have hv := r.length
  refine walks_here (n := kvs.length) (by simp [hv]) (by rw [hv]; exact hl) (fun H1 => H1 d = some (.frz o (.dK kvs))) (fun F1 H1 s1 s2 => s2 _ _ (s1 _ _ h)) (fun i H1 p hi => ?_) (fun i H1 x H2 p hi y => ?_) (fun i H1 p hi => ?_)
  · exact ⟨p, hi⟩
  · obtain ⟨rfl, k, v, h1, rfl⟩ := y
    obtain ⟨j, q1, q2⟩ := dkv_key (k := k) r (by rw [h1]; rfl)
    exact ⟨rfl, _, q1, q2⟩
  · exact ⟨p, hi⟩
theorem ei_keys {tg e : Expr} {f : M D} (he : ED c e f) : EI c tg e (keysS f) := fun G X W z => by
  refine pi_imp (pi_any (he G X W z)) fun σ H R ⟨F, ρ, r, q⟩ => ?_
  refine tG_bind r q fun F1 H1 ρ1 x dx s1 R1 rx q1 => ?_
  obtain ⟨ds, e, k⟩ := q1.liftS R1
  cases rx <;> simp only [dKeys] at e <;> try cases e
  rename_i h1 r1 l1
  exact .inr (.inr (.inr ⟨_, _, _, rfl, R1.fh _ _ h1, k _ (walks_keys h1 r1 l1)⟩))
end
end DL

namespace DL
open PySem L2
/-! ### new instances -/
theorem make_guards {A : Around} {C : Addr} {us : List Value} {kw : List (Str × Value)} (h : A.guards = some []) : (A.under (.builtin "type.__call__" ⟨.ref C :: us, kw⟩)).guards = some [] := by
  unfold Around.under
  dsimp only
  rw [h]
  rfl
def pick {α : Type} (ix : List Nat) (l : List α) : List α := ix.filterMap fun (i : Nat) => l[i]?
/-- how a call with keywords binds -/
def KBx (fd : FuncData) (ps : List Str) (n : Nat) (ks : List Str) (ix : List Nat) : Prop := ∀ us ws : List Value, us.length = n → ws.length = ks.length → bindArgs fd ⟨us, ks.zip ws⟩ = pure (ps.zip (pick ix (us ++ ws))) ∧ (pick ix (us ++ ws)).length = ps.length
theorem vals_pick {vs : List V} {us : List Value} (r : Vals vs us) : ∀ ix : List Nat, Vals (pick ix vs) (pick ix us)
  | [] => .nil
  | i :: ix => by
    unfold pick
    simp only [List.filterMap_cons]
    have ih := vals_pick r ix
    unfold pick at ih
    have key : (∃ v u, vs[i]? = some v ∧ us[i]? = some u ∧ RelV v u) ∨ (vs[i]? = none ∧ us[i]? = none) := by
      clear ih
      induction r generalizing i with
      | nil => exact .inr ⟨rfl, rfl⟩
      | cons h _ ih2 =>
        cases i with
        | zero => exact .inl ⟨_, _, rfl, rfl, h⟩
        | succ i => simpa using ih2 i
    rcases key with ⟨v, u, h1, h2, h3⟩ | ⟨h1, h2⟩
    · rw [h1, h2]; exact .cons h3 ih
    · rw [h1, h2]; exact ih
theorem dns_pick {K : PySem.W.Frag} {mg : Str → Option Value} {F : Hp} {vs : List V} {ds : List D} (r : Dns K mg F vs ds) : ∀ ix : List Nat, Dns K mg F (pick ix vs) (pick ix ds)
  | [] => .nil
  | i :: ix => by
    unfold pick
    simp only [List.filterMap_cons]
    have ih := dns_pick r ix
    unfold pick at ih
    cases h : ds[i]? with
    | some d =>
      obtain ⟨v, h1, h2⟩ := r.get h
      rw [h1]
      exact .cons h2 ih
    | none =>
      have : vs[i]? = none := by
        rw [List.getElem?_eq_none_iff] at h ⊢
        rw [r.length]; exact h
      rw [this]
      exact ih
section
variable {X : Cx} {k : Nat} {C f : Addr} {fd : FuncData} {ps : List Str} {sp : Sp}
/-- C(..), by position and by name -/
theorem run_makeG {E : L2.St → XK} {n : Nat} {ks : List Str} {ix : List Nat} {pins : List (Addr × Obj)} {σ : L2.St} {H : Hp} {s : Shared} {Q : VK} {us ws : List Value} {vs zs : List V} (M : Mk X.K C f) (F : FnG X.prog X.w X.K X.mg X.base k f fd ps sp) (hr : Room (k + 1) X.A) (hg : X.A.guards = some []) (hb : KBx fd ps (n + 1) ks ix)
    (hx : PassesAt (L2.CX X.prog X.w) X σ (E σ)) (I : Inv X pins σ H s) (r : Vals vs us) (rz : Vals zs ws) (l1 : vs.length = n) (l2 : zs.length = ks.length)
    (h : ∀ x dx, H x = none → H dx = none → dx ≠ x → sp (pick ix ((.ref x :: vs) ++ zs)) (upd (upd H dx (.own x)) x (.ins C dx [])) (fun v H2 => v = .non ∧ Q (.ref x) H2) (E σ)) :
    wpAny (model X.prog X.w) X.A (call (.ref C) us (ks.zip ws)) (EP X pins σ Q) X.xe s := by
  have hq := h (s.heap.objs.size + 1) s.heap.objs.size (I.hok.fresh (Nat.le_succ _)) (I.hok.fresh (Nat.le_refl _)) (Nat.ne_of_lt (Nat.lt_succ_self _))
  have I2 := Inv.made (C := C) I
  have r1 : Vals (V.ref (s.heap.objs.size + 1) :: vs) (Value.ref (s.heap.objs.size + 1) :: us) := .cons rfl r
  obtain ⟨b1, b2⟩ := hb (Value.ref (s.heap.objs.size + 1) :: us) ws (by rw [List.length_cons, ← r.length, l1]) (rz.length.symm.trans l2)
  refine wpAny_call (make_map (f := f) I.kIn M.makes M.init (beq_iff_eq.mp M.fn) (codeAny_mono (F.run _ X.stack _ _ ⟨Value.ref (s.heap.objs.size + 1) :: us, ks.zip ws⟩ _ _ _ (E σ) (hr.make C us (ks.zip ws)) (make_guards hg)
    (I2.env0.make C us (ks.zip ws)) (.of_eq b1) (vals_pick (r1.append rz) ix) hq) fun r s' hq' => ?_))
  have q := CR.end_ I2 hx hq'
  cases r with
  | error e => exact q
  | ok fl =>
    cases fl with
    | ret u =>
      obtain ⟨v, H', I3, rv, ev, q3⟩ := q
      subst ev
      exact ⟨rv, ⟨V.ref (s.heap.objs.size + 1), H', I3, rfl, q3⟩⟩
    | next => exact False.elim q
    | brk => exact False.elim q
    | cont => exact False.elim q
def tMakeG (C : Addr) (n m : Nat) (ix : List Nat) (sp : Sp) (E : L2.St → XK) (t tk : TA) : TE := fun σ H Q => t σ H fun vs H1 => tk σ H1 fun zs H2 => vs.length = n ∧ zs.length = m ∧ ∀ x dx, H2 x = none → H2 dx = none → dx ≠ x →
  sp (pick ix ((.ref x :: vs) ++ zs)) (upd (upd H2 dx (.own x)) x (.ins C dx [])) (fun v H3 => v = .non ∧ Q (.ref x) H3) (E σ)
theorem pe_makeG {E : L2.St → XK} {n : Nat} {ks : List Str} {ix : List Nat} {x : Str} {p pos : Pos} {e : Expr} {es : List Expr} {kws : List Keyword} {t tk : TA} (M : Mk X.K C f) (F : FnG X.prog X.w X.K X.mg X.base k f fd ps sp) (hr : Room (k + 1) X.A) (hgd : X.A.guards = some []) (hg : Gl X x) (hm : X.mg x = some (.ref C)) (hb : KBx fd ps (n + 1) ks ix) (hx : ∀ σ, PassesAt (L2.CX X.prog X.w) X σ (E σ)) (ha : PA X (e :: es) t) (hkw : PK X kws tk)
    (hall : (backToKw pos (keywordEach kws X.env)).all (·.1.isSome) = true) (hks : (backToKw pos (keywordEach kws X.env)).filterMap (·.1) = ks) (hdb : (x == ("__debug__" : Str)) = false)
    (he : starEach (e :: es) X.env = (false, eval e X.env) :: starEach es X.env) (hpl : ((backTo pos (starEach (e :: es) X.env)).any (·.1) || (backToKw pos (keywordEach kws X.env)).any (·.1.isNone)) = false) :
    PE X (.Call (.Name x p) (e :: es) kws pos) (tMakeG C n ks.length ix sp E t tk) := by
  refine ⟨fun pins s σ H Q I h => ?_⟩
  refine wpAny_Call_Name_kw (ld_glob I hg hm ?_ hdb)
  refine PySem.W.callWith_KW (h₀ := X.base) I.ok.mod.kin M.kp hall (thn (ha.run pos pins s σ H _ I h) fun us s1 ⟨vs, H1, I1, r, q⟩ => ?_) hpl he
  refine thn (hkw.run pos pins s1 σ H1 _ I1 q) fun ws s2 ⟨zs, H2, I2, rz, l1, l2, q2⟩ => ⟨I2.kIn, ?_⟩
  rw [hks]
  exact run_makeG M F hr hgd hb (hx σ) I2 r rz l1 l2 q2
theorem pe_makeG0 {E : L2.St → XK} {ks : List Str} {ix : List Nat} {x : Str} {p pos : Pos} {kws : List Keyword} {tk : TA} (M : Mk X.K C f) (F : FnG X.prog X.w X.K X.mg X.base k f fd ps sp) (hr : Room (k + 1) X.A) (hgd : X.A.guards = some []) (hg : Gl X x) (hm : X.mg x = some (.ref C)) (hb : KBx fd ps 1 ks ix) (hx : ∀ σ, PassesAt (L2.CX X.prog X.w) X σ (E σ)) (hkw : PK X kws tk)
    (hall : (backToKw pos (keywordEach kws X.env)).all (·.1.isSome) = true) (hks : (backToKw pos (keywordEach kws X.env)).filterMap (·.1) = ks) (hdb : (x == ("__debug__" : Str)) = false)
    (hpl : ((backTo pos (starEach [] X.env)).any (·.1) || (backToKw pos (keywordEach kws X.env)).any (·.1.isNone)) = false) :
    PE X (.Call (.Name x p) [] kws pos) (tMakeG C 0 ks.length ix sp E tNil tk) := by
  refine ⟨fun pins s σ H Q I h => ?_⟩
  refine wpAny_Call_Name_kw (ld_glob I hg hm ?_ hdb)
  refine PySem.W.callWith_KW0 (h₀ := X.base) I.ok.mod.kin M.kp hall ?_ hpl
  refine thn (hkw.run pos pins s σ H _ I h) fun ws s2 ⟨zs, H2, I2, rz, l1, l2, q2⟩ => ⟨I2.kIn, ?_⟩
  rw [hks]
  exact run_makeG (us := []) (vs := []) M F hr hgd hb (hx σ) I2 .nil rz rfl l2 q2
/-- f(..), by position and by name -/
theorem run_fnK {E : L2.St → XK} {n : Nat} {ks : List Str} {ix : List Nat} {pins : List (Addr × Obj)} {σ : L2.St} {H : Hp} {s : Shared} {Q : VK} {us ws : List Value} {vs zs : List V} (F : FnG X.prog X.w X.K X.mg X.base k f fd ps sp) (hr : Room k X.A) (hg : X.A.guards = some []) (hb : KBx fd ps n ks ix)
    (hx : PassesAt (L2.CX X.prog X.w) X σ (E σ)) (I : Inv X pins σ H s) (r : Vals vs us) (rz : Vals zs ws) (l1 : vs.length = n) (l2 : zs.length = ks.length) (h : sp (pick ix (vs ++ zs)) H Q (E σ)) :
    wpAny (model X.prog X.w) X.A (call (.ref f) us (ks.zip ws)) (EP X pins σ Q) X.xe s := by
  obtain ⟨b1, b2⟩ := hb us ws (by rw [← r.length, l1]) (rz.length.symm.trans l2)
  refine wpAny_call (codeAny_mono (F.run X.A X.stack s H ⟨us, ks.zip ws⟩ _ _ Q (E σ) hr hg I.env0 (.of_eq b1) (vals_pick (r.append rz) ix) h) fun r s' hq => ?_)
  have q := CR.end_ I hx hq
  cases r with
  | error e => exact q
  | ok fl => cases fl <;> exact q
def tCallG (n m : Nat) (ix : List Nat) (sp : Sp) (E : L2.St → XK) (t tk : TA) : TE := fun σ H Q => t σ H fun vs H1 => tk σ H1 fun zs H2 => vs.length = n ∧ zs.length = m ∧ sp (pick ix (vs ++ zs)) H2 Q (E σ)
theorem pe_callKG {E : L2.St → XK} {n : Nat} {ks : List Str} {ix : List Nat} {x : Str} {p pos : Pos} {e : Expr} {es : List Expr} {kws : List Keyword} {t tk : TA} (F : FnG X.prog X.w X.K X.mg X.base k f fd ps sp) (hr : Room k X.A) (hgd : X.A.guards = some []) (hg : Gl X x) (hm : X.mg x = some (.ref f)) (hk : PySem.W.keepIn X.K (.ref f) = true) (hb : KBx fd ps n ks ix) (hx : ∀ σ, PassesAt (L2.CX X.prog X.w) X σ (E σ)) (ha : PA X (e :: es) t) (hkw : PK X kws tk)
    (hall : (backToKw pos (keywordEach kws X.env)).all (·.1.isSome) = true) (hks : (backToKw pos (keywordEach kws X.env)).filterMap (·.1) = ks) (hdb : (x == ("__debug__" : Str)) = false)
    (he : starEach (e :: es) X.env = (false, eval e X.env) :: starEach es X.env) (hpl : ((backTo pos (starEach (e :: es) X.env)).any (·.1) || (backToKw pos (keywordEach kws X.env)).any (·.1.isNone)) = false) :
    PE X (.Call (.Name x p) (e :: es) kws pos) (tCallG n ks.length ix sp E t tk) := by
  refine ⟨fun pins s σ H Q I h => ?_⟩
  refine wpAny_Call_Name_kw (ld_glob I hg hm ?_ hdb)
  refine PySem.W.callWith_KW (h₀ := X.base) I.ok.mod.kin hk hall (thn (ha.run pos pins s σ H _ I h) fun us s1 ⟨vs, H1, I1, r, q⟩ => ?_) hpl he
  refine thn (hkw.run pos pins s1 σ H1 _ I1 q) fun ws s2 ⟨zs, H2, I2, rz, l1, l2, q2⟩ => ⟨I2.kIn, ?_⟩
  rw [hks]
  exact run_fnK F hr hgd hb (hx σ) I2 r rz l1 l2 q2
theorem pe_callKG0 {E : L2.St → XK} {ks : List Str} {ix : List Nat} {x : Str} {p pos : Pos} {kws : List Keyword} {tk : TA} (F : FnG X.prog X.w X.K X.mg X.base k f fd ps sp) (hr : Room k X.A) (hgd : X.A.guards = some []) (hg : Gl X x) (hm : X.mg x = some (.ref f)) (hk : PySem.W.keepIn X.K (.ref f) = true) (hb : KBx fd ps 0 ks ix) (hx : ∀ σ, PassesAt (L2.CX X.prog X.w) X σ (E σ)) (hkw : PK X kws tk)
    (hall : (backToKw pos (keywordEach kws X.env)).all (·.1.isSome) = true) (hks : (backToKw pos (keywordEach kws X.env)).filterMap (·.1) = ks) (hdb : (x == ("__debug__" : Str)) = false)
    (hpl : ((backTo pos (starEach [] X.env)).any (·.1) || (backToKw pos (keywordEach kws X.env)).any (·.1.isNone)) = false) :
    PE X (.Call (.Name x p) [] kws pos) (tCallG 0 ks.length ix sp E tNil tk) := by
  refine ⟨fun pins s σ H Q I h => ?_⟩
  refine wpAny_Call_Name_kw (ld_glob I hg hm ?_ hdb)
  refine PySem.W.callWith_KW0 (h₀ := X.base) I.ok.mod.kin hk hall ?_ hpl
  refine thn (hkw.run pos pins s σ H _ I h) fun ws s2 ⟨zs, H2, I2, rz, l1, l2, q2⟩ => ⟨I2.kIn, ?_⟩
  rw [hks]
  exact run_fnK (us := []) (vs := []) F hr hgd hb (hx σ) I2 .nil rz rfl l2 q2
end
section
variable {c : Stat}
/-! ### keywords, by data -/
def EK (c : Stat) (kws : List Keyword) (m : M (List D)) : Prop := ∀ G X W, Cz c X W → PK X kws (tA c G W m)
theorem pk_imp {X : Cx} {e : List Keyword} {t t' : TA} (h : PK X e t) (i : ∀ σ H Q, t' σ H Q → t σ H Q) : PK X e t' := ⟨fun pos pins s σ H Q I q => h.run pos pins s σ H Q I (i _ _ _ q)⟩
theorem ek_nil : EK c [] args0 := fun G X W z => pk_imp pk_nil fun σ H Q ⟨F, ρ, R, q⟩ => q [] F H (Same.refl _) R .nil
theorem ek_cons {nm : Option Str} {kpos : Pos} {e : Expr} {kws : List Keyword} {f : M D} {g : M (List D)} (ha : ED c e f) (hr : EK c kws g) : EK c (⟨nm, e, kpos⟩ :: kws) (argc f g) := fun G X W z => by
  refine pk_imp (pk_cons (ha G X W z) (hr G X W z)) fun σ H Q ⟨F, ρ, R, q⟩ => ?_
  refine tG_bind R q fun F1 H1 ρ1 x dx s1 R1 rx q1 => ?_
  refine tG_bind R1 q1 fun F2 H2 ρ2 xs ds s2 R2 rxs q2 => ?_
  exact q2 (x :: xs) F2 H2 (Same.refl _) R2 (.cons (rx.mono s2) rxs)
/-- what is between the keywords of a call and its names -/
def KwOk (kws : List Keyword) (ks : List Str) (pos : Pos) : Prop := ∀ env, (backToKw pos (keywordEach kws env)).all (·.1.isSome) = true ∧ (backToKw pos (keywordEach kws env)).filterMap (·.1) = ks ∧ (backToKw pos (keywordEach kws env)).any (·.1.isNone) = false
def Few (es : List Expr) (pos : Pos) : Prop := ∀ env, (backTo pos (starEach es env)).any (·.1) = false
structure CalK (b : Base) (k : Nat) (x : Str) (n : Nat) (ks : List Str) (ix : List Nat) (g : List D → OutF) : Prop where
  ex : ∃ f fd ps, FnG b.P b.w b.K b.mg b.base k f fd ps (spF b [] g) ∧ b.mg x = some (.ref f) ∧ PySem.W.keepIn b.K (.ref f) = true ∧ KBx fd ps n ks ix
def calK (g : List D → OutF) (n m : Nat) (ix : List Nat) (a kw : M (List D)) : M D := bnd a fun ds => bnd kw fun es ρ => if ds.length = n ∧ es.length = m then (match g (pick ix (ds ++ es)) with
  | .ok d _ => .ok d ρ
  | .err x _ => .err x ρ
  | _ => .bad) else .bad
theorem post_calK {G : Ent} {W : WX} {σ : L2.St} {H F : Hp} {ρ : En} {n m : Nat} {ix : List Nat} {vs zs : List V} {ds es : List D} {g : List D → OutF} {Q : VK} (R : Rel c.K c.mg c.xt G F H σ ρ) (r : Dns c.K c.mg F vs ds) (rz : Dns c.K c.mg F zs es)
    (q : Post (Dn c.K c.mg) c G W F σ (if ds.length = n ∧ es.length = m then (match g (pick ix (ds ++ es)) with
      | .ok d _ => .ok d ρ
      | .err x _ => .err x ρ
      | _ => .bad) else .bad : Out D) Q) : vs.length = n ∧ zs.length = m ∧ spF c.toBase [] g (pick ix (vs ++ zs)) H Q (WE W σ) := by
  split at q
  case isFalse => exact q.elim
  rename_i h
  exact ⟨by rw [r.length]; exact h.1, by rw [rz.length]; exact h.2, post_cal R (dns_pick (r.append rz) ix) q⟩
theorem ed_calK {k n : Nat} {x : Str} {ks : List Str} {ix : List Nat} {g : List D → OutF} {e : Expr} {es : List Expr} {kws : List Keyword} {f fk : M (List D)} {p pos : Pos} (cl : CalK c.toBase k x n ks ix g) (hk : k ≤ c.k) (hg : Gn c x) (ha : EA c (e :: es) f) (hkw : EK c kws fk) (ok : KwOk kws ks pos)
    (hdb : (x == ("__debug__" : Str)) = false := by decide) (he : ∀ env, starEach (e :: es) env = (false, eval e env) :: starEach es env := by intro _; rfl) (hpl : Few (e :: es) pos := by intro _; rfl) (hc : c.hot = false := by first | rfl | assumption) : ED c (.Call (.Name x p) (e :: es) kws pos) (calK g n ks.length ix f fk) := fun G X W z => by
  obtain ⟨fa, fd, ps, F, hm, kp, hb⟩ := cl.ex
  have F' : FnG X.prog X.w X.K X.mg X.base k fa fd ps (spF c.toBase [] g) := by rw [z.P, z.w, z.K, z.mg, z.base]; exact F
  obtain ⟨o1, o2, o3⟩ := ok X.env
  refine pe_imp (pe_callKG F' ((z.cold hc).mono hk) z.gd (hg.gl z) (by rw [z.mg]; exact hm) (by rw [z.K]; exact kp) hb (fun σ => passAt z.tk σ) (ha G X W z) (hkw G X W z) o1 o2 hdb (he _) (by rw [hpl, o3]; rfl)) fun σ H Q ⟨F0, ρ, R, q⟩ => ?_
  refine tG_bind R q fun F1 H1 ρ1 vs ds s1 R1 rx q1 => ?_
  refine tG_bind R1 q1 fun F2 H2 ρ2 zs es s2 R2 rz q2 => ?_
  exact post_calK R2 (rx.mono s2) rz q2
theorem ed_calK0 {k : Nat} {x : Str} {ks : List Str} {ix : List Nat} {g : List D → OutF} {kws : List Keyword} {fk : M (List D)} {p pos : Pos} (cl : CalK c.toBase k x 0 ks ix g) (hk : k ≤ c.k) (hg : Gn c x) (hkw : EK c kws fk) (ok : KwOk kws ks pos)
    (hdb : (x == ("__debug__" : Str)) = false := by decide) (hc : c.hot = false := by first | rfl | assumption) : ED c (.Call (.Name x p) [] kws pos) (calK g 0 ks.length ix args0 fk) := fun G X W z => by
  obtain ⟨fa, fd, ps, F, hm, kp, hb⟩ := cl.ex
  have F' : FnG X.prog X.w X.K X.mg X.base k fa fd ps (spF c.toBase [] g) := by rw [z.P, z.w, z.K, z.mg, z.base]; exact F
  obtain ⟨o1, o2, o3⟩ := ok X.env
  refine pe_imp (pe_callKG0 F' ((z.cold hc).mono hk) z.gd (hg.gl z) (by rw [z.mg]; exact hm) (by rw [z.K]; exact kp) hb (fun σ => passAt z.tk σ) (hkw G X W z) o1 o2 hdb (by rw [o3]; rfl)) fun σ H Q ⟨F0, ρ, R, q⟩ => ?_
  refine tG_bind R (show Post (Dn c.K c.mg) c G W F0 σ (bnd fk _ ρ) Q from q) fun F2 H2 ρ2 zs es s2 R2 rz q2 => ?_
  exact post_calK (vs := []) (ds := []) (n := 0) R2 .nil rz q2
/-! ### new instances, by data -/
structure MakK (b : Base) (k : Nat) (cl : String) (n : Nat) (ks : List Str) (ix : List Nat) (g : List D → OutF) : Prop where
  ex : ∃ C f fd ps, ClD b cl C ∧ Mk b.K C f ∧ FnG b.P b.w b.K b.mg b.base k f fd ps (spF b [0] g) ∧ KBx fd ps (n + 1) ks ix
/-- the new thing first -/
def mkM (cl : String) (g : List D → OutF) (n m : Nat) (ix : List Nat) (a kw : M (List D)) : M D := bnd a fun ds => bnd kw fun es ρ => if ds.length = n ∧ es.length = m ∧ ix.head? = some 0 ∧ ix.tail.contains 0 = false then (match g (pick ix ((.ins cl [] :: ds) ++ es)) with
  | .ok .non [.ins cl' fs] => if cl' = cl then .ok (.ins cl fs) ρ else .bad
  | .err x _ => .err x ρ
  | _ => .bad) else .bad
theorem pick_cons {α : Type} {ix : List Nat} {x : α} {l : List α} (h : ix.head? = some 0) : pick ix (x :: l) = x :: pick ix.tail (x :: l) := by
  cases ix with
  | nil => cases h
  | cons i r => cases h; rfl
theorem pick_tail {α : Type} {ix : List Nat} {x y : α} {l : List α} (h : ix.contains 0 = false) : pick ix (x :: l) = pick ix (y :: l) := by
  induction ix with
  | nil => rfl
  | cons i r ih =>
    cases i with
    | zero => simp at h
    | succ i =>
      have h' : r.contains 0 = false := by simpa using h
      unfold pick at ih ⊢
      simp only [List.filterMap_cons, List.getElem?_cons_succ]
      rw [ih h']
theorem post_mk {G : Ent} {W : WX} {σ : L2.St} {H F : Hp} {ρ : En} {cl : String} {C : Addr} {n m : Nat} {ix : List Nat} {vs zs : List V} {ds es : List D} {g : List D → OutF} {Q : VK} (k : ClD c.toBase cl C) (R : Rel c.K c.mg c.xt G F H σ ρ) (r : Dns c.K c.mg F vs ds) (rz : Dns c.K c.mg F zs es)
    (q : Post (Dn c.K c.mg) c G W F σ (if ds.length = n ∧ es.length = m ∧ ix.head? = some 0 ∧ ix.tail.contains 0 = false then (match g (pick ix ((.ins cl [] :: ds) ++ es)) with
      | .ok .non [.ins cl' fs] => if cl' = cl then .ok (.ins cl fs) ρ else .bad
      | .err x _ => .err x ρ
      | _ => .bad) else .bad : Out D) Q) : vs.length = n ∧ zs.length = m ∧ ∀ x dx, H x = none → H dx = none → dx ≠ x →
      spF c.toBase [0] g (pick ix ((.ref x :: vs) ++ zs)) (upd (upd H dx (.own x)) x (.ins C dx [])) (fun v H3 => v = .non ∧ Q (.ref x) H3) (WE W σ) := by
  split at q
  case isFalse => exact q.elim
  rename_i h
  obtain ⟨h1, h2, h3, h4⟩ := h
  refine ⟨by rw [r.length]; exact h1, by rw [rz.length]; exact h2, fun x dx hx hdx hne => ?_⟩
  have hnew : ∀ b o, H b = some o → b ≠ x ∧ b ≠ dx := fun b o e => ⟨ne_of_none e hx, ne_of_none e hdx⟩
  have hH : Same H (upd (upd H dx (.own x)) x (.ins C dx [])) := fun b o e => by
    obtain ⟨q1, q2⟩ := hnew b o e
    rw [upd_ne q1, upd_ne q2]; exact e
  have sF := R.fh.trans hH
  have fx : F x = none := R.fh.free hx
  rw [List.cons_append, pick_cons h3] at *
  have er : pick ix.tail (V.ref x :: (vs ++ zs)) = pick ix.tail (V.non :: (vs ++ zs)) := pick_tail h4
  have ed : pick ix.tail (D.ins cl [] :: (ds ++ es)) = pick ix.tail (D.non :: (ds ++ es)) := pick_tail h4
  have rr : Dns c.K c.mg F (pick ix.tail (V.ref x :: (vs ++ zs))) (pick ix.tail (D.ins cl [] :: (ds ++ es))) := by
    rw [er, ed]
    exact dns_pick (.cons .non (r.append rz)) _
  generalize pick ix.tail (V.ref x :: (vs ++ zs)) = ws at rr
  generalize pick ix.tail (D.ins cl [] :: (ds ++ es)) = fs0 at rr q
  refine ⟨F, .ins cl [] :: fs0, sF, ⟨by simp [rr.length], fun i v d hi q1 q2 => ?_, fun i d hi q1 => ?_, fun i j y hij hi hj => ?_, ⟨R.tb.t.ext hH, R.tb.n⟩⟩, ?_⟩
  · cases i with
    | zero => exact absurd List.mem_cons_self hi
    | succ i =>
      simp at q1 q2
      obtain ⟨v', p1, p2⟩ := rr.get q2
      rw [q1] at p1; cases p1
      exact p2
  · have hi0 : i = 0 := by simpa using hi
    subst hi0
    simp at q1
    subst q1
    exact ⟨x, rfl, fx, C, dx, [], k.g, upd_same, .nil⟩
  · have hi0 : i = 0 := by simpa using hi
    have hj0 : j = 0 := by simpa using hj
    omega
  have ext : ∀ {es' : List D} {F' H' : Hp}, Fin c.toBase F (upd (upd H dx (.own x)) x (.ins C dx [])) [0] (V.ref x :: ws) es' F' H' → Fin c.toBase F H [] [] [] F' H' := fun {es' F' H'} f =>
    { ff := f.ff, fh := f.fh, tb := f.tb, tbs := fun b ps e => f.tbs b ps (hH b _ e), io := fun k i e q _ => by simp at q
      kept := fun b o e ht _ => by
        refine f.kept b o (hH b o e) ht fun i hi zz => ?_
        have hi0 : i = 0 := by simpa using hi
        subst hi0
        simp at zz
        exact (hnew b o e).1 zz.symm
      nn := fun b hb => f.nn b (by
        cases e : H b with
        | none => exact absurd e hb
        | some o => rw [hH b o e]; exact nofun) }
  cases e : g (.ins cl [] :: fs0) with
  | bad => simp only [e] at q; exact q
  | oko d es' => simp only [e] at q; exact q.elim
  | err y es' =>
    simp only [e] at q
    exact fun cls dd F' H' f xr => q F' H' cls dd f.ff (R.fin (ext f)) xr
  | ok d es' =>
    simp only [e] at q
    intro v F' H' f rv
    split at q
    · rename_i cl' fs' heq
      cases heq
      split at q
      case isFalse => exact q.elim
      rename_i hcl
      subst hcl
      cases rv
      refine ⟨rfl, ?_⟩
      obtain ⟨a, q1, q2, C', dx', vs', g1, q3, q4⟩ := f.io 0 0 _ rfl rfl
      simp at q1
      subst q1
      have := k.same g1
      subst this
      have ex := ext f
      have sF' : Same F' (upd F' x (.ins C' dx' vs')) := fun b o e => by rw [upd_ne (ne_of_none e q2)]; exact e
      have ex2 : Fin c.toBase F H [] [] [] (upd F' x (.ins C' dx' vs')) H' :=
        { ff := ex.ff.trans sF', tb := ex.tb.updF (.ins q3), tbs := ex.tbs, kept := ex.kept, io := fun k i e q _ => by simp at q
          fh := fun b o e => by
            by_cases hb : b = x
            · subst hb; rw [upd_same] at e; cases e; exact q3
            · rw [upd_ne hb] at e; exact ex.fh b o e
          nn := fun b hb => by
            have : b ≠ x := fun z => by subst z; exact hb hx
            rw [upd_ne this]; exact ex.nn b hb }
      exact q (.ref x) _ H' ex2.ff (R.fin ex2) (.ins g1 upd_same (q4.mono sF'))
    · rename_i heq
      cases heq
    · exact q.elim
theorem ed_mk {k n : Nat} {x : String} {ks : List Str} {ix : List Nat} {g : List D → OutF} {e : Expr} {es : List Expr} {kws : List Keyword} {f fk : M (List D)} {p pos : Pos} (cl : MakK c.toBase k x n ks ix g) (hk : k + 1 ≤ c.k) (hg : Gn c (Str.ofString x)) (ha : EA c (e :: es) f) (hkw : EK c kws fk) (ok : KwOk kws ks pos)
    (hdb : (Str.ofString x == ("__debug__" : Str)) = false := by decide) (he : ∀ env, starEach (e :: es) env = (false, eval e env) :: starEach es env := by intro _; rfl) (hpl : Few (e :: es) pos := by intro _; rfl) (hc : c.hot = false := by first | rfl | assumption) : ED c (.Call (.Name (Str.ofString x) p) (e :: es) kws pos) (mkM x g n ks.length ix f fk) := fun G X W z => by
  obtain ⟨C, fa, fd, ps, kc, M, F, hb⟩ := cl.ex
  have F' : FnG X.prog X.w X.K X.mg X.base k fa fd ps (spF c.toBase [0] g) := by rw [z.P, z.w, z.K, z.mg, z.base]; exact F
  obtain ⟨o1, o2, o3⟩ := ok X.env
  refine pe_imp (pe_makeG (by rw [z.K]; exact M) F' ((z.cold hc).mono hk) z.gd (hg.gl z) (by rw [z.mg]; exact kc.g) hb (fun σ => passAt z.tk σ) (ha G X W z) (hkw G X W z) o1 o2 hdb (he _) (by rw [hpl, o3]; rfl)) fun σ H Q ⟨F0, ρ, R, q⟩ => ?_
  refine tG_bind R q fun F1 H1 ρ1 vs ds s1 R1 rx q1 => ?_
  refine tG_bind R1 q1 fun F2 H2 ρ2 zs es s2 R2 rz q2 => ?_
  exact post_mk kc R2 (rx.mono s2) rz q2
theorem ed_mk0 {k : Nat} {x : String} {ks : List Str} {ix : List Nat} {g : List D → OutF} {kws : List Keyword} {fk : M (List D)} {p pos : Pos} (cl : MakK c.toBase k x 0 ks ix g) (hk : k + 1 ≤ c.k) (hg : Gn c (Str.ofString x)) (hkw : EK c kws fk) (ok : KwOk kws ks pos)
    (hdb : (Str.ofString x == ("__debug__" : Str)) = false := by decide) (hc : c.hot = false := by first | rfl | assumption) : ED c (.Call (.Name (Str.ofString x) p) [] kws pos) (mkM x g 0 ks.length ix args0 fk) := fun G X W z => by
  obtain ⟨C, fa, fd, ps, kc, M, F, hb⟩ := cl.ex
  have F' : FnG X.prog X.w X.K X.mg X.base k fa fd ps (spF c.toBase [0] g) := by rw [z.P, z.w, z.K, z.mg, z.base]; exact F
  obtain ⟨o1, o2, o3⟩ := ok X.env
  refine pe_imp (pe_makeG0 (by rw [z.K]; exact M) F' ((z.cold hc).mono hk) z.gd (hg.gl z) (by rw [z.mg]; exact kc.g) hb (fun σ => passAt z.tk σ) (hkw G X W z) o1 o2 hdb (by rw [o3]; rfl)) fun σ H Q ⟨F0, ρ, R, q⟩ => ?_
  refine tG_bind R (show Post (Dn c.K c.mg) c G W F0 σ (bnd fk _ ρ) Q from q) fun F2 H2 ρ2 zs es s2 R2 rz q2 => ?_
  exact post_mk (vs := []) (ds := []) (n := 0) kc R2 .nil rz q2
end
end DL

namespace DL
open PySem L2
section
variable {c : Stat}
/-! ### a call with a new thing of its own -/
def calV (g : List D → OutF) (a : M Sl) : M D := bnd a fun s ρ => match s with
  | .ow j => (match g [j] with
    | .ok d [_] => .ok d ρ
    | .err x [_] => .err x ρ
    | _ => .bad)
  | _ => .bad
theorem tV_bind {α β : Type} {R2 : Hp → β → α → Prop} {G : Ent} {W : WX} {σ : L2.St} {H : Hp} {m : M Sl} {f : Sl → M α} {k : V → Hp → Prop} {Q : β → Hp → Prop} {F : Hp} {ρ : En} (r : Rel c.K c.mg c.xt G F H σ ρ) (h : Post R2 c G W F σ (bnd m f ρ) Q)
    (hk : ∀ F' H1 ρ' v s, Same F F' → Rel c.K c.mg c.xt G F' H1 σ ρ' → SlAt c G F' H1 σ ρ' v s → Post R2 c G W F' σ (f s ρ') Q → k v H1) : tV c G W m σ H k := by
  refine ⟨F, ρ, r, ?_⟩
  unfold bnd at h
  cases e : m ρ with
  | bad => rw [e] at h; exact h
  | err x ρ' => rw [e] at h; exact h
  | ok a ρ' =>
    rw [e] at h
    exact fun b F' H' s r' rb => hk F' H' ρ' b a s r' rb (Post.mono s h)
theorem ed_calV {k : Nat} {x : Str} {g : List D → OutF} {e : Expr} {f : M Sl} {p pos : Pos} (cl : Cal c.toBase k x [0] g) (hk : k ≤ c.k) (hg : Gn c x) (ha : EV c e f) (hdb : (x == ("__debug__" : Str)) = false := by decide)
    (he : ∀ env, starEach [e] env = [(false, eval e env)] := by intro _; rfl) (hc : c.hot = false := by first | rfl | assumption) : ED c (.Call (.Name x p) [e] [] pos) (calV g f) := fun G X W z => by
  obtain ⟨fa, fd, ps, F, hm, kp, hb⟩ := cl.ex
  have F' : FnG X.prog X.w X.K X.mg X.base k fa fd ps (spF c.toBase [0] g) := by rw [z.P, z.w, z.K, z.mg, z.base]; exact F
  refine pe_imp (pe_callG F' ((z.cold hc).mono hk) z.gd (hg.gl z) (by rw [z.mg]; exact hm) (by rw [z.K]; exact kp) (by rw [z.K]; exact hb) (fun σ => passAt z.tk σ) (pa_cons (ha G X W z) pa_nil (he _)) hdb (he _) rfl) fun σ H Q ⟨F0, ρ, R, q⟩ => ?_
  refine tV_bind R q fun F1 H1 ρ1 v s s1 R1 rv q1 => ?_
  cases s with
  | un => exact q1.elim
  | xc _ => exact q1.elim
  | fz d => exact q1.elim
  | ow j =>
  obtain ⟨a, rfl, ow, no⟩ := rv
  have h0 : G.H0 a = none := by
    rcases ow.nh with zz | ⟨p, pm, zz⟩
    · exact zz
    · exfalso
      obtain ⟨d, hd⟩ := R1.pw p pm
      refine no p.1 d hd ?_
      rw [R1.par p pm, zz]
  have keep : ∀ {es : List D} {F' H' : Hp}, Fin c.toBase F1 H1 [0] [V.ref a] es F' H' → Rel c.K c.mg c.xt G F' H' σ ρ1 := fun {es F' H'} f => by
    have kp : ∀ x o, x ≠ a → (∀ ps, o ≠ .tbl ps) → H1 x = some o → H' x = some o := fun x o hx ht hh => f.kept x o hh ht fun i hi zz => by
      have hi0 : i = 0 := by simpa using hi
      subst hi0
      simp at zz
      exact hx zz.symm
    refine ⟨R1.f0.trans f.ff, f.fh, fun b o hb ht hp => kp b o (fun zz => by subst zz; rw [h0] at hb; cases hb) ht (R1.kept b o hb ht hp), R1.par, fun i d hi => ?_, fun i d hi => ?_, R1.ne, R1.len, R1.pw, fun b hb => ?_, (fun b ps h => let ⟨qs, q⟩ := R1.tbs b ps h; f.tbs b qs q), f.tb, xcMono' f.ff R1.xc⟩
    · obtain ⟨w, h1, h2⟩ := R1.fz i d hi
      exact ⟨w, h1, h2.mono f.ff⟩
    · obtain ⟨w, h1, h2⟩ := R1.ow i d hi
      have hx : w ≠ a := fun zz => no i d hi (by rw [← zz]; exact h1)
      exact ⟨w, h1, ⟨by rw [f.nn w h2.at_.some]; exact h2.nf, h2.nh, h2.at_.mono' f.ff fun o ht zz => kp w o hx ht zz⟩⟩
    · rw [f.nn b (R1.h_some hb)]; exact R1.fn b hb
  refine ⟨F1, [j], R1.fh, ⟨rfl, fun i v d hi q1 q2 => ?_, fun i d hi q1 => ?_, fun i l y hil hi hl => ?_, R1.tb⟩, ?_⟩
  · cases i with
    | zero => exact absurd List.mem_cons_self hi
    | succ i => simp at q1
  · have hi0 : i = 0 := by simpa using hi
    subst hi0
    simp at q1
    subst q1
    exact ⟨a, rfl, ow.nf, ow.at_⟩
  · have hi0 : i = 0 := by simpa using hi
    have hl0 : l = 0 := by simpa using hl
    omega
  cases e : g [j] with
  | bad => simp only [e] at q1; exact q1
  | oko d es => simp only [e] at q1; exact q1.elim
  | ok d es =>
    simp only [e] at q1
    intro v F' H' f rv
    match es, q1 with
    | [_], q1 => exact q1 v F' H' f.ff (keep f) rv
  | err y es =>
    simp only [e] at q1
    intro cls dd F' H' f xr
    match es, q1 with
    | [_], q1 => exact q1 F' H' cls dd f.ff (keep f) xr
/-! ### a def that gives a new thing of its own -/
def calO (g : List D → OutF) (a : M (List D)) : M Sl := bnd a fun ds ρ => match g ds with
  | .ok d _ => .ok (.fz d) ρ
  | .oko d _ => .ok (.ow d) ρ
  | .err x _ => .err x ρ
  | .bad => .bad
theorem ev_calO {k : Nat} {x : Str} {g : List D → OutF} {e : Expr} {es : List Expr} {f : M (List D)} {p pos : Pos} (cl : Cal c.toBase k x [] g) (hk : k ≤ c.k) (hg : Gn c x) (ha : EA c (e :: es) f) (hdb : (x == ("__debug__" : Str)) = false := by decide)
    (he : ∀ env, starEach (e :: es) env = (false, eval e env) :: starEach es env := by intro _; rfl) (hpl : ∀ env, (backTo pos (starEach es env)).any (·.1) = false := by intro _; rfl) (hc : c.hot = false := by first | rfl | assumption) : EV c (.Call (.Name x p) (e :: es) [] pos) (calO g f) := fun G X W z => by
  obtain ⟨fa, fd, ps, F, hm, kp, hb⟩ := cl.ex
  have F' : FnG X.prog X.w X.K X.mg X.base k fa fd ps (spF c.toBase [] g) := by rw [z.P, z.w, z.K, z.mg, z.base]; exact F
  refine pe_imp (pe_callG F' ((z.cold hc).mono hk) z.gd (hg.gl z) (by rw [z.mg]; exact hm) (by rw [z.K]; exact kp) (by rw [z.K]; exact hb) (fun σ => passAt z.tk σ) (ha G X W z) hdb (he _) (hpl _)) fun σ H Q ⟨F0, ρ, R, q⟩ => ?_
  refine tG_bindV R q fun F1 H1 ρ1 vs ds s1 R1 rx q1 => ?_
  refine ⟨F1, ds, R1.fh, args_pure rx R1.tb, ?_⟩
  cases e : g ds with
  | bad => simp only [e] at q1; exact q1
  | ok d es => simp only [e] at q1; exact fun v F' H' f rv => q1 v F' H' f.ff (R1.fin f) rv
  | err x es => simp only [e] at q1; exact fun cls dd F' H' f xr => q1 F' H' cls dd f.ff (R1.fin f) xr
  | oko d es =>
    simp only [e] at q1
    intro a F' H' f nf hn at_
    have R2 := R1.fin f
    exact q1 (.ref a) F' H' f.ff R2 ⟨a, rfl, ⟨nf, .inl (R1.h0_none hn), at_⟩, fun i e' hi zz => by
      obtain ⟨b, h1, h2⟩ := R1.ow i e' hi
      rw [zz] at h1
      cases h1
      exact h2.at_.some hn⟩
end
/-! ### the end -/
def NoList (K : PySem.W.Frag) : Prop := ∀ a o, K.lookup a = some o → o.cls ≠ .type "list"
open PySem.Spec PyProof.Rows in
theorem law_callG {P : Program} {w : World} {K : PySem.W.Frag} {mg mb : Str → Option Value} {k : Nat} {fa a : Addr} {fd : FuncData} {x : Str} {s₁ : Shared} {vs : List Value} {ns : List Int}
    (KX : K.In s₁.heap) (nl : NoList K) (hns : s₁.heap.Ns mainGlobals mg) (hb : s₁.heap.Ns builtinsNs mb) (hbb : ∀ x : Str, x ≠ "__name__" → mb x = bootBuiltins x) (hlim : s₁.heap.NoLimit) (hg : s₁.gens = #[])
    (ha : s₁.heap.get? a = some { cls := .type "list", data := .seq vs.toArray }) (hi : IntsAre vs ns) (hl : ns.length ≤ sz) (hr : Room k callerA)
    (F : ∀ base : Heap, K.In base → base.Ns mainGlobals mg → ∃ g es, FnG P w K mg base k fa fd [x] (spF ⟨P, w, K, mg, base, []⟩ [] g) ∧ g [.lst (ns.map .int)] = .ok (.bl true) es) (hbind : ∀ (s : Shared) (u : Value), BindsTo s fd ⟨[u], []⟩ [(x, u)]) :
    codeAny (model P w) callerA (.call (.ref fa) ⟨[.ref a], []⟩) (fun r s' => r = .ok (.ret (.bool true)) ∧ OldK s₁.heap s'.heap ∧ s'.os = s₁.os ∧ AllBare s'.gens) s₁ := by
  have rv := vals_ints hi
  have hK : K.lookup a = none := by
    cases e : K.lookup a with
    | none => rfl
    | some o =>
      have q := KX a o e
      rw [ha] at q
      cases q
      exact absurd rfl (nl a _ e)
  -- nothing is tracked but the script
  let ob : Obj := { cls := .type "list", data := .seq vs.toArray }
  let H : Hp := fun b => if b = a then some (.frz ob (.lst (ns.map V.int))) else none
  have Ha : H a = some (.frz ob (.lst (ns.map V.int))) := if_pos rfl
  have Hn : ∀ b, b ≠ a → H b = none := fun b h => if_neg h
  have Hs : ∀ b u, H b = some u → b = a ∧ u = .frz ob (.lst (ns.map V.int)) := fun b u e => by
    by_cases h : b = a
    · subst h; rw [Ha] at e; cases e; exact ⟨rfl, rfl⟩
    · rw [Hn b h] at e; cases e
  have hok : HOk P w H s₁.heap := fun b u e => by
    obtain ⟨rfl, rfl⟩ := Hs b u e
    exact ⟨ha, by rw [List.length_map, sz_eq]; exact hl, vs, _, rv, ha⟩
  have base_of : ∀ {b : Addr} {o : Obj}, s₁.heap.get? b = some o → b ≠ a → (hidT s₁.heap H).get? b = some o := fun e n => hidT_get e (Hn _ n)
  have nsK : ∀ {b : Addr} {m : Str → Option Value}, s₁.heap.Ns b m → (hidT s₁.heap H).Ns b m := fun {b m} ⟨o, es, ep, e, d, r⟩ => ⟨o, es, ep, base_of e (fun z => by
    subst z
    rw [ha] at e
    cases e
    have d' : Data.seq vs.toArray _ = Data.dict es ep := d
    cases d'), d, r⟩
  have hKb : K.In (hidT s₁.heap H) := fun b o e => base_of (KX b o e) fun z => by subst z; rw [hK] at e; cases e
  have hM : Mod K mg (hidT s₁.heap H) := ⟨hKb, nsK hns, ⟨mb, nsK hb, hbb⟩, let ⟨mc, h1, h2⟩ := hlim; ⟨mc, nsK h1, h2⟩⟩
  have e0 : Env0 P w K mg (hidT s₁.heap H) callerA [] s₁ H := ⟨rfl, hM, fun b o e => of_hidT e, Nat.le_of_eq (hidT_size _ _), trivial, fun b hb => absurd (show b ∈ ([] : List Addr) from hb) (by simp), hok, .of_eq hg⟩
  obtain ⟨g, es, hF, hge⟩ := F _ hKb (nsK hns)
  refine codeAny_mono (hF.run callerA [] s₁ H ⟨[.ref a], []⟩ [.ref a] [.ref a] (fun v _ => v = .bl true) (fun _ _ _ => False) hr rfl e0 (hbind s₁ (.ref a)) (.cons rfl .nil) ?_) fun r s' h => ?_
  · refine ⟨H, [.lst (ns.map .int)], Same.refl _, args_pure (.cons (.lst (.inr ⟨ob, Ha⟩) (dns_ints ns) (by rw [List.length_map]; exact hl)) .nil) ⟨(fun _ q => nomatch q), (fun _ q => nomatch q)⟩, ?_⟩
    rw [hge]
    intro v F' H' f rv
    cases rv
    rfl
  cases r with
  | error e =>
    obtain ⟨_, _, _, _, _, _, _, _, _, _, _, _, z⟩ := h
    exact z.elim
  | ok fl =>
    cases fl with
    | next => exact h.elim
    | brk => exact h.elim
    | cont => exact h.elim
    | ret u =>
      obtain ⟨v, H', os, bare, un, hok', r', q⟩ := h
      have q' : v = .bl true := q
      subst q'
      obtain rfl : u = Value.bool true := r'
      refine ⟨rfl, OldK.of_keep fun b o e => ?_, os, bare⟩
      by_cases hba : b = a
      · subst hba
        have z2 := un.frzs b ob _ Ha
        obtain ⟨e2, _⟩ := hok' b _ z2
        rw [ha] at e
        cases e
        exact e2
      · exact un.keep b o e (Hn b hba) (by intro z; exact absurd (show b ∈ ([] : List Addr) from z) (by simp)) (by simp)
open PySem.Spec PyProof.Rows in
/-- the goal that the head leaves -/
theorem walk_ofG {l : PySem.W.OpenLaw} {n k : Nat} {q : Program} {loose : List Str} {XP : (Str → Option Value) → Heap → Prop} {YP : World → Heap → Prop} {d : DefRec} {K : Params → PySem.W.Frag} {x : Str}
    (hn : l.most = some n) (hn2 : n ≤ sz) (hdf : d.params.defaults = []) (hr : Room k callerA) (hY : ∀ (w : World) (h : Heap), YP w h → (K w.params).In h) (nl : ∀ w : World, NoList (K w.params))
    (F : ∀ (w : World) (mg : Str → Option Value) (fa : Addr) (h : Heap), (K w.params).In h → h.Ns mainGlobals mg → mg d.name = some (.ref fa) →
      ∃ fd : FuncData, (∀ (s : Shared) (u : Value), BindsTo s fd ⟨[u], []⟩ [(x, u)]) ∧
        ∀ base : Heap, (K w.params).In base → base.Ns mainGlobals mg → ∃ g, FnG l.prog w (K w.params) mg base k fa fd [x] (spF ⟨l.prog, w, K w.params, mg, base, []⟩ [] g) ∧ ∀ ns : List Int, ns.length ≤ n → ∃ es, g [.lst (ns.map .int)] = .ok (.bl true) es) :
    PySem.W.WalkO q loose XP YP l.row.toRowW d [] (fun f vs => PySem.call f vs) := by
  refine Att.attach_call hn hdf fun w s₀ s₁ mg mb fa o pm cd doc a vs ns G Y ho hd hcd hmg hobj hints hlen hg => ?_
  have KX := hY w _ Y
  obtain ⟨fd, hb, hF⟩ := F w mg fa _ KX G.T.g hmg
  refine law_callG KX (nl w) G.T.g G.T.b G.T.builtins G.T.nolimit hg hobj hints (Nat.le_trans hlen hn2) hr (fun base h1 h2 => ?_) hb
  obtain ⟨g, h3, h4⟩ := hF base h1 h2
  obtain ⟨es, h5⟩ := h4 ns hlen
  exact ⟨g, es, h3, h5⟩
end DL

namespace DL
open PySem L2
/-! ### the rules as the printer writes them -/
theorem bt_len : bootBuiltins "len" = some (.builtin "len") := by decide +kernel
theorem bt_abs : bootBuiltins "abs" = some (.builtin "abs") := by decide +kernel
theorem bt_max : bootBuiltins "max" = some (.builtin "max") := by decide +kernel
theorem bt_min : bootBuiltins "min" = some (.builtin "min") := by decide +kernel
theorem bt_all : bootBuiltins "all" = some (.builtin "all") := by decide +kernel
theorem bt_any : bootBuiltins "any" = some (.builtin "any") := by decide +kernel
theorem bt_sum : bootBuiltins "sum" = some (.builtin "sum") := by decide +kernel
theorem bt_sorted : bootBuiltins "sorted" = some (.builtin "sorted") := by decide +kernel
theorem bt_repr : bootBuiltins "repr" = some (.builtin "repr") := by decide +kernel
theorem bt_isinstance : bootBuiltins "isinstance" = some (.builtin "isinstance") := by decide +kernel
theorem bt_int : bootBuiltins "int" = some (.type "int") := by decide +kernel
theorem bt_bool : bootBuiltins "bool" = some (.type "bool") := by decide +kernel
theorem bt_str : bootBuiltins "str" = some (.type "str") := by decide +kernel
theorem bt_tuple : bootBuiltins "tuple" = some (.type "tuple") := by decide +kernel
theorem bt_list : bootBuiltins "list" = some (.type "list") := by decide +kernel
theorem bt_dict : bootBuiltins "dict" = some (.type "dict") := by decide +kernel
theorem bt_set : bootBuiltins "set" = some (.type "set") := by decide +kernel
def visB (sc : Scope) (x : Str) : Bool := match sc.names.lookup x with
  | some .local => true
  | some .cell => true
  | some .free => true
  | _ => false
theorem vis_of {sc : Scope} {x : Str} (h : visB sc x = true) : Vis sc x := by
  unfold visB at h
  split at h
  · exact .inl (by assumption)
  · exact .inr (.inl (by assumption))
  · exact .inr (.inr (by assumption))
  · cases h
def lcB (sc raw : Scope) (x : Str) : Bool := match sc.names.lookup x with
  | some .local => true
  | some .cell => (match raw.names.lookup x with
    | some .cell => true
    | _ => false)
  | _ => false
theorem lc_of {c : Stat} {i : Nat} {x : Str} (hN : c.N[i]? = some x) (h : lcB c.sc c.raw x = true) : Lc c i x := by
  refine ⟨hN, ?_⟩
  unfold lcB at h
  split at h
  · exact .inl (by assumption)
  · split at h
    · exact .inr ⟨by assumption, by assumption⟩
    · cases h
  · cases h
theorem ne_of_beq {x y : Str} (h : (x == y) = false) : x ≠ y := fun e => by subst e; simp at h
section
variable {c : Stat}
theorem xv (i : Nat) {x : Str} {pos : Pos} (hN : c.N[i]? = some x := by kernel_rfl) (hv : visB c.sc x = true := by kernel_rfl) (hd : (x == ("__debug__" : Str)) = false := by kernel_rfl) (hcd : (x == ("__classdict__" : Str)) = false := by kernel_rfl) : ED c (.Name x pos) (v i) := ed_var hN (vis_of hv) hd hcd
theorem xstr {x : Str} {cs : Cs} {j pos} (e : x = toS cs := by kernel_rfl) (h : decide (okS cs) = true := by kernel_rfl) : ED c (.Constant (.str x) j pos) (cn (.str cs)) := ed_str e (of_decide_eq_true h)
theorem xB {id : String} {x : Str} {p pos : Pos} {e : Expr} {es : List Expr} {f : M (List D)} {r : List D → Option D} (h : BCl c (.builtin id) r) (hm : c.mg x = none) (hv : bootBuiltins x = some (.builtin id)) (ha : EA c (e :: es) f)
    (hg : c.sc.names.lookup x = some .globalImplicit := by kernel_rfl) (hn : (x == ("__name__" : Str)) = false := by kernel_rfl) (hdb : (x == ("__debug__" : Str)) = false := by kernel_rfl) (he : ∀ env, starEach (e :: es) env = (false, eval e env) :: starEach es env := by intro _; rfl) (hpl : ∀ env, (backTo pos (starEach es env)).any (·.1) = false := by intro _; rfl) :
    ED c (.Call (.Name x p) (e :: es) [] pos) (opL r f) := ed_callB h hg hm hv ha (ne_of_beq hn) hdb he hpl
theorem xT {T : String} {x : Str} {p pos : Pos} {e : Expr} {es : List Expr} {f : M (List D)} {r : List D → Option D} (h : BCl c (.type T) r) (hm : c.mg x = none) (hv : bootBuiltins x = some (.type T)) (ha : EA c (e :: es) f)
    (hg : c.sc.names.lookup x = some .globalImplicit := by kernel_rfl) (hn : (x == ("__name__" : Str)) = false := by kernel_rfl) (hdb : (x == ("__debug__" : Str)) = false := by kernel_rfl) (he : ∀ env, starEach (e :: es) env = (false, eval e env) :: starEach es env := by intro _; rfl) (hpl : ∀ env, (backTo pos (starEach es env)).any (·.1) = false := by intro _; rfl) :
    ED c (.Call (.Name x p) (e :: es) [] pos) (opL r f) := ed_callTy h hg hm hv ha (ne_of_beq hn) hdb he hpl
theorem xty {x : Str} {T : String} {pos : Pos} (hm : c.mg x = none) (hv : bootBuiltins x = some (.type T)) (hg : c.sc.names.lookup x = some .globalImplicit := by kernel_rfl) (hn : (x == ("__name__" : Str)) = false := by kernel_rfl) (hd : (x == ("__debug__" : Str)) = false := by kernel_rfl) : ED c (.Name x pos) (cn (.ty T)) := ed_ty hg hm hv (ne_of_beq hn) hd
theorem xgi {x : Str} {i : Int} {pos : Pos} (hm : ∃ t, c.mg x = some (.int i t)) (hg : c.sc.names.lookup x = some .globalImplicit := by kernel_rfl) (hd : (x == ("__debug__" : Str)) = false := by kernel_rfl) : ED c (.Name x pos) (cn (.int i)) := let ⟨_, h⟩ := hm; ed_gint hg h hd
theorem xgs {x : Str} {cs : Cs} {pos : Pos} (hm : ∃ t, c.mg x = some (.str (toS cs) t)) (hg : c.sc.names.lookup x = some .globalImplicit := by kernel_rfl) (hk : decide (okS cs) = true := by kernel_rfl) (hd : (x == ("__debug__" : Str)) = false := by kernel_rfl) : ED c (.Name x pos) (cn (.str cs)) := let ⟨_, h⟩ := hm; ed_gstr hg h (of_decide_eq_true hk) hd
theorem xgc {x : String} {pos : Pos} (hm : ∃ C, c.mg (Str.ofString x) = some (.ref C)) (hg : c.sc.names.lookup (Str.ofString x) = some .globalImplicit := by kernel_rfl) (hd : (Str.ofString x == ("__debug__" : Str)) = false := by kernel_rfl) : ED c (.Name (Str.ofString x) pos) (cn (.gl x)) := let ⟨_, h⟩ := hm; ed_gcls hg h hd
theorem xcal {k : Nat} {x : Str} {g : List D → OutF} {e : Expr} {es : List Expr} {f : M (List D)} {p pos : Pos} (cl : Cal c.toBase k x [] g) (ha : EA c (e :: es) f) (hk : Nat.ble k c.k = true := by kernel_rfl) (hg : c.sc.names.lookup x = some .globalImplicit := by kernel_rfl) (hdb : (x == ("__debug__" : Str)) = false := by kernel_rfl)
    (he : ∀ env, starEach (e :: es) env = (false, eval e env) :: starEach es env := by intro _; rfl) (hpl : ∀ env, (backTo pos (starEach es env)).any (·.1) = false := by intro _; rfl) (hc : c.hot = false := by first | rfl | assumption) : ED c (.Call (.Name x p) (e :: es) [] pos) (cal g f) := ed_cal cl (Nat.le_of_ble_eq_true hk) hg ha hdb he hpl
theorem xcalR {k : Nat} {x y : Str} {g : List D → OutF} (i : Nat) {es : List Expr} {f : M (List D)} {p p2 pos : Pos} (cl : Cal c.toBase k x [0] g) (ha : EA c es f) (hk : Nat.ble k c.k = true := by kernel_rfl) (hg : c.sc.names.lookup x = some .globalImplicit := by kernel_rfl) (hN : c.N[i]? = some y := by kernel_rfl) (hv : visB c.sc y = true := by kernel_rfl) (hdb : (x == ("__debug__" : Str)) = false := by kernel_rfl)
    (hd : (y == ("__debug__" : Str)) = false := by kernel_rfl) (hcd : (y == ("__classdict__" : Str)) = false := by kernel_rfl) (hpl : ∀ env, (backTo pos (starEach es env)).any (·.1) = false := by intro _; rfl) (hc : c.hot = false := by first | rfl | assumption) : ED c (.Call (.Name x p) (.Name y p2 :: es) [] pos) (calR g i f) := ed_calR cl (Nat.le_of_ble_eq_true hk) hg hN (vis_of hv) ha hdb hd hcd hpl
theorem xcalV {k : Nat} {x : Str} {g : List D → OutF} {e : Expr} {f : M Sl} {p pos : Pos} (cl : Cal c.toBase k x [0] g) (ha : EV c e f) (hk : Nat.ble k c.k = true := by kernel_rfl) (hg : c.sc.names.lookup x = some .globalImplicit := by kernel_rfl) (hdb : (x == ("__debug__" : Str)) = false := by kernel_rfl) (he : ∀ env, starEach [e] env = [(false, eval e env)] := by intro _; rfl) (hc : c.hot = false := by first | rfl | assumption) : ED c (.Call (.Name x p) [e] [] pos) (calV g f) :=
  ed_calV cl (Nat.le_of_ble_eq_true hk) hg ha hdb he
theorem xcalO {k : Nat} {x : Str} {g : List D → OutF} {e : Expr} {es : List Expr} {f : M (List D)} {p pos : Pos} (cl : Cal c.toBase k x [] g) (ha : EA c (e :: es) f) (hk : Nat.ble k c.k = true := by kernel_rfl) (hg : c.sc.names.lookup x = some .globalImplicit := by kernel_rfl) (hdb : (x == ("__debug__" : Str)) = false := by kernel_rfl)
    (he : ∀ env, starEach (e :: es) env = (false, eval e env) :: starEach es env := by intro _; rfl) (hpl : ∀ env, (backTo pos (starEach es env)).any (·.1) = false := by intro _; rfl) (hc : c.hot = false := by first | rfl | assumption) : EV c (.Call (.Name x p) (e :: es) [] pos) (calO g f) := ev_calO cl (Nat.le_of_ble_eq_true hk) hg ha hdb he hpl
theorem xcalK {k n : Nat} {x : Str} {ks : List Str} {ix : List Nat} {g : List D → OutF} {e : Expr} {es : List Expr} {kws : List Keyword} {f fk : M (List D)} {p pos : Pos} (cl : CalK c.toBase k x n ks ix g) (ha : EA c (e :: es) f) (hkw : EK c kws fk) (ok : KwOk kws ks pos := by intro _; exact ⟨rfl, rfl, rfl⟩) (hk : Nat.ble k c.k = true := by kernel_rfl) (hg : c.sc.names.lookup x = some .globalImplicit := by kernel_rfl)
    (hdb : (x == ("__debug__" : Str)) = false := by kernel_rfl) (he : ∀ env, starEach (e :: es) env = (false, eval e env) :: starEach es env := by intro _; rfl) (hpl : Few (e :: es) pos := by intro _; rfl) (hc : c.hot = false := by first | rfl | assumption) : ED c (.Call (.Name x p) (e :: es) kws pos) (calK g n ks.length ix f fk) := ed_calK cl (Nat.le_of_ble_eq_true hk) hg ha hkw ok hdb he hpl
theorem xcalK0 {k : Nat} {x : Str} {ks : List Str} {ix : List Nat} {g : List D → OutF} {kws : List Keyword} {fk : M (List D)} {p pos : Pos} (cl : CalK c.toBase k x 0 ks ix g) (hkw : EK c kws fk) (ok : KwOk kws ks pos := by intro _; exact ⟨rfl, rfl, rfl⟩) (hk : Nat.ble k c.k = true := by kernel_rfl) (hg : c.sc.names.lookup x = some .globalImplicit := by kernel_rfl)
    (hdb : (x == ("__debug__" : Str)) = false := by kernel_rfl) (hc : c.hot = false := by first | rfl | assumption) : ED c (.Call (.Name x p) [] kws pos) (calK g 0 ks.length ix args0 fk) := ed_calK0 cl (Nat.le_of_ble_eq_true hk) hg hkw ok hdb
theorem xmk {k n : Nat} {x : String} {ks : List Str} {ix : List Nat} {g : List D → OutF} {e : Expr} {es : List Expr} {kws : List Keyword} {f fk : M (List D)} {p pos : Pos} (cl : MakK c.toBase k x n ks ix g) (ha : EA c (e :: es) f) (hkw : EK c kws fk) (ok : KwOk kws ks pos := by intro _; exact ⟨rfl, rfl, rfl⟩) (hk : Nat.ble (k + 1) c.k = true := by kernel_rfl) (hg : c.sc.names.lookup (Str.ofString x) = some .globalImplicit := by kernel_rfl)
    (hdb : (Str.ofString x == ("__debug__" : Str)) = false := by kernel_rfl) (he : ∀ env, starEach (e :: es) env = (false, eval e env) :: starEach es env := by intro _; rfl) (hpl : Few (e :: es) pos := by intro _; rfl) (hc : c.hot = false := by first | rfl | assumption) : ED c (.Call (.Name (Str.ofString x) p) (e :: es) kws pos) (mkM x g n ks.length ix f fk) := ed_mk cl (Nat.le_of_ble_eq_true hk) hg ha hkw ok hdb he hpl
theorem xmk0 {k : Nat} {x : String} {ks : List Str} {ix : List Nat} {g : List D → OutF} {kws : List Keyword} {fk : M (List D)} {p pos : Pos} (cl : MakK c.toBase k x 0 ks ix g) (hkw : EK c kws fk) (ok : KwOk kws ks pos := by intro _; exact ⟨rfl, rfl, rfl⟩) (hk : Nat.ble (k + 1) c.k = true := by kernel_rfl) (hg : c.sc.names.lookup (Str.ofString x) = some .globalImplicit := by kernel_rfl)
    (hdb : (Str.ofString x == ("__debug__" : Str)) = false := by kernel_rfl) (hc : c.hot = false := by first | rfl | assumption) : ED c (.Call (.Name (Str.ofString x) p) [] kws pos) (mkM x g 0 ks.length ix args0 fk) := ed_mk0 cl (Nat.le_of_ble_eq_true hk) hg hkw ok hdb
theorem xlenO (i : Nat) {y : Str} {p p2 pos : Pos} (hm : c.mg "len" = none) (hg : c.sc.names.lookup ("len" : Str) = some .globalImplicit := by kernel_rfl) (hN : c.N[i]? = some y := by kernel_rfl) (hv : visB c.sc y = true := by kernel_rfl) (hd : (y == ("__debug__" : Str)) = false := by kernel_rfl) (hcd : (y == ("__classdict__" : Str)) = false := by kernel_rfl) :
    ED c (.Call (.Name "len" p) [.Name y p2] [] pos) (lenO i) := ed_lenO rfl hg hm hN (vis_of hv) hd hcd
theorem xixO (i : Nat) {y : Str} {b : Expr} {f : M D} {p2 pos : Pos} (hb : ED c b f) (hN : c.N[i]? = some y := by kernel_rfl) (hv : visB c.sc y = true := by kernel_rfl) (hd : (y == ("__debug__" : Str)) = false := by kernel_rfl) (hcd : (y == ("__classdict__" : Str)) = false := by kernel_rfl) (hs : PlainIx b := by intro _ _; rfl) :
    ED c (.Subscript (.Name y p2) b pos) (ixO i f) := ed_ixO hN (vis_of hv) hb hs hd hcd
theorem xappO (i : Nat) {y : Str} {b : Expr} {f : M D} {apos cpos p2 : Pos} (hb : ED c b f) (hN : c.N[i]? = some y := by kernel_rfl) (hv : visB c.sc y = true := by kernel_rfl) (hd : (y == ("__debug__" : Str)) = false := by kernel_rfl) (hcd : (y == ("__classdict__" : Str)) = false := by kernel_rfl)
    (hst : ∀ env, starEach [b] env = [(false, eval b env)] := by intro _; rfl) (hl : (apos.endLine == cpos.line) = true := by rfl) : ED c (.Call (.Attribute (.Name y p2) "append" apos) [b] [] cpos) (appO i f) := ed_appO hN (vis_of hv) hb hd hcd hst hl
theorem xpopO (i : Nat) {y : Str} {b : Expr} {f : M D} {apos cpos p2 : Pos} (hb : ED c b f) (hN : c.N[i]? = some y := by kernel_rfl) (hv : visB c.sc y = true := by kernel_rfl) (hd : (y == ("__debug__" : Str)) = false := by kernel_rfl) (hcd : (y == ("__classdict__" : Str)) = false := by kernel_rfl)
    (hst : ∀ env, starEach [b] env = [(false, eval b env)] := by intro _; rfl) (hl : (apos.endLine == cpos.line) = true := by rfl) : ED c (.Call (.Attribute (.Name y p2) "pop" apos) [b] [] cpos) (popO i f) := ed_popO hN (vis_of hv) hb hd hcd hst hl
theorem xstO (i : Nat) {y : Str} {b e : Expr} {f g : M D} {p2 pos' pos : Pos} (he : ED c e f) (hb : ED c b g) (hN : c.N[i]? = some y := by kernel_rfl) (hv : visB c.sc y = true := by kernel_rfl) (hd : (y == ("__debug__" : Str)) = false := by kernel_rfl) (hcd : (y == ("__classdict__" : Str)) = false := by kernel_rfl)
    (h1 : ∀ env, swapsWithSole [.Subscript (.Name y p2) b pos'] e pos.line env = pure false := by intro _; rfl) (h2 : ∀ env, swappedStores [.Subscript (.Name y p2) b pos'] e env = pure none := by intro _; rfl)
    (h3 : ∀ env, List.map (fun x => x.snd) (assignEach [.Subscript (.Name y p2) b pos'] env) = [assign (.Subscript (.Name y p2) b pos') env] := by intro _; rfl)
    (ha : ∀ env v, assign (.Subscript (.Name y p2) b pos') env v = (do
      let ov ← holding [v] (eval (.Name y p2) env)
      let iv ← holding [v, ov] (eval b env)
      standAt pos'
      holding [v, ov, iv] (setItem ov iv v)
      release [v, ov, iv] []) := by intro _ _; rfl) : ES c (.Assign [.Subscript (.Name y p2) b pos'] e pos) (stO i f g) := es_stO hN (vis_of hv) he hb hd hcd h1 h2 h3 ha
theorem xg (i : Nat) {x : Str} {pos : Pos} (hN : c.N[i]? = some x := by kernel_rfl) (h : lcB c.sc c.raw x = true := by kernel_rfl) : EG c (.Name x pos) [i] (put i) := eg_name (lc_of hN h)
theorem xset (i : Nat) {x : Str} {e : Expr} {f : M D} {px pos : Pos} (he : ED c e f) (hN : c.N[i]? = some x := by kernel_rfl) (h : lcB c.sc c.raw x = true := by kernel_rfl) (h1 : ∀ X W, Cz c X W → swapsWithSole [.Name x px] e pos.line X.env = pure false := by intro _ _ _; rfl) (h2 : ∀ X W, Cz c X W → swappedStores [.Name x px] e X.env = pure none := by intro _ _ _; rfl) : ES c (.Assign [.Name x px] e pos) (asgM (put i) f) := es_asg he (eg_name (lc_of hN h)) h1 h2
theorem xsetV (i : Nat) {x : Str} {e : Expr} {f : M Sl} {px pos : Pos} (he : EV c e f) (hN : c.N[i]? = some x := by kernel_rfl) (h : lcB c.sc c.raw x = true := by kernel_rfl) (h1 : ∀ X W, Cz c X W → swapsWith e (some (.Name x px)) pos.line X.env = pure false := by intro _ _ _; rfl) : ES c (.Assign [.Name x px] e pos) (asgV c.np i f) := es_asgV (lc_of hN h) he h1
/-- swappedStores looks at the scope alone -/
def envS (sc : Scope) : Env := { scope := sc, locals := 0, globals := 0, cells := [] }
theorem sw_env (ts : List Expr) (v : Expr) {env : Env} {sc : Scope} (h : env.scope = sc) : swappedStores ts v env = swappedStores ts v (envS sc) := by
  subst h
  rfl
theorem xpar (i j : Nat) {x y : Str} {a b : Expr} {f g : M Sl} {px py pt pt2 pos : Pos} {kt k2 : Nat} (ha : EV c a f) (hb : EV c b g) (hi : c.N[i]? = some x := by kernel_rfl) (hj : c.N[j]? = some y := by kernel_rfl) (hij : (i == j) = false := by rfl) (hx : c.sc.names.lookup x = some .local := by kernel_rfl) (hy : c.sc.names.lookup y = some .local := by kernel_rfl)
    (hw : swappedStores [.Tuple [.Name x px, .Name y py] kt pt] (.Tuple [a, b] k2 pt2) (envS c.sc) = pure (some [x, y]) := by kernel_rfl) (h1 : ∀ env, swapsWithSole [.Tuple [.Name x px, .Name y py] kt pt] (.Tuple [a, b] k2 pt2) pos.line env = pure false := by intro _; rfl)
    (hs : ∀ env, starEach [a, b] env = [(false, eval a env), (false, eval b env)] := by intro _; rfl) (hs2 : ∀ env, starEach [b] env = [(false, eval b env)] := by intro _; rfl) (hc : c.hot = false := by first | rfl | assumption) : ES c (.Assign [.Tuple [.Name x px, .Name y py] kt pt] (.Tuple [a, b] k2 pt2) pos) (parV c.np i j f g) :=
  es_parV hi hj (by simpa using hij) hx hy ha hb (fun X W z => by rw [sw_env _ _ z.sc]; exact hw) h1 hs hs2
theorem xlc (own : List (Str × Nat)) {elt tg iter : Expr} {ifs : List Expr} {scope : Scope} {sl : List Nat} {pos : Pos} {src : M (List D)} {t : Tg} {mt : M Bool} {me : M D} (hi : EI c tg iter src) (hg : EG (c.blk scope) tg sl t) (ht : ETs (c.blk scope) ifs mt) (he : ED (c.blk scope) elt me)
    (ok : blkC c.N c.sc scope own = true := by kernel_rfl) (hsl : (sl.all fun i => (own.map (·.2)).contains i) = true := by rfl) (hs : ∀ env x, foldedSetIterable iter env x = pure x := by intro _ _; rfl) (hc : c.hot = false := by first | rfl | assumption) : ED c (.ListComp elt [⟨tg, iter, ifs, 0⟩] scope pos) (lcM src (own.map (·.2)) t mt me) :=
  ed_lc hi ok hg ht he (fun i h => List.contains_iff_mem.mp (List.all_eq_true.mp hsl i h)) hs
theorem xsetLc (i : Nat) (own : List (Str × Nat)) {y : Str} {py spos : Pos} {elt tg iter : Expr} {ifs : List Expr} {scope : Scope} {sl : List Nat} {pos : Pos} {src : M (List D)} {t : Tg} {mt : M Bool} {me : M D} (hi : EI c tg iter src) (hg : EG (c.blk scope) tg sl t) (ht : ETs (c.blk scope) ifs mt) (he : ED (c.blk scope) elt me)
    (hy : c.N[i]? = some y := by kernel_rfl) (hyl : c.sc.names.lookup y = some .local := by kernel_rfl) (hl : (py.line == pos.line) = true := by rfl) (hk : c.sc.kind = .function := by rfl) (hsc : (scope.names.any fun (n, k) => n == y && (k == .local || k == .cell)) = false := by kernel_rfl) (ok : blkC c.N c.sc scope own = true := by kernel_rfl) (hsl : (sl.all fun i => (own.map (·.2)).contains i) = true := by rfl) (hs : ∀ env x, foldedSetIterable iter env x = pure x := by intro _ _; rfl) (hc : c.hot = false := by first | rfl | assumption) :
    ES c (.Assign [.Name y py] (.ListComp elt [⟨tg, iter, ifs, 0⟩] scope pos) spos) (asgM (put i) (lcM src (own.map (·.2)) t mt me)) := es_setLc hy hyl hl hk hsc hi ok hg ht he (fun i h => List.contains_iff_mem.mp (List.all_eq_true.mp hsl i h)) hs
theorem xsetLcC (i : Nat) {x : Str} {elt : Expr} {gs : List Comprehension} {scope : Scope} {lp : Pos} {f : M D} {px pos : Pos} (he : ED c (.ListComp elt gs scope lp) f) (hc : c.sc.names.lookup x = some .cell := by kernel_rfl) (hN : c.N[i]? = some x := by kernel_rfl) (h : lcB c.sc c.raw x = true := by kernel_rfl) : ES c (.Assign [.Name x px] (.ListComp elt gs scope lp) pos) (asgM (put i) f) :=
  es_asg he (eg_name (lc_of hN h)) (fun X W z => sw_cell (l := pos.line) (by rw [z.sc]; exact hc)) (fun X W z => rfl)
theorem xstrm {id : String} {name : Str} {r : D → List D → Option D} {o e : Expr} {es : List Expr} {fo : M D} {f : M (List D)} {apos cpos : Pos} (hm : MCl c id r) (slot : Slot "str" name id) (hty : typeOf (.builtin id) = pure (.type "method_descriptor")) (ho : ED c o fo) (ha : EA c (e :: es) f)
    (hbase : ∀ env, attributeBase o name env (eval o env) = eval o env := by intro _; rfl)
    (hfew : ∀ env, ((backTo cpos (starEach (e :: es) env)).all (fun x => !x.1) && (backToKw cpos (keywordEach [] env)).all (fun x => x.1.isSome) && decide ((e :: es).length + ([] : List Keyword).length + (if ([] : List Keyword).isEmpty then 0 else 1) < 30)) = true := by intro _; rfl)
    (hline : (apos.endLine == cpos.line) = true := by rfl) (hs : ∀ env, starEach (e :: es) env = (false, eval e env) :: starEach es env := by intro _; rfl) (hpl : ∀ env, (backTo cpos (starEach es env)).any (·.1) = false := by intro _; rfl) :
    ED c (.Call (.Attribute o name apos) (e :: es) [] cpos) (opMt isStr r fo f) := ed_strm hm slot hty ho ha hbase hfew hline hs hpl
theorem xjoin {o e : Expr} {fo : M D} {f : M (List D)} {apos cpos : Pos} (ho : ED c o fo) (ha : EA c [e] f) (hbase : ∀ env, attributeBase o "join" env (eval o env) = eval o env := by intro _; rfl) (hline : (apos.endLine == cpos.line) = true := by rfl)
    (hfew : ∀ env, ((backTo cpos (starEach [e] env)).all (fun x => !x.1) && (backToKw cpos (keywordEach [] env)).all (fun x => x.1.isSome) && decide ([e].length + ([] : List Keyword).length + (if ([] : List Keyword).isEmpty then 0 else 1) < 30)) = true := by intro _; rfl) (hs : ∀ env, starEach [e] env = (false, eval e env) :: starEach [] env := by intro _; rfl) : ED c (.Call (.Attribute o "join" apos) [e] [] cpos) (opMt isStr dJoin fo f) :=
  ed_strm m_join PySem.F.slot_str_join PySem.F.type_str_join ho ha hbase hfew hline hs
theorem xindex {o e : Expr} {fo : M D} {f : M (List D)} {apos cpos : Pos} (ho : ED c o fo) (ha : EA c [e] f) (hbase : ∀ env, attributeBase o "index" env (eval o env) = eval o env := by intro _; rfl) (hline : (apos.endLine == cpos.line) = true := by rfl)
    (hfew : ∀ env, ((backTo cpos (starEach [e] env)).all (fun x => !x.1) && (backToKw cpos (keywordEach [] env)).all (fun x => x.1.isSome) && decide ([e].length + ([] : List Keyword).length + (if ([] : List Keyword).isEmpty then 0 else 1) < 30)) = true := by intro _; rfl) (hs : ∀ env, starEach [e] env = (false, eval e env) :: starEach [] env := by intro _; rfl) : ED c (.Call (.Attribute o "index" apos) [e] [] cpos) (opMt isStr dIndex fo f) :=
  ed_strm m_index PySem.F.slot_str_index PySem.F.type_str_index ho ha hbase hfew hline hs
theorem xrng1 {tg a : Expr} {f : M (List D)} {p pos : Pos} (hm : c.mg "range" = none) (ha : EA c [a] f) (hg : c.sc.names.lookup ("range" : Str) = some .globalImplicit := by kernel_rfl) (hs : ∀ env, starEach [a] env = [(false, eval a env)] := by intro _; rfl) : EI c tg (.Call (.Name "range" p) [a] [] pos) (srcL dRng1 f) := ei_range1 hg hm ha hs
theorem xrng2 {tg a b : Expr} {f : M (List D)} {p pos : Pos} (hm : c.mg "range" = none) (ha : EA c [a, b] f) (hg : c.sc.names.lookup ("range" : Str) = some .globalImplicit := by kernel_rfl) (hs : ∀ env, starEach [a, b] env = [(false, eval a env), (false, eval b env)] := by intro _; rfl) (hs2 : ∀ env, starEach [b] env = [(false, eval b env)] := by intro _; rfl) : EI c tg (.Call (.Name "range" p) [a, b] [] pos) (srcL dRng2 f) := ei_range2 hg hm ha hs hs2
theorem xlist {p pos : Pos} {e : Expr} {f : M D} (hm : c.mg "list" = none) (he : ED c e f) (hg : c.sc.names.lookup ("list" : Str) = some .globalImplicit := by kernel_rfl) (hst : ∀ env, starEach [e] env = [(false, eval e env)] := by intro _; rfl) (hc : c.hot = false := by first | rfl | assumption) : EV c (.Call (.Name "list" p) [e] [] pos) (owSeq f) := ev_list rfl hg hm he hst
/-! ### methods, properties, fields -/
structure Fld (b : Base) (cl f : String) : Prop where
  ex : ∃ C, ClD b cl C ∧ NoAttr b.K C (Str.ofString f)
theorem xattr {cl f : String} {e : Expr} {g : M D} {pos : Pos} (k : Fld c.toBase cl f) (he : ED c e g) (hb : ∀ env x, attributeBase e (Str.ofString f) env x = x := by intro _ _; rfl) : ED c (.Attribute e (Str.ofString f) pos) (op1 (dAttr cl f) g) := let ⟨_, k1, k2⟩ := k.ex; ed_attr k1 k2 he hb
theorem xattrO (i : Nat) {y : Str} {cl f : String} {p2 pos : Pos} (k : Fld c.toBase cl f) (hN : c.N[i]? = some y := by kernel_rfl) (hv : visB c.sc y = true := by kernel_rfl) (hd : (y == ("__debug__" : Str)) = false := by kernel_rfl) (hcd : (y == ("__classdict__" : Str)) = false := by kernel_rfl) : ED c (.Attribute (.Name y p2) (Str.ofString f) pos) (attrO i cl f) := let ⟨_, k1, k2⟩ := k.ex; ed_attrO k1 k2 hN (vis_of hv) hd hcd
theorem xstaO (i : Nat) {y : Str} {cl f : String} {e : Expr} {g : M D} {p2 pos' pos : Pos} (k : Fld c.toBase cl f) (he : ED c e g) (hN : c.N[i]? = some y := by kernel_rfl) (hv : visB c.sc y = true := by kernel_rfl) (hs : ∀ env, swapsWith e (some (.Attribute (.Name y p2) (Str.ofString f) pos')) pos.line env = pure false := by intro _; rfl) (hd : (y == ("__debug__" : Str)) = false := by kernel_rfl) (hcd : (y == ("__classdict__" : Str)) = false := by kernel_rfl) :
    ES c (.Assign [.Attribute (.Name y p2) (Str.ofString f) pos'] e pos) (staO i cl f g) := let ⟨_, k1, k2⟩ := k.ex; es_staO k1 k2 hN (vis_of hv) he hs hd hcd
theorem xmet {k : Nat} {cl m : String} {g : List D → OutF} {o e : Expr} {es : List Expr} {fo : M D} {f : M (List D)} {apos pos : Pos} {pl : Env → Sem Bool} (me : MetD c.toBase k cl m [] g) (ho : ED c o fo) (ha : EA c (e :: es) f) (hk : Nat.ble k c.k = true := by kernel_rfl)
    (hst : ∀ env, starEach (e :: es) env = (false, eval e env) :: starEach es env := by intro _; rfl) (hpl : ∀ env, (backTo pos (starEach es env)).any (·.1) = false := by intro _; rfl)
    (ht : ∀ env, eval (.Call (.Attribute o (Str.ofString m) apos) (e :: es) [] pos) env = (do
      let ov ← eval o env
      standAt apos.atName
      let (f, first) ← holding [ov] (getMethod ov (Str.ofString m) (pl env))
      callWith pos f first (backTo pos (starEach (e :: es) env)) (backToKw pos (keywordEach [] env))) := by intro _; rfl) (hc : c.hot = false := by first | rfl | assumption) : ED c (.Call (.Attribute o (Str.ofString m) apos) (e :: es) [] pos) (metM cl m g fo f) := ed_met me (Nat.le_of_ble_eq_true hk) ho ha hst hpl ht
theorem xpro {k : Nat} {cl m : String} {g : List D → OutF} {o : Expr} {fo : M D} {pos : Pos} (me : PropD c.toBase k cl m g) (ho : ED c o fo) (hk : Nat.ble (k + 1) c.k = true := by kernel_rfl) (hb : ∀ env x, attributeBase o (Str.ofString m) env x = x := by intro _ _; rfl) (hc : c.hot = false := by first | rfl | assumption) : ED c (.Attribute o (Str.ofString m) pos) (proM cl g fo) := ed_pro me (Nat.le_of_ble_eq_true hk) ho hb
theorem xinI {k : Nat} {cl : String} {g : List D → OutF} {a b : Expr} {fa fb : M D} {pos : Pos} (me : MetD c.toBase k cl "__contains__" [] g) (ha : ED c a fa) (hb : ED c b fb) (hk : Nat.ble k c.k = true := by kernel_rfl) (hm : behindInMarks .In b = false := by rfl) (hc : c.hot = false := by first | rfl | assumption) : ED c (.Compare a [.In] [b] pos) (inI cl g false fa fb) := ed_inI (.inl ⟨rfl, rfl⟩) me (Nat.le_of_ble_eq_true hk) ha hb hm
theorem xninI {k : Nat} {cl : String} {g : List D → OutF} {a b : Expr} {fa fb : M D} {pos : Pos} (me : MetD c.toBase k cl "__contains__" [] g) (ha : ED c a fa) (hb : ED c b fb) (hk : Nat.ble k c.k = true := by kernel_rfl) (hm : behindInMarks .NotIn b = false := by rfl) (hc : c.hot = false := by first | rfl | assumption) : ED c (.Compare a [.NotIn] [b] pos) (inI cl g true fa fb) := ed_inI (.inr ⟨rfl, rfl⟩) me (Nat.le_of_ble_eq_true hk) ha hb hm
theorem tinI {k : Nat} {cl : String} {g : List D → OutF} {a b : Expr} {fa fb : M D} {pos : Pos} (me : MetD c.toBase k cl "__contains__" [] g) (ha : ED c a fa) (hb : ED c b fb) (hk : Nat.ble k c.k = true := by kernel_rfl) (hm : behindInMarks .In b = false := by rfl) (hc : c.hot = false := by first | rfl | assumption) : ET c (.Compare a [.In] [b] pos) (tbM (inI cl g false fa fb)) := et_inI (.inl ⟨rfl, rfl⟩) me (Nat.le_of_ble_eq_true hk) ha hb hm
theorem tninI {k : Nat} {cl : String} {g : List D → OutF} {a b : Expr} {fa fb : M D} {pos : Pos} (me : MetD c.toBase k cl "__contains__" [] g) (ha : ED c a fa) (hb : ED c b fb) (hk : Nat.ble k c.k = true := by kernel_rfl) (hm : behindInMarks .NotIn b = false := by rfl) (hc : c.hot = false := by first | rfl | assumption) : ET c (.Compare a [.NotIn] [b] pos) (tbM (inI cl g true fa fb)) := et_inI (.inr ⟨rfl, rfl⟩) me (Nat.le_of_ble_eq_true hk) ha hb hm
theorem tcmp {op : CmpOp} {r : D → D → Option D} {a b : Expr} {f g : M D} {pos : Pos} (h : COp c op r) (ha : ED c a f) (hb : ED c b g) (hm : behindInMarks op b = false := by rfl) : ET c (.Compare a [op] [b] pos) (tbM (op2 r f g)) := et_cmp h ha hb hm
theorem xcmp {op : CmpOp} {r : D → D → Option D} {a b : Expr} {f g : M D} {pos : Pos} (h : COp c op r) (ha : ED c a f) (hb : ED c b g) (hm : behindInMarks op b = false := by rfl) : ED c (.Compare a [op] [b] pos) (op2 r f g) := ed_cmp h ha hb hm
theorem xfrz (i : Nat) {ss : List Stmt} {m : M Fl} (h : ESs c ss m) (hi : Nat.ble c.np i = true := by kernel_rfl) : ESs c ss (frzM i m) := ess_frz (Nat.le_of_ble_eq_true hi) h
end
end DL

namespace DL
open PySem PySem.Spec PyProof.Rows L2 PySem.Froz
/-! ### sets of texts: made of a list, sorted -/
/-- the set's table can be walked -/
structure TxR (P : Program) (w : World) (D : SD) (l : List Str) : Prop extends TxOk P w D l where
  ris : Ris D.2.2.place.toList
  led : w.params.followText "set-order" = true ∨ D.2.2.led = true
section
variable {P : Program} {w : World} {A : Around} {E : Value → Shared → Prop} {s : Shared}
theorem txr_tail {ep : Nat} {es1 : Array (Int × Value)} {t2 : SetTable} {wd : Bool} (r : Ris t2.place.toList) (h : w.params.followText "set-order" = true ∨ t2.led = true) : Ris (tailTx ep es1 t2 wd).2.2.place.toList ∧ (w.params.followText "set-order" = true ∨ (tailTx ep es1 t2 wd).2.2.led = true) := by
  unfold tailTx
  by_cases c : (!wd && t2.tooFull) = true
  · rw [if_pos c]
    exact ⟨relayAll_ris _ _ _, h.imp id fun q => (relayAll_led _ _ _).trans q⟩
  · rw [if_neg c]
    exact ⟨r, h⟩
theorem txr_add {D : SD} {l : List Str} {k : Str} (u : Tok) (F : TxR P w D l) : TxR P w (addTx (hashStr w k) (.str k u) D) (k :: l) := by
  have key : Ris (addTx (hashStr w k) (.str k u) D).2.2.place.toList ∧ (w.params.followText "set-order" = true ∨ (addTx (hashStr w k) (.str k u) D).2.2.led = true) := by
    have h1 := layNew_ris D.2.2 D.1 (hashStr w k) (.str k u) F.ris
    have h2 : w.params.followText "set-order" = true ∨ (layNew D.2.2 D.1 (hashStr w k) (.str k u)).2.1.led = true := F.led.imp id fun h => (layNew_led D.2.2 D.1 _ _).trans h
    refine txr_tail ?_ ?_
    · by_cases c : (layNew D.2.2 D.1 (hashStr w k) (.str k u)).2.1.plain = true
      · rw [if_pos c]; exact h1
      · rw [if_neg c]; exact h1
    · by_cases c : (layNew D.2.2 D.1 (hashStr w k) (.str k u)).2.1.plain = true
      · rw [if_pos c]; exact h2
      · rw [if_neg c]; exact h2
  exact ⟨add_ok u F.toTxOk, key.1, key.2⟩
/-- it is there already -/
theorem old_x {a : Addr} {T : String} {D : SD} {l : List Str} {k : Str} {u : Tok} {Q : Bool → Shared → Prop} (ho : s.heap.get? a = some (sObj T D)) (F : TxOk P w D l) (hk : k ∈ l) (hb : l.length < scanBound) (h : Q false s) : wpAny (model P w) A (setAddHashed a (.str k u) (hashStr w k)) Q E s := by
  obtain ⟨es, ep, t⟩ := D
  have hd : (sObj T (es, ep, t)).data = .set es ep t := rfl
  have hb0 : es.size < scanBound := by have : es.size = l.length := F.sz; omega
  have hkey : (strKind P w).is k (.str k u) = true := is_str k u
  obtain ⟨j, hj⟩ : ∃ j, List.findIdx? (fun e => (strKind P w).is k e.2) es.toList = some j := by
    obtain ⟨e, he, q⟩ := (F.mem k).mp hk
    cases hr : List.findIdx? (fun e => (strKind P w).is k e.2) es.toList with
    | some j => exact ⟨j, rfl⟩
    | none =>
      have := List.findIdx?_eq_none_iff.mp hr e he
      rw [q] at this
      cases this
  unfold setAddHashed setAddHashedIn
  refine wpAny_holding (wpAny_bind (wpAny_setState_of ho hd F.fit ?_))
  dsimp only
  rw [byScan_of rfl hb0 F.el]
  simp only [↓reduceIte]
  unfold setAddByScan
  refine wpAny_bind (wpAny_bind (wpAny_rule ?_))
  refine wpAny_bind (wpAny_setScan_of (knd := strKind P w) (k := k) hkey ho hd F.fit F.el ?_)
  rw [hj]
  exact wpAny_pure (wpAny_pure h)
/-- each once, the later ones first -/
def seen : List Str → List Str → List Str
  | [], l => l
  | k :: r, l => seen r (if k ∈ l then l else k :: l)
theorem add_any {a : Addr} {D : SD} {l : List Str} {k : Str} {u : Tok} {Q : Bool → Shared → Prop} (ho : s.heap.get? a = some (sObj "set" D)) (F : TxR P w D l) (hb : l.length + 1 < scanBound)
    (h : ∀ (b : Bool) (D' : SD) (h' : Heap), TxR P w D' (if k ∈ l then l else k :: l) → h'.get? a = some (sObj "set" D') → (∀ x o, x ≠ a → s.heap.get? x = some o → h'.get? x = some o) → h'.objs.size = s.heap.objs.size → Q b { s with heap := h' }) : wpAny (model P w) A (setAddHashed a (.str k u) (hashStr w k)) Q E s := by
  by_cases hk : k ∈ l
  · refine old_x ho F.toTxOk hk (by omega) ?_
    exact h false D s.heap (by rw [if_pos hk]; exact F) ho (fun _ _ _ e => e) rfl
  · refine add_x ho F.toTxOk hk hb ?_
    refine h true _ _ (by rw [if_neg hk]; exact txr_add u F) (get_upd _ ho rfl) (fun x o hx e => ?_) (Heap.size_update _ _ _)
    rw [Heap.get?_update_other _ _ (Ne.symm hx)]; exact e
theorem seen_len : ∀ (r l : List Str), (seen r l).length ≤ r.length + l.length
  | [], l => by simp [seen]
  | k :: r, l => by
    unfold seen
    by_cases h : k ∈ l
    · rw [if_pos h]; have := seen_len r l; simp; omega
    · rw [if_neg h]; have := seen_len r (k :: l); simp at this ⊢; omega
theorem upd_strs {I : Addr} {fp wr : List Addr} {G : Array GenState → Array GenState → Prop} {n : Nat} {Pv : Nat → Value → Prop} {St : Nat → Shared → Prop} {R : Result → Shared → Prop}
    (W : WalksS P w A.in1 I fp wr G n Pv St) (S : Addr) (hSf : S ∉ fp) (ks : List Str) (hn : n = ks.length) (hval : ∀ i v, Pv i v → ∃ k t, ks[i]? = some k ∧ v = .str k t) :
    ∀ (m i : Nat) (s : Shared) (l : List Str) (D : SD), n - i = m → i ≤ n → St i s → s.heap.get? S = some (sObj "set" D) → TxR P w D l → l.length + (n - i) + 1 < scanBound →
      (∀ s' D', Moved (S :: wr) G s s' → s'.heap.get? S = some (sObj "set" D') → TxR P w D' (seen (ks.drop i) l) → R (.ok (.ret .none)) s') →
      codeAny (model P w) A (.builtin "set.update.loop" ⟨[.ref S, .ref I], []⟩) R s := by
  have hSw : S ∉ wr := fun h => hSf (W.sub _ h)
  have hsub : ∀ b ∈ wr, b ∈ S :: wr := fun b hb => List.mem_cons_of_mem _ hb
  intro m
  induction m with
  | zero =>
    intro i s l D hm hi hst ho F hb hR
    obtain rfl : i = n := by omega
    refine codeAny_builtin PyProof.Rows.F.entry_set_update_loop ?_
    rw [Around.under_plainId PyProof.Rows.F.plain_set_update_loop _]
    show wpAny _ A.in1 (pyNext (.ref I) >>= _) _ _ s
    refine wpAny_bind (W.done s _ _ hst fun s' mv => ?_)
    show wpAny _ A.in1 (PySem.ret Value.none) _ _ s'
    refine wpAny_pure (hR s' D (mv.mono hsub) (mv.heap S _ hSw ho) ?_)
    rw [List.drop_of_length_le (by omega)]
    exact F
  | succ m ih =>
    intro i s l D hm hi hst ho F hb hR
    have hlt : i < n := by omega
    refine codeAny_builtin PyProof.Rows.F.entry_set_update_loop ?_
    rw [Around.under_plainId PyProof.Rows.F.plain_set_update_loop _]
    show wpAny _ A.in1 (pyNext (.ref I) >>= _) _ _ s
    refine wpAny_bind (W.item i s _ _ hlt hst fun v s' hP hst' mv => ?_)
    obtain ⟨z, t, hz, rfl⟩ := hval i v hP
    have ho' := mv.heap S _ hSw ho
    show wpAny _ A.in1 (holding [Value.str z t] (setAdd S (.str z t)) >>= _) _ _ s'
    refine wpAny_bind (wpAny_holding ?_)
    unfold setAdd
    refine wpAny_holding (wpAny_bind ((PySem.strKind P w).pyHash (k := z) (strKind_is _ _ _ _) ?_))
    refine add_any (s := { s' with toks := s'.toks + 1 }) ho' F (by omega) fun b D2 h2 F2 ho2 kp sz2 => ?_
    have hdrop : ks.drop i = z :: ks.drop (i + 1) := by
      obtain ⟨hl, e⟩ := List.getElem?_eq_some_iff.mp hz
      rw [List.drop_eq_getElem_cons hl, e]
    rw [hdrop] at hR
    have hlen : (if z ∈ l then l else z :: l).length ≤ l.length + 1 := by split <;> simp
    refine wpAny_pure ⟨plainId_quiet PyProof.Rows.F.plain_set_update_loop _, ih (i + 1) _ _ D2 (by omega) hlt (W.frame _ s' _ _ hst' (Nat.le_succ _) fun b hb' o e => ?_) ho2 F2 (by omega) fun s'' D3 mv'' ho3 F3 => ?_⟩
    · exact kp b o (fun h => hSf (by rw [← h]; exact hb')) e
    · refine hR s'' D3 (Moved.trans W.gtrans ((mv.mono hsub).then_heap (Nat.le_succ _) fun b o hb' e => ?_) mv'') ho3 F3
      exact kp b o (fun h => hb' (by rw [h]; exact List.mem_cons_self)) e
def set0 (w : World) : Obj := { cls := .type "set", dict := none, data := .set #[] 0 (.fresh 0 0 (!w.params.followText "set-order")) }
theorem txr0 : TxR P w (#[], 0, .fresh 0 0 (!w.params.followText "set-order")) [] := by
  refine ⟨TxOk.nil rfl, List.Pairwise.nil, ?_⟩
  show _ ∨ (!w.params.followText "set-order") = true
  cases w.params.followText "set-order"
  · exact .inr rfl
  · exact .inl rfl
theorem call_set_strs {l : Addr} {items : Array Value} (ks : List Str) {Q : Value → Shared → Prop} (hh : A.handled = none) (hl : s.heap.IsList l items) (hit : StrsAre items.toList ks) (hb : ks.length + 2 < scanBound)
    (h : ∀ (h' : Heap) (tk : Nat) (D : SD), h'.get? s.heap.objs.size = some (sObj "set" D) → TxR P w D (seen ks []) → (∀ b o, s.heap.get? b = some o → h'.get? b = some o) → Q (.ref s.heap.objs.size) { s with heap := h', toks := tk }) :
    wpAny (model P w) A (call (.type "set") [.ref l]) Q E s := by
  have hisz : items.size = ks.length := by
    have q := StrsAre.len_eq hit
    rw [Array.length_toList] at q
    exact q
  obtain ⟨c, tl, hmro⟩ := PySem.F.called_set.mro
  have hmade := PySem.F.called_set.made; have hsub := PySem.F.called_set.sub
  refine wpAny_call (codeAny_of_tree ?_)
  show wpAny _ _ (callAny (.type "set") _) _ _ _
  refine wpAny_pure ⟨Code.quiet_builtin _ (by decide +kernel), codeAny_builtin PySem.F.entry_type_call ?_⟩
  rw [Around.under_plain (weight_type_call_type "set" [.ref l] []) rfl]
  have h1 := PySem.F.called_set.notType; have h2 := PySem.F.called_set.canCreate
  have hct := PySem.F.typeCall_set_1 (.ref l)
  repeat (any_goals (first | assumption | wp_step))
  refine codeAny_mono (code_set_led1 (.ref l) (E := E) (Q₁ := fun obj s₁ => obj = .ref s.heap.objs.size ∧ s₁ = { s with heap := s.heap.push (set0 w) }) ⟨rfl, rfl⟩) fun r s₁ hr => ?_
  cases r with
  | error e => exact hr
  | ok fl =>
    cases fl with
    | ret obj =>
      obtain ⟨rfl, rfl⟩ := hr
      have hS : (s.heap.push (set0 w)).get? s.heap.objs.size = some (set0 w) := Heap.get?_push_size _ rfl
      have hT : Shared.TypeIs { s with heap := s.heap.push (set0 w) } (.ref s.heap.objs.size) "set" := ⟨_, hS, rfl⟩
      have hli := PySem.F.called_set.init.lookup
      have hbi := PySem.F.called_set.init.bind (.ref s.heap.objs.size)
      repeat (any_goals (first | assumption | wp_step))
      refine codeAny_mono (codeAny_call_builtin (R := wants (fun r s₂ => r = .none ∧ ∃ h' tk D, s₂ = { s with heap := h', toks := tk } ∧ h'.get? s.heap.objs.size = some (sObj "set" D) ∧ TxR P w D (seen ks []) ∧ (∀ b o, s.heap.get? b = some o → h'.get? b = some o)) E)
        PySem.F.called_set.init.plain PySem.F.entry_set_init (check_set_init_1 hT ?_)) fun r₂ s₂ hr₂ => ?_
      · obtain ⟨⟨ocls, odict, odata, oslots⟩, hol, hcl, nl, hdl⟩ := hl
        simp only at hcl hdl
        subst hcl; subst hdl
        have hol' : (s.heap.push (set0 w)).get? l = some { cls := .type "list", dict := odict, data := .seq items nl, slots := oslots } := Heap.get?_push_of_some _ hol
        have hsls := PySem.F.sub_list_set; have hslf := PySem.F.sub_list_frozenset
        have hne : (Value.type "list" == Value.type "dict") = false := by decide
        have hl1 : (s.heap.push (set0 w)).IsList l items := ⟨_, hol', rfl, nl, rfl⟩
        unfold Builtin.«set.__init__» noKeywords Builtin.Frozenset.updateFrom
        generalize hPI : pyIter = PI
        wp_walk
        subst hPI
        refine wpAny_pyIter_list hl1 (wpAny_bind (wpAny_runValue ?_))
        have hlS : l < s.heap.objs.size := Heap.lt_size hol
        have hh3 : A.in1.in1.in1.handled = none := by simp [hh]
        have hz1 : (s.heap.push (set0 w)).objs.size = s.heap.objs.size + 1 := Heap.size_push ..
        have hneI : l ≠ (s.heap.push (set0 w)).objs.size := by rw [hz1]; exact Nat.ne_of_lt (Nat.lt_succ_of_lt hlS)
        have hSf : s.heap.objs.size ∉ [(s.heap.push (set0 w)).objs.size, l] := by
          rw [hz1]; simp only [List.mem_cons, List.not_mem_nil, or_false, not_or]; exact ⟨Nat.ne_of_lt (Nat.lt_succ_self _), Nat.ne_of_gt hlS⟩
        have hval : ∀ (i : Nat) (v : Value), items[i]? = some v → ∃ k t, ks[i]? = some k ∧ v = .str k t := fun i v hv => by
          have hi : i < ks.length := by rw [← hisz]; exact (Array.getElem?_eq_some_iff.mp hv).1
          obtain ⟨t, e⟩ := SS.strs_at hit i v (by rw [Array.getElem?_toList]; exact hv)
          refine ⟨ks[i], t, List.getElem?_eq_getElem hi, ?_⟩
          rw [e, List.getD_eq_getElem?_getD, List.getElem?_eq_getElem hi] <;> rfl
        refine upd_strs ((Walks.list hh3 _ l hneI items).toS) s.heap.objs.size hSf ks hisz hval (items.size - 0) 0 _ [] (#[], 0, .fresh 0 0 (!w.params.followText "set-order")) (by omega) (Nat.zero_le _)
          ⟨⟨_, Heap.get?_push_size _ rfl, rfl, rfl⟩, hl1.push _⟩ (Heap.get?_push_of_some _ hS) txr0 (by rw [hisz]; simp; omega) fun s' D' mv ho F => ?_
        obtain ⟨h', g2, d', tk', os'⟩ := s'
        obtain rfl : g2 = s.gens := mv.gens
        obtain rfl : d' = s.drawn := mv.drawn
        obtain rfl : os' = s.os := mv.os
        show wpAny _ _ _ _ _ _
        refine wpAny_pure ?_
        show wpAny _ _ (PySem.ret Value.none) _ _ _
        refine wpAny_pure ⟨rfl, h', tk', D', rfl, ho, F, fun b o e => ?_⟩
        have hb0 : b < s.heap.objs.size := Heap.lt_size e
        refine mv.heap b o ?_ (Heap.get?_push_of_some _ (Heap.get?_push_of_some _ e))
        simp only [List.mem_cons, List.not_mem_nil, or_false, not_or]
        rw [hz1]; exact ⟨Nat.ne_of_lt hb0, Nat.ne_of_lt (Nat.lt_succ_of_lt hb0)⟩
      · cases r₂ with
        | error e => exact hr₂
        | ok fl₂ =>
          cases fl₂ with
          | ret r =>
            obtain ⟨rfl, h', tk, D', rfl, hS', hF', hk'⟩ := hr₂
            repeat (any_goals (first | assumption | wp_step))
            exact h _ _ _ hS' hF' hk'
          | _ => exact hr₂.elim
    | _ => exact hr.elim
theorem perm_of_sub {α : Type} [DecidableEq α] : ∀ {l xs : List α}, l.Nodup → (∀ k ∈ l, k ∈ xs) → xs.length = l.length → l.Perm xs
  | [], xs, _, _, h => by
    cases xs with
    | nil => exact .refl _
    | cons _ _ => cases h
  | k :: l, xs, nd, hs, h => by
    obtain ⟨n1, n2⟩ := List.nodup_cons.mp nd
    have hk := hs k List.mem_cons_self
    refine List.Perm.trans ((perm_of_sub n2 (fun j hj => ?_) ?_).cons k) (List.perm_cons_erase hk).symm
    · exact (List.mem_erase_of_ne (fun e => n1 (by rw [← e]; exact hj))).mpr (hs j (List.mem_cons_of_mem _ hj))
    · rw [List.length_erase_of_mem hk, h]; rfl
def vStr : Value → Str
  | .str k _ => k
  | _ => Str.empty
theorem strs_are : ∀ {vs : List Value}, (∀ v ∈ vs, ∃ k t, v = .str k t) → StrsAre vs (vs.map vStr)
  | [], _ => .nil
  | v :: vs, h => by
    obtain ⟨k, t, rfl⟩ := h v List.mem_cons_self
    exact .cons k t (strs_are fun u hu => h u (List.mem_cons_of_mem _ hu))
theorem sorted_setS {a : Addr} {D : SD} {l : List Str} {Q : Value → Shared → Prop} (ho : s.heap.get? a = some (sObj "set" D)) (F : TxR P w D l) (nd : l.Nodup) (hh : A.handled = none) (h64 : l.length < 64)
    (hQ : ∀ s' p (out : Array Value) (c : Nat) (ys : List Str), (∀ b o, s.heap.get? b = some o → s'.heap.get? b = some o) → s'.gens = s.gens → s'.os = s.os → s.heap.objs.size ≤ p →
      s'.heap.get? p = some (seqObj "list" out c) → StrsAre out.toList ys → ys.Perm l → sortedS ys = true → Q (.ref p) s') :
    wpAny (model P w) A (call (.builtin "sorted") [.ref a]) Q E s := by
  obtain ⟨es, ep, t⟩ := D
  have hsz : es.size = l.length := F.sz
  have sh : ∀ e ∈ es.toList, ∃ k tk, e.2 = Value.str k tk := fun e he => by
    obtain ⟨⟨k, h1, _⟩, _⟩ := F.el e he
    obtain ⟨tk, e1⟩ := Value.isStrOf_shape (x := k) (v := e.2) h1
    exact ⟨k, tk, e1⟩
  refine Calls.call_function_entry kind_sorted plain_sorted entry_sorted (args_sorted1 _) ?_
  unfold Builtin.«sorted»
  refine wpAny_bind (m := checkCount "sorted" 1 1 _) (wpAny_pure ?_)
  refine wpAny_bind (collect_set (A := A.in1) (es := es) (ep := ep) (t := t) hh ⟨_, ho, rfl, rfl⟩ F.fit (by rw [hsz]; unfold scanBound; omega) F.ris F.led fun s1 vs k1 hz g1 o1 pm => ?_)
  have hvl : vs.length = l.length := by rw [pm.length_eq, List.length_map, Array.length_toList]; exact hsz
  have hI : StrsAre vs (vs.map vStr) := strs_are fun v hv => by
    obtain ⟨e, he, q⟩ := List.mem_map.mp (pm.mem_iff.mp hv)
    obtain ⟨k, tk, h1⟩ := sh e he
    exact ⟨k, tk, by rw [← q]; exact h1⟩
  have pl : l.Perm (vs.map vStr) := by
    refine perm_of_sub nd (fun k hk => ?_) (by rw [List.length_map]; exact hvl)
    obtain ⟨e, he, q⟩ := (F.mem k).mp hk
    obtain ⟨tk, e1⟩ := Value.isStrOf_shape (x := k) (v := e.2) q
    exact List.mem_map.mpr ⟨e.2, pm.mem_iff.mpr (List.mem_map.mpr ⟨e, he, rfl⟩), by rw [e1]; rfl⟩
  refine wpAny_bind (wpAny_newList ?_ (by rw [hvl, sizeLine_eq]; omega))
  have hoL : (s1.heap.push (seqObj "list" vs.toArray 0)).get? s1.heap.objs.size = some (seqObj "list" vs.toArray 0) := Heap.get?_push_size _ rfl
  refine wpAny_bind (wpAny_holding (wpAny_call_entry slot_list_sort ⟨_, hoL, rfl⟩ entry_list_sort (list_sort_treeK strKind_oneLt hoL hI.keysOf (fun v₁ v₂ rest e => keyKind_strs (by rw [← e]; exact hI)) (by rw [hvl]; exact h64) fun st' hp hs => ⟨_, rfl, ?_⟩) (args_list_sort _)))
  obtain ⟨ys, g2, g3, g4⟩ := sorted_out_str hI hp hs
  obtain ⟨c, hc⟩ := sortedHeap_at (vs := vs) (out := (arrOf st').map (·.2)) hoL
  refine wpAny_pure ⟨_, rfl, hQ _ s1.heap.objs.size _ c ys (fun b u e => ?_) g1 o1 hz hc g2 (g3.trans pl.symm) g4⟩
  have q := k1 b u e
  have hlt := Heap.lt_size q
  show (sortedHeap (s1.heap.push (seqObj "list" vs.toArray 0)) s1.heap.objs.size vs _).get? b = some u
  rw [sortedHeap_old (Nat.ne_of_lt hlt) (by rw [size_push']; exact Nat.lt_succ_of_lt hlt)]
  exact Heap.get?_push_of_some _ q
end
end DL

namespace DL
open PySem PySem.Spec PyProof.Rows L2 PySem.Froz
def TxO (P : Program) (w : World) (a : Addr) (l : List Str) : HO := .ext fun h => ∃ D, h.get? a = some (sObj "set" D) ∧ TxR P w D l
theorem txo_ok {P : Program} {w : World} {H : Hp} {h : Heap} {a : Addr} {l : List Str} {D : SD} (h1 : h.get? a = some (sObj "set" D)) (h2 : TxR P w D l) : ObjOk P w H h a (TxO P w a l) :=
  ⟨⟨D, h1, h2⟩, ⟨_, h1⟩, fun _ _ ⟨D, q1, q2⟩ k => ⟨D, k _ q1, q2⟩⟩
section
variable {X : Cx}
def rSetS (X : Cx) : List V → Hp → VK → Prop := fun xs H Q => ∃ p ks, xs = [.ref p] ∧ SqL X.K H p (ks.map V.str) ∧ ks.length < 1000 ∧ ∀ a, H a = none → Q (.ref a) (upd H a (TxO X.prog X.w a (seen ks [])))
theorem call_setS (hc : X.calm = true) : CallR X (.type "set") (rSetS X) := by
  intro pins s σ H xs us Q I r ⟨p, ks, ex, hq, hn, q⟩
  subst ex
  obtain ⟨u, rfl, rx⟩ := vals1 r
  cases rx
  obtain ⟨its, rv, pl, hz⟩ := I.list hq
  refine call_set_strs ks (I.ok.hd hc) pl.isList (by rw [List.toList_toArray]; exact rv.strs) (by unfold scanBound; omega) fun h' tk D h1 h2 h3 => ?_
  exact ⟨.ref s.heap.objs.size, _, I.laid (t' := tk) h3 (Nat.le_refl _) (txo_ok h1 h2), rfl, q _ (I.hok.fresh (Nat.le_refl _))⟩
def rSortedTx (X : Cx) : List V → Hp → VK → Prop := fun xs H Q => ∃ a l, xs = [.ref a] ∧ H a = some (TxO X.prog X.w a l) ∧ l.Nodup ∧ l.length < 64 ∧ ∀ (ys : List Str) p, ys.Perm l → sortedS ys = true → H p = none → Q (.ref p) (upd H p (.lst (ys.map V.str)))
theorem cr_sortedTx (hc : X.calm = true) : CallR X (.builtin "sorted") (rSortedTx X) := by
  intro pins s σ H vs us Q I r ⟨a, l, ex, ha, nd, h64, q⟩
  subst ex
  obtain ⟨D, h1, h2⟩ := (I.hok a _ ha).1
  rw [Vals.ref1 r]
  refine sorted_setS h1 h2 nd (I.ok.hd hc) h64 fun s' p out c ys k g o hp hg hi hperm hs => ?_
  have hlen : (ys.map V.str).length ≤ sizeLine := by rw [List.length_map, hperm.length_eq, sizeLine_eq]; omega
  have hn : H p = none := I.hok.fresh hp
  have J : Inv X pins σ (upd H p (.lst (ys.map V.str))) { s with heap := s'.heap, gens := s'.gens, drawn := s'.drawn, toks := s'.toks } :=
    I.call (ch := []) (Un.laid k hp hn) (I.hok.laid k hp ⟨hlen, out.toList, c, vals_of_strs hi, hg⟩) (by rw [g]; exact I.bare) (fun _ z => nomatch z)
  have e : s' = { s with heap := s'.heap, gens := s'.gens, drawn := s'.drawn, toks := s'.toks } := by
    obtain ⟨_, _, _, _, _⟩ := s'
    obtain ⟨_, _, _, _, _⟩ := s
    cases o
    rfl
  rw [e]
  exact ⟨.ref p, _, J, rfl, q ys p hperm hs hn⟩
end
/-! ### by data -/
def dd : List Cs → List Cs → List Cs
  | [], l => l
  | k :: r, l => dd r (if k ∈ l then l else k :: l)
theorem seen_toS : ∀ (r l : List Cs), seen (r.map toS) (l.map toS) = (dd r l).map toS
  | [], l => rfl
  | k :: r, l => by
    unfold dd
    simp only [List.map_cons]
    unfold seen
    have : (toS k ∈ l.map toS) ↔ k ∈ l := ⟨fun h => by obtain ⟨j, h1, h2⟩ := List.mem_map.mp h; rw [← toS_inj h2]; exact h1, fun h => List.mem_map.mpr ⟨k, h, rfl⟩⟩
    by_cases h : k ∈ l
    · rw [if_pos h, if_pos (this.mpr h)]; exact seen_toS r l
    · rw [if_neg h, if_neg (fun q => h (this.mp q))]; exact seen_toS r (k :: l)
theorem seen_nodup : ∀ (r l : List Str), l.Nodup → (seen r l).Nodup
  | [], l, h => h
  | k :: r, l, h => by
    unfold seen
    by_cases q : k ∈ l
    · rw [if_pos q]; exact seen_nodup r l h
    · rw [if_neg q]; exact seen_nodup r (k :: l) (List.nodup_cons.mpr ⟨q, h⟩)
theorem dd_mem : ∀ (r l : List Cs) (x : Cs), x ∈ dd r l ↔ x ∈ r ∨ x ∈ l
  | [], l, x => by simp [dd]
  | k :: r, l, x => by
    unfold dd
    rw [dd_mem r]
    by_cases q : k ∈ l
    · rw [if_pos q]
      constructor
      · rintro (h | h)
        · exact .inl (List.mem_cons_of_mem _ h)
        · exact .inr h
      · rintro (h | h)
        · rcases List.mem_cons.mp h with e | h
          · exact .inr (by rw [e]; exact q)
          · exact .inl h
        · exact .inr h
    · rw [if_neg q]
      simp only [List.mem_cons]
      constructor
      · rintro (h | h | h)
        · exact .inl (.inr h)
        · exact .inl (.inl h)
        · exact .inr h
      · rintro ((h | h) | h)
        · exact .inr (.inl h)
        · exact .inl h
        · exact .inr (.inr h)
def dSortedSet : D → Option D
  | .lst xs => (asStrs xs).bind fun ss => if ss.length < 64 then some (.lst ((sortS (dd ss [])).map .str)) else none
  | _ => none
section
variable {c : Stat}
theorem dd_len (r l : List Cs) : (dd r l).length ≤ r.length + l.length := by
  have h := seen_len (r.map toS) (l.map toS)
  rw [seen_toS] at h
  simpa using h
theorem xsortedSet {e : Expr} {f : M D} {p p2 pos pos2 : Pos} (hm : c.mg "sorted" = none) (hm2 : c.mg "set" = none) (he : ED c e f) (hg : c.sc.names.lookup ("sorted" : Str) = some .globalImplicit := by kernel_rfl) (hg2 : c.sc.names.lookup ("set" : Str) = some .globalImplicit := by kernel_rfl)
    (h1 : ∀ env, starEach [e] env = [(false, eval e env)] := by intro _; rfl) (h2 : ∀ env, starEach [.Call (.Name "set" p2) [e] [] pos2] env = [(false, eval (.Call (.Name "set" p2) [e] [] pos2) env)] := by intro _; rfl) (hc : c.hot = false := by first | rfl | assumption) :
    ED c (.Call (.Name "sorted" p) [.Call (.Name "set" p2) [e] [] pos2] [] pos) (op1 dSortedSet f) := fun G X W z => by
  have gl : ∀ {x : Str}, Gn c x → Gl X x := fun h => Gn.gl h z
  have ps := pe_callTy (p := p2) (pos := pos2) (call_setS (z.calm hc)) (gl hg2) (by rw [z.mg]; exact hm2) bt_set (pa_cons (he G X W z) pa_nil (h1 _)) (by decide) (by decide) (h1 _) rfl
  refine pe_imp (pe_callB (cr_sortedTx (z.calm hc)) (gl hg) (by rw [z.mg]; exact hm) bt_sorted (pa_cons ps pa_nil (h2 _)) (by decide) (by decide) (h2 _) rfl) fun σ H Q ⟨F, ρ, R, q⟩ => ?_
  refine tG_bind R q fun F1 H1 ρ1 x dx s1 R1 rx q1 => ?_
  obtain ⟨d, e, af⟩ := q1.lift R1
  cases rx <;> simp only [dSortedSet] at e <;> try cases e
  rename_i hl rl ll
  obtain ⟨ss, e1, e2⟩ := Option.bind_eq_some_iff.mp e
  split at e2
  case isFalse => cases e2
  rename_i h64
  cases e2
  obtain ⟨rfl, rfl, hk⟩ := strs_of rl e1
  refine ⟨_, ss.map toS, rfl, .inl (same_rd R1.fh hl), by rw [List.length_map]; omega, fun a ha => ?_⟩
  have hd : seen (ss.map toS) [] = (dd ss []).map toS := seen_toS ss []
  have hdl : (dd ss []).length < 64 := by have := dd_len ss []; simp at this; omega
  refine ⟨a, _, rfl, upd_same, seen_nodup _ _ List.nodup_nil, by rw [hd, List.length_map]; exact hdl, fun ys pp hp hs hn => ?_⟩
  rw [hd] at hp
  rw [sortedS_eq hp hs]
  have hpa : pp ≠ a := fun e => by subst e; rw [upd_same] at hn; cases hn
  have hn1 : H1 pp = none := by rw [upd_ne hpa] at hn; exact hn
  have fa : F1 a = none := R1.fh.free ha
  have fp : F1 pp = none := R1.fh.free hn1
  refine af (.ref pp) (upd F1 pp (.lst (((sortS (dd ss [])).map toS).map V.str))) _ ⟨fun b o q => ?_, fun b o q => ?_, fun b o q => ?_, fun b hb => ?_⟩ ?_
  · rw [upd_ne (ne_of_none q fp)]; exact q
  · by_cases hb : b = pp
    · subst hb; rw [upd_same] at q ⊢; exact q
    · rw [upd_ne hb] at q ⊢
      rw [upd_ne (ne_of_none q fa)]; exact R1.fh b o q
  · rw [upd_ne (ne_of_none q hn1), upd_ne (ne_of_none q ha)]; exact q
  · have : b ≠ pp := fun e => by subst e; exact hb hn1
    rw [upd_ne this]
  · refine dn_lst fp (dns_strs fun x hx => ?_) ?_
    · have := sortS_mem.mp hx
      rw [dd_mem] at this
      rcases this with h | h
      · exact hk x h
      · cases h
    · rw [List.length_map, sortS_len]; have : (64 : Nat) ≤ sz := by decide
      omega
end
theorem mem_lk {a : Addr} {o : Obj} : ∀ {K : List (Addr × Obj)}, K.lookup a = some o → ∃ b, (b, o) ∈ K
  | [], h => by cases h
  | (b, p) :: r, h => by
    simp only [List.lookup] at h
    split at h
    · cases h; exact ⟨b, List.mem_cons_self⟩
    · obtain ⟨b', q⟩ := mem_lk h
      exact ⟨b', List.mem_cons_of_mem _ q⟩
theorem noList_of {K : PySem.W.Frag} (h : (K.all fun p => match p.2.cls with
    | .type n => !(n == "list")
    | _ => true) = true) : NoList K := fun a o e hc => by
  obtain ⟨b, hm⟩ := mem_lk e
  have := List.all_eq_true.mp h _ hm
  simp only [hc] at this
  exact absurd this (by decide)
end DL

namespace DL
open PySem L2 PyProof.Rows
/-! ### what the top has left, fact by fact -/
section
variable {K : PySem.W.Frag} {h : Heap} {mg : Str → Option Value} {P : Program} {w : World} {base : Heap} {Ts : List (Addr × Str)}
abbrev mkB (P : Program) (w : World) (K : PySem.W.Frag) (mg : Str → Option Value) (base : Heap) (Ts : List (Addr × Str) := []) : Base := ⟨P, w, K, mg, base, Ts⟩
theorem top_none (X : K.In h) (G : h.Ns mainGlobals mg) {x : Str} (a : PySem.W.nsIn K mainGlobals x = some none) : mg x = none := PySem.W.mg_none_of X G a
theorem top_str (X : K.In h) (G : h.Ns mainGlobals mg) {x y : Str} {cs : Cs} {t : Tok} (a : PySem.W.nsIn K mainGlobals x = some (some (.str y t))) (e : y = toS cs) : ∃ t, mg x = some (.str (toS cs) t) := ⟨t, by rw [← e]; exact PySem.W.mg_of X G a⟩
theorem top_int (X : K.In h) (G : h.Ns mainGlobals mg) {x : Str} {i : Int} {t : Tok} (a : PySem.W.nsIn K mainGlobals x = some (some (.int i t))) : ∃ t, mg x = some (.int i t) := ⟨t, PySem.W.mg_of X G a⟩
theorem top_fn (X : K.In h) (G : h.Ns mainGlobals mg) {x q : Str} {st : Stmt} {f : Addr} {oc : Value} {od an : Option Addr} {sl : Array (Option Value)} {kV dc pm cd ct : Value} (a : PySem.W.nsIn K mainGlobals x = some (some (.ref f)))
    (l : K.lookup f = some ⟨oc, od, .func (PySem.W.fnOf x q (defArgs st) (defBody st) (defScope st) .none kV dc pm an cd ct), sl⟩) (c : PySem.W.codeIn K cd q = true) (k : PySem.W.keepIn K (.ref f) = true) : ∃ f fd, Fun K x q st f fd ∧ mg x = some (.ref f) :=
  ⟨f, _, fun_mk l c k, PySem.W.mg_of X G a⟩
/-- a class, once -/
theorem top_cls {R : Prop} (X : K.In h) (G : h.Ns mainGlobals mg) {cl : String} {C : Addr} (a : PySem.W.nsIn K mainGlobals (Str.ofString cl) = some (some (.ref C))) (pg : PySem.W.plainGet K C Str.empty = true) (hd : PySem.W.hasDictIn K C = true) (po : PySem.W.plainOver K C = true)
    (sa : PySem.W.findIn K (.ref C) "__setattr__" = some (some (.builtin "object.__setattr__"))) (r : (∀ base, ClD (mkB P w K mg base Ts) cl C) → R) : R := r fun _ => ⟨PySem.W.mg_of X G a, ⟨pg, hd, po, sa⟩⟩
theorem top_clI {cl : String} {C : Addr} (k : ∀ base, ClD (mkB P w K mg base Ts) cl C) (ha : PySem.W.findIn K (.ref C) "__class__" = some (some (.builtin "object.__class__"))) (hn : PySem.W.specialIn K (.builtin "object.__class__") "__get__" = some (some (.builtin "getset_descriptor.__get__")))
    (htk : PySem.W.takesIn K (.builtin "object.__class__") = some true) (hm : PySem.W.mroIn K C (.type "object") = some true) (base : Heap) : ClI (mkB P w K mg base Ts) cl C := ⟨k base, ha, hn, htk, hm⟩
theorem top_met {x q : Str} {cl m : String} {st : Stmt} {C f : Addr} {oc : Value} {od an : Option Addr} {sl : Array (Option Value)} {kV dc pm cd ct : Value} (kc : ∀ base, ClD (mkB P w K mg base Ts) cl C) (a : PySem.W.findIn K (.ref C) (Str.ofString m) = some (some (.ref f))) (i : PySem.W.isFn K (.ref f) = true)
    (l : K.lookup f = some ⟨oc, od, .func (PySem.W.fnOf x q (defArgs st) (defBody st) (defScope st) .none kV dc pm an cd ct), sl⟩) (c : PySem.W.codeIn K cd q = true) (k : PySem.W.keepIn K (.ref f) = true) : ∃ C f fd, ClD (mkB P w K mg base Ts) cl C ∧ Meth K C (Str.ofString m) f ∧ Fun K x q st f fd :=
  ⟨C, f, _, kc base, ⟨a, i, k⟩, fun_mk l c k⟩
theorem top_ini {x q : Str} {cl : String} {st : Stmt} {C f : Addr} {oc : Value} {od an : Option Addr} {sl : Array (Option Value)} {kV dc pm cd ct : Value} (kc : ∀ base, ClD (mkB P w K mg base Ts) cl C) (mk : PySem.W.makesIn K C = true) (kp : PySem.W.keepIn K (.ref C) = true) (a : PySem.W.findIn K (.ref C) "__init__" = some (some (.ref f))) (i : PySem.W.isFn K (.ref f) = true)
    (l : K.lookup f = some ⟨oc, od, .func (PySem.W.fnOf x q (defArgs st) (defBody st) (defScope st) .none kV dc pm an cd ct), sl⟩) (c : PySem.W.codeIn K cd q = true) (k : PySem.W.keepIn K (.ref f) = true) : ∃ C f fd, ClD (mkB P w K mg base Ts) cl C ∧ Mk K C f ∧ Fun K x q st f fd :=
  ⟨C, f, _, kc base, ⟨mk, a, i, kp⟩, fun_mk l c k⟩
theorem top_pro {x q : Str} {cl m : String} {st : Stmt} {C p f : Addr} {rest : List Value} {oc : Value} {od an : Option Addr} {sl : Array (Option Value)} {kV dc pm cd ct : Value} (kc : ∀ base, ClD (mkB P w K mg base Ts) cl C) (a : PySem.W.findIn K (.ref C) (Str.ofString m) = some (some (.ref p))) (g : PySem.W.specialIn K (.ref p) "__get__" = some (some (.builtin "property.__get__")))
    (t : PySem.W.takesIn K (.ref p) = some true) (rc : PySem.W.recIn K p "property" = some (.ref f :: rest))
    (l : K.lookup f = some ⟨oc, od, .func (PySem.W.fnOf x q (defArgs st) (defBody st) (defScope st) .none kV dc pm an cd ct), sl⟩) (c : PySem.W.codeIn K cd q = true) (k : PySem.W.keepIn K (.ref f) = true) : ∃ C p f fd, ClD (mkB P w K mg base Ts) cl C ∧ PropOf K C (Str.ofString m) p f ∧ Fun K x q st f fd :=
  ⟨C, p, f, _, kc base, ⟨a, g, t, rest, rc⟩, fun_mk l c k⟩
theorem top_fld {cl f : String} {C : Addr} (kc : ∀ base, ClD (mkB P w K mg base Ts) cl C) (a : PySem.W.findIn K (.ref C) (Str.ofString f) = some none) : Fld (mkB P w K mg base Ts) cl f := ⟨C, kc base, a⟩
theorem top_isi1 {cl : String} {C : Addr} (kc : ∀ base, ClI (mkB P w K mg base Ts) cl C) (tb : (tys.all fun T => PySem.W.kitOne K (.ref C) (.type T) == some false) = true) (bt : (btys.all fun t => PySem.W.kitOne K (.type t) (.ref C) == some false) = true) : Isi (mkB P w K mg base Ts) [cl] := by
  have same : ∀ c ∈ [cl], ∀ C', mg (Str.ofString c) = some (.ref C') → c = cl ∧ C' = C := fun c hc C' e => by
    have hc := List.mem_singleton.mp hc
    subst hc
    exact ⟨rfl, (kc base).same e⟩
  refine ⟨fun c hc => ?_, fun c hc C' e T hT => ?_, fun c hc C' e T hT => ?_, fun c hc c' hc' C1 C2 e1 e2 => ?_⟩
  · have hc := List.mem_singleton.mp hc
    subst hc
    exact ⟨C, kc base⟩
  · obtain ⟨rfl, rfl⟩ := same c hc C' e
    exact eq_of_beq (List.all_eq_true.mp tb T hT)
  · obtain ⟨rfl, rfl⟩ := same c hc C' e
    exact eq_of_beq (List.all_eq_true.mp bt T hT)
  · obtain ⟨rfl, rfl⟩ := same c hc C1 e1
    obtain ⟨rfl, rfl⟩ := same c' hc' C2 e2
    unfold PySem.W.kitOne
    rw [if_pos (beq_self_eq_true _)]
    simp
end
end DL

namespace DL
/-! ### plain reasoning about the readings -/
def wp {α : Type} (m : M α) (ρ : En) (Q : α → En → Prop) : Prop := match m ρ with
  | .ok a ρ' => Q a ρ'
  | _ => False
theorem wp_mono {α : Type} {m : M α} {ρ : En} {Q Q' : α → En → Prop} (h : wp m ρ Q) (i : ∀ a ρ', Q a ρ' → Q' a ρ') : wp m ρ Q' := by
  unfold wp at *
  cases e : m ρ with
  | ok a ρ' => rw [e] at h; exact i _ _ h
  | err x ρ' => rw [e] at h; exact h
  | bad => rw [e] at h; exact h
theorem wp_ok {α : Type} {m : M α} {ρ : En} {Q : α → En → Prop} {a : α} {ρ' : En} (h : m ρ = .ok a ρ') : wp m ρ Q = Q a ρ' := by unfold wp; rw [h]
theorem wp_get {α : Type} {m : M α} {ρ : En} {Q : α → En → Prop} (h : wp m ρ Q) : ∃ a ρ', m ρ = .ok a ρ' ∧ Q a ρ' := by
  unfold wp at h
  cases e : m ρ with
  | ok a ρ' => rw [e] at h; exact ⟨a, ρ', rfl, h⟩
  | err x ρ' => rw [e] at h; exact h.elim
  | bad => rw [e] at h; exact h.elim
theorem wp_bnd {α β : Type} (m : M α) (f : α → M β) (ρ : En) (Q : β → En → Prop) : wp (bnd m f) ρ Q = wp m ρ fun a ρ' => wp (f a) ρ' Q := by
  unfold wp bnd
  cases m ρ <;> rfl
theorem wp_ret {α : Type} (a : α) (ρ : En) (Q : α → En → Prop) : wp (DL.ret a) ρ Q = Q a ρ := rfl
theorem wp_cn (d : D) (ρ : En) (Q : D → En → Prop) : wp (cn d) ρ Q = Q d ρ := rfl
/-- an option's value -/
def whenS {α : Type} (o : Option α) (Q : α → Prop) : Prop := match o with
  | some a => Q a
  | none => False
theorem when_some {α : Type} (a : α) (Q : α → Prop) : whenS (some a) Q = Q a := rfl
theorem wp_lift {α : Type} (o : Option α) (ρ : En) (Q : α → En → Prop) : wp (lift o) ρ Q = whenS o fun a => Q a ρ := by cases o <;> rfl
/-- what a slot holds -/
def fzAt (s : Option Sl) (Q : D → Prop) : Prop := match s with
  | some (.fz d) => Q d
  | _ => False
theorem fz_some (d : D) (Q : D → Prop) : fzAt (some (.fz d)) Q = Q d := rfl
theorem wp_v (i : Nat) (ρ : En) (Q : D → En → Prop) : wp (v i) ρ Q = fzAt ρ[i]? fun d => Q d ρ := by
  unfold wp v fzAt
  split <;> rename_i h <;> split at h <;> simp_all
theorem wp_op1 (r : D → Option D) (a : M D) (ρ : En) (Q : D → En → Prop) : wp (op1 r a) ρ Q = wp a ρ fun x ρ' => whenS (r x) fun d => Q d ρ' := by
  unfold op1; rw [wp_bnd]; congr; funext x ρ'; exact wp_lift ..
theorem wp_op2 (r : D → D → Option D) (a b : M D) (ρ : En) (Q : D → En → Prop) : wp (op2 r a b) ρ Q = wp a ρ fun x ρ1 => wp b ρ1 fun y ρ2 => whenS (r x y) fun d => Q d ρ2 := by
  unfold op2; rw [wp_bnd]; congr; funext x ρ'; rw [wp_bnd]; congr; funext y ρ2; exact wp_lift ..
theorem wp_args0 (ρ : En) (Q : List D → En → Prop) : wp args0 ρ Q = Q [] ρ := rfl
theorem wp_argc (a : M D) (r : M (List D)) (ρ : En) (Q : List D → En → Prop) : wp (argc a r) ρ Q = wp a ρ fun x ρ1 => wp r ρ1 fun xs ρ2 => Q (x :: xs) ρ2 := by
  unfold argc; rw [wp_bnd]; congr; funext x ρ'; rw [wp_bnd]; rfl
theorem wp_opL (r : List D → Option D) (a : M (List D)) (ρ : En) (Q : D → En → Prop) : wp (opL r a) ρ Q = wp a ρ fun xs ρ' => whenS (r xs) fun d => Q d ρ' := by
  unfold opL; rw [wp_bnd]; congr; funext x ρ'; exact wp_lift ..
theorem wp_opMt (T : D → Bool) (r : D → List D → Option D) (o : M D) (a : M (List D)) (ρ : En) (Q : D → En → Prop) : wp (opMt T r o a) ρ Q = wp o ρ fun x ρ1 => T x = true ∧ wp a ρ1 fun xs ρ2 => whenS (r x xs) fun d => Q d ρ2 := by
  unfold opMt; rw [wp_bnd]; congr; funext x ρ'
  cases h : T x
  · simp [wp]
  · simp only [if_true, wp_bnd, true_and]; congr; funext y ρ2; exact wp_lift ..
theorem wp_tbM (a : M D) (ρ : En) (Q : Bool → En → Prop) : wp (tbM a) ρ Q = wp a ρ fun x ρ' => whenS (asB x) fun b => Q b ρ' := by
  unfold tbM; rw [wp_bnd]; congr; funext x ρ'; exact wp_lift ..
theorem wp_trM (a : M D) (ρ : En) (Q : Bool → En → Prop) : wp (trM a) ρ Q = wp a ρ fun x ρ' => whenS (tru x) fun b => Q b ρ' := by
  unfold trM; rw [wp_bnd]; congr; funext x ρ'; exact wp_lift ..
theorem wp_notT (a : M Bool) (ρ : En) (Q : Bool → En → Prop) : wp (notT a) ρ Q = wp a ρ fun b ρ' => Q (!b) ρ' := by unfold notT; rw [wp_bnd]; rfl
theorem wp_andT (a b : M Bool) (ρ : En) (Q : Bool → En → Prop) : wp (andT a b) ρ Q = wp a ρ fun x ρ' => if x then wp b ρ' Q else Q false ρ' := by
  unfold andT; rw [wp_bnd]; congr; funext x ρ'; cases x <;> rfl
theorem wp_orT (a b : M Bool) (ρ : En) (Q : Bool → En → Prop) : wp (orT a b) ρ Q = wp a ρ fun x ρ' => if x then Q true ρ' else wp b ρ' Q := by
  unfold orT; rw [wp_bnd]; congr; funext x ρ'; cases x <;> rfl
theorem wp_andV (a b : M D) (ρ : En) (Q : D → En → Prop) : wp (andV a b) ρ Q = wp a ρ fun x ρ' => whenS (tru x) fun t => if t then wp b ρ' Q else Q x ρ' := by
  unfold andV; rw [wp_bnd]; congr; funext x ρ'; rw [wp_bnd, wp_lift]; congr; funext t; cases t <;> rfl
theorem wp_orV (a b : M D) (ρ : En) (Q : D → En → Prop) : wp (orV a b) ρ Q = wp a ρ fun x ρ' => whenS (tru x) fun t => if t then Q x ρ' else wp b ρ' Q := by
  unfold orV; rw [wp_bnd]; congr; funext x ρ'; rw [wp_bnd, wp_lift]; congr; funext t; cases t <;> rfl
theorem wp_ifE (t : M Bool) (a b : M D) (ρ : En) (Q : D → En → Prop) : wp (ifE t a b) ρ Q = wp t ρ fun x ρ' => if x then wp a ρ' Q else wp b ρ' Q := by
  unfold ifE; rw [wp_bnd]; congr; funext x ρ'; cases x <;> rfl
theorem wp_ifM (t : M Bool) (a b : M Fl) (ρ : En) (Q : Fl → En → Prop) : wp (ifM t a b) ρ Q = wp t ρ fun x ρ' => if x then wp a ρ' Q else wp b ρ' Q := by
  unfold ifM; rw [wp_bnd]; congr; funext x ρ'; cases x <;> rfl
/-- behind a statement -/
def nxt (f : Fl) (ρ : En) (b : M Fl) (Q : Fl → En → Prop) : Prop := match f with
  | .nx => wp b ρ Q
  | f => Q f ρ
theorem nxt_nx (ρ : En) (b : M Fl) (Q : Fl → En → Prop) : nxt .nx ρ b Q = wp b ρ Q := rfl
theorem nxt_rt (d : D) (ρ : En) (b : M Fl) (Q : Fl → En → Prop) : nxt (.rt d) ρ b Q = Q (.rt d) ρ := rfl
theorem wp_seqM (a b : M Fl) (ρ : En) (Q : Fl → En → Prop) : wp (seqM a b) ρ Q = wp a ρ fun f ρ' => nxt f ρ' b Q := by
  unfold seqM; rw [wp_bnd]; congr; funext f ρ'; cases f <;> rfl
theorem wp_retM (e : M D) (ρ : En) (Q : Fl → En → Prop) : wp (retM e) ρ Q = wp e ρ fun d ρ' => Q (.rt d) ρ' := by unfold retM; rw [wp_bnd]; rfl
theorem wp_dropM (e : M D) (ρ : En) (Q : Fl → En → Prop) : wp (dropM e) ρ Q = wp e ρ fun _ ρ' => Q .nx ρ' := by unfold dropM; rw [wp_bnd]; rfl
theorem wp_passM (ρ : En) (Q : Fl → En → Prop) : wp passM ρ Q = Q .nx ρ := rfl
theorem wp_asgM (t : Tg) (e : M D) (ρ : En) (Q : Fl → En → Prop) : wp (asgM t e) ρ Q = wp e ρ fun d ρ' => whenS (t d ρ') fun ρ2 => Q .nx ρ2 := by
  unfold asgM; rw [wp_bnd]; congr; funext d ρ'; unfold wp whenS; dsimp only; cases t d ρ' <;> rfl
theorem wp_slM (a : M D) (lo hi : M (Option Int)) (ρ : En) (Q : D → En → Prop) : wp (slM a lo hi) ρ Q = wp a ρ fun x ρ1 => wp lo ρ1 fun l ρ2 => wp hi ρ2 fun h ρ3 => whenS (dSl x l h) fun d => Q d ρ3 := by
  unfold slM; rw [wp_bnd]; congr; funext x ρ1; rw [wp_bnd]; congr; funext l ρ2; rw [wp_bnd]; congr; funext h ρ3; exact wp_lift ..
theorem wp_seqS (a : M D) (ρ : En) (Q : List D → En → Prop) : wp (seqS a) ρ Q = wp a ρ fun x ρ' => whenS (dSeq x) fun d => Q d ρ' := by unfold seqS; rw [wp_bnd]; congr; funext x ρ'; exact wp_lift ..
theorem wp_keysS (a : M D) (ρ : En) (Q : List D → En → Prop) : wp (keysS a) ρ Q = wp a ρ fun x ρ' => whenS (dKeys x) fun d => Q d ρ' := by unfold keysS; rw [wp_bnd]; congr; funext x ρ'; exact wp_lift ..
theorem wp_srcL (r : List D → Option (List D)) (a : M (List D)) (ρ : En) (Q : List D → En → Prop) : wp (srcL r a) ρ Q = wp a ρ fun x ρ' => whenS (r x) fun d => Q d ρ' := by unfold srcL; rw [wp_bnd]; congr; funext x ρ'; exact wp_lift ..
/-! ### loops -/
theorem for_ok {t : Tg} {body : M Fl} (I : Nat → En → Prop) : ∀ (ds : List D) (k : Nat) (ρ : En), I k ρ → (∀ (i : Nat) d ρ, ds[i]? = some d → I (k + i) ρ → ∃ ρ1 ρ2, t d ρ = some ρ1 ∧ body ρ1 = .ok .nx ρ2 ∧ I (k + i + 1) ρ2) → ∃ ρ', forL t body ds ρ = .ok .nx ρ' ∧ I (k + ds.length) ρ'
  | [], k, ρ, h0, _ => ⟨ρ, rfl, h0⟩
  | d :: r, k, ρ, h0, step => by
    obtain ⟨ρ1, ρ2, h1, h2, h3⟩ := step 0 d ρ rfl h0
    obtain ⟨ρ', h4, h5⟩ := for_ok I r (k + 1) ρ2 h3 fun i e ρ3 he hi => by
      have := step (i + 1) e ρ3 (by simpa using he) (by rw [show k + (i + 1) = k + 1 + i by omega]; exact hi)
      rw [show k + (i + 1) + 1 = k + 1 + i + 1 by omega] at this
      exact this
    refine ⟨ρ', ?_, by rw [List.length_cons, show k + (r.length + 1) = k + 1 + r.length by omega]; exact h5⟩
    unfold forL
    simp only [h1, h2]
    exact h4
theorem forM_ok {src : M (List D)} {t : Tg} {body : M Fl} {ds : List D} {ρ ρ0 : En} (I : Nat → En → Prop) (hs : src ρ = .ok ds ρ0) (h0 : I 0 ρ0) (step : ∀ (i : Nat) d ρ, ds[i]? = some d → I i ρ → ∃ ρ1 ρ2, t d ρ = some ρ1 ∧ body ρ1 = .ok .nx ρ2 ∧ I (i + 1) ρ2) : ∃ ρ', forM src t body ρ = .ok .nx ρ' ∧ I ds.length ρ' := by
  obtain ⟨ρ', h1, h2⟩ := for_ok I ds 0 ρ0 h0 fun i d ρ h => by rw [Nat.zero_add]; exact step i d ρ h
  refine ⟨ρ', ?_, by rw [Nat.zero_add] at h2; exact h2⟩
  unfold forM bnd
  rw [hs]
  exact h1
theorem lc_pure {vs : List Nat} {t : Tg} {mt : M Bool} {me : M D} {ρ : En} (p : D → Bool) (f : D → D) : ∀ (ds : List D), (∀ d ∈ ds, ∃ ρ1, t d ρ = some ρ1 ∧ mt ρ1 = .ok (p d) ρ1 ∧ (p d = true → me ρ1 = .ok (f d) ρ1) ∧ noOw ρ1 vs = true ∧ wipeE ρ1 vs = ρ) → ∀ acc, lcL vs t mt me ds acc ρ = .ok (acc ++ (ds.filter p).map f) ρ
  | [], _, acc => by simp [lcL, DL.ret]
  | d :: r, h, acc => by
    obtain ⟨ρ1, h1, h2, h3, h4, h5⟩ := h d List.mem_cons_self
    have ih := lc_pure p f r (fun e he => h e (List.mem_cons_of_mem _ he))
    unfold lcL
    simp only [h1, h2]
    cases e : p d with
    | true => simp only [h3 e, h4, if_true, h5, ih]; simp [e]
    | false => simp only [h4, if_true, h5, ih]; simp [e]
theorem lcM_pure {src : M (List D)} {vs : List Nat} {t : Tg} {mt : M Bool} {me : M D} {ρ ρ0 : En} {ds : List D} (p : D → Bool) (f : D → D) (hs : src ρ = .ok ds ρ0) (hn : noOw ρ0 vs = true) (h : ∀ d ∈ ds, ∃ ρ1, t d (wipeE ρ0 vs) = some ρ1 ∧ mt ρ1 = .ok (p d) ρ1 ∧ (p d = true → me ρ1 = .ok (f d) ρ1) ∧ noOw ρ1 vs = true ∧ wipeE ρ1 vs = wipeE ρ0 vs) :
    lcM src vs t mt me ρ = .ok (.lst ((ds.filter p).map f)) (back ρ0 (wipeE ρ0 vs) vs) := by
  unfold lcM bnd
  simp only [hs, hn, if_true]
  rw [lc_pure p f ds h []]
  simp
theorem lc_inv {vs : List Nat} {t : Tg} {mt : M Bool} {me : M D} (I : Nat → List D → En → Prop) : ∀ (ds : List D) (k : Nat) (acc : List D) (ρ : En), I k acc ρ → (∀ (i : Nat) d acc ρ, ds[i]? = some d → I (k + i) acc ρ → ∃ ρ1 b ρ2, t d ρ = some ρ1 ∧ mt ρ1 = .ok b ρ2 ∧
      ((b = true ∧ ∃ y ρ3, me ρ2 = .ok y ρ3 ∧ noOw ρ3 vs = true ∧ I (k + i + 1) (acc ++ [y]) (wipeE ρ3 vs)) ∨ (b = false ∧ noOw ρ2 vs = true ∧ I (k + i + 1) acc (wipeE ρ2 vs)))) → ∃ ys ρ', lcL vs t mt me ds acc ρ = .ok ys ρ' ∧ I (k + ds.length) ys ρ'
  | [], k, acc, ρ, h0, _ => ⟨acc, ρ, rfl, h0⟩
  | d :: r, k, acc, ρ, h0, step => by
    obtain ⟨ρ1, b, ρ2, h1, h2, h3⟩ := step 0 d acc ρ rfl h0
    have next : ∀ acc2 ρ4, I (k + 0 + 1) acc2 ρ4 → ∃ ys ρ', lcL vs t mt me r acc2 ρ4 = .ok ys ρ' ∧ I (k + (d :: r).length) ys ρ' := fun acc2 ρ4 hI => by
      obtain ⟨ys, ρ', q1, q2⟩ := lc_inv I r (k + 1) acc2 ρ4 hI fun i e acc3 ρ3 he hi => by
        have := step (i + 1) e acc3 ρ3 (by simpa using he) (by rw [show k + (i + 1) = k + 1 + i by omega]; exact hi)
        rw [show k + (i + 1) + 1 = k + 1 + i + 1 by omega] at this
        exact this
      exact ⟨ys, ρ', q1, by rw [List.length_cons, show k + (r.length + 1) = k + 1 + r.length by omega]; exact q2⟩
    unfold lcL
    simp only [h1, h2]
    rcases h3 with ⟨rfl, y, ρ3, h4, h5, h6⟩ | ⟨rfl, h5, h6⟩
    · obtain ⟨ys, ρ', q1, q2⟩ := next _ _ h6
      exact ⟨ys, ρ', by simp only [h4, h5, if_true]; exact q1, q2⟩
    · obtain ⟨ys, ρ', q1, q2⟩ := next _ _ h6
      exact ⟨ys, ρ', by simp only [h5, if_true]; exact q1, q2⟩
theorem lcM_of {src : M (List D)} {vs : List Nat} {t : Tg} {mt : M Bool} {me : M D} {ρ ρ0 ρ' : En} {ds ys : List D} (hs : src ρ = .ok ds ρ0) (hn : noOw ρ0 vs = true) (q : lcL vs t mt me ds [] (wipeE ρ0 vs) = .ok ys ρ') : lcM src vs t mt me ρ = .ok (.lst ys) (back ρ0 ρ' vs) := by
  unfold lcM bnd
  simp only [hs, hn, if_true, q]
theorem lc_filt {α : Type} {vs : List Nat} {t : Tg} {mt : M Bool} {me : M D} {ρ : En} (g : α → D) (p : α → Bool) (f : α → D) : ∀ (xs : List α), (∀ x ∈ xs, ∃ ρ1, t (g x) ρ = some ρ1 ∧ mt ρ1 = .ok (p x) ρ1 ∧ (p x = true → me ρ1 = .ok (f x) ρ1) ∧ noOw ρ1 vs = true ∧ wipeE ρ1 vs = ρ) → ∀ acc, lcL vs t mt me (xs.map g) acc ρ = .ok (acc ++ (xs.filter p).map f) ρ
  | [], _, acc => by simp [lcL, DL.ret]
  | d :: r, h, acc => by
    obtain ⟨ρ1, h1, h2, h3, h4, h5⟩ := h d List.mem_cons_self
    have ih := lc_filt g p f r (fun e he => h e (List.mem_cons_of_mem _ he))
    simp only [List.map_cons]
    unfold lcL
    simp only [h1, h2]
    cases e : p d with
    | true => simp only [h3 e, h4, if_true, h5, ih]; simp [e]
    | false => simp only [h4, if_true, h5, ih]; simp [e]
theorem lcM_filt {α : Type} {src : M (List D)} {vs : List Nat} {t : Tg} {mt : M Bool} {me : M D} {ρ ρ0 : En} {xs : List α} (g : α → D) (p : α → Bool) (f : α → D) (hs : src ρ = .ok (xs.map g) ρ0) (hn : noOw ρ0 vs = true) (h : ∀ x ∈ xs, ∃ ρ1, t (g x) (wipeE ρ0 vs) = some ρ1 ∧ mt ρ1 = .ok (p x) ρ1 ∧ (p x = true → me ρ1 = .ok (f x) ρ1) ∧ noOw ρ1 vs = true ∧ wipeE ρ1 vs = wipeE ρ0 vs) :
    lcM src vs t mt me ρ = .ok (.lst ((xs.filter p).map f)) (back ρ0 (wipeE ρ0 vs) vs) := by
  unfold lcM bnd
  simp only [hs, hn, if_true]
  rw [lc_filt g p f xs h []]
  simp
theorem lcM_map {α : Type} {src : M (List D)} {vs : List Nat} {t : Tg} {mt : M Bool} {me : M D} {ρ ρ0 : En} {xs : List α} (g : α → D) (f : α → D) (hs : src ρ = .ok (xs.map g) ρ0) (hn : noOw ρ0 vs = true) (h : ∀ x ∈ xs, ∃ ρ1, t (g x) (wipeE ρ0 vs) = some ρ1 ∧ mt ρ1 = .ok true ρ1 ∧ me ρ1 = .ok (f x) ρ1 ∧ noOw ρ1 vs = true ∧ wipeE ρ1 vs = wipeE ρ0 vs) :
    lcM src vs t mt me ρ = .ok (.lst (xs.map f)) (back ρ0 (wipeE ρ0 vs) vs) := by
  have := lcM_filt g (fun _ => true) f hs hn fun x hx => let ⟨ρ1, h1, h2, h3, h4, h5⟩ := h x hx; ⟨ρ1, h1, h2, fun _ => h3, h4, h5⟩
  have e : xs.filter (fun _ => true) = xs := List.filter_eq_self.mpr fun _ _ => rfl
  rw [e] at this
  exact this
end DL

namespace DL
open PySem L2
/-- an equation that simp takes for no plain computation -/
theorem nrfl {α : Sort _} {a b : α} (h : a = b) : a = b := h
/-! ### forgetting names at the end of a turn -/
def wipeA (ws : List Nat) (ρ : En) : En := ws.foldr (fun i r => r.set i .un) ρ
def wipM (ws : List Nat) (m : M Fl) : M Fl := fun ρ => match m ρ with
  | .ok f ρ' => .ok f (wipeA ws ρ')
  | .err x ρ' => .err x ρ'
  | .bad => .bad
theorem Rel.wipe1 {c : Stat} {G : Ent} {F H : Hp} {σ : L2.St} {ρ : En} {i : Nat} (R : Rel c.K c.mg c.xt G F H σ ρ) (hp : ∀ p ∈ G.pa, p.1 ≠ i) : Rel c.K c.mg c.xt G F H σ (ρ.set i .un) := by
  have old : ∀ (j : Nat) (s : Sl), (ρ.set i .un)[j]? = some s → s = .un ∨ (j ≠ i ∧ ρ[j]? = some s) := fun j s q => by
    by_cases hj : j = i
    · subst hj
      by_cases hl : j < ρ.length
      · rw [List.getElem?_set_self hl] at q; cases q; exact .inl rfl
      · rw [List.getElem?_eq_none (by rw [List.length_set]; omega)] at q; cases q
    · rw [List.getElem?_set_ne (Ne.symm hj)] at q
      exact .inr ⟨hj, q⟩
  refine ⟨R.f0, R.fh, R.kept, R.par, fun j d e => ?_, fun j d e => ?_, fun j k a d e hjk q1 q2 q3 => ?_, ?_, fun p hm => ?_, R.fn, R.tbs, R.tb, R.xcSet (fun x q => by cases q) fun _ _ => rfl⟩
  · rcases old j _ e with q | ⟨_, q⟩
    · cases q
    · exact R.fz j d q
  · rcases old j _ e with q | ⟨_, q⟩
    · cases q
    · exact R.ow j d q
  · rcases old j _ q1 with q | ⟨_, q1'⟩
    · cases q
    rcases old k _ q2 with q | ⟨_, q2'⟩
    · cases q
    exact R.ne j k a d e hjk q1' q2' q3
  · rw [List.length_set]; exact R.len
  · obtain ⟨d, q⟩ := R.pw p hm
    exact ⟨d, by rw [List.getElem?_set_ne (Ne.symm (hp p hm))]; exact q⟩
theorem Rel.wipeA {c : Stat} {G : Ent} {F H : Hp} {σ : L2.St} {ρ : En} (R : Rel c.K c.mg c.xt G F H σ ρ) : ∀ {ws : List Nat}, (∀ i ∈ ws, ∀ p ∈ G.pa, p.1 ≠ i) → Rel c.K c.mg c.xt G F H σ (DL.wipeA ws ρ)
  | [], _ => R
  | w :: ws, h => (R.wipeA (ws := ws) fun i hi => h i (List.mem_cons_of_mem _ hi)).wipe1 (h w List.mem_cons_self)
theorem wipeA_ow {d : D} {i : Nat} {ρ : En} : ∀ {ws : List Nat}, (DL.wipeA ws ρ)[i]? = some (.ow d) → ρ[i]? = some (.ow d)
  | [], h => h
  | w :: ws, h => by
    have h : ((DL.wipeA ws ρ).set w .un)[i]? = some (.ow d) := h
    by_cases hj : w = i
    · subst hj
      by_cases hl : w < (DL.wipeA ws ρ).length
      · rw [List.getElem?_set_self hl] at h; cases h
      · rw [List.getElem?_eq_none (by rw [List.length_set]; omega)] at h; cases h
    · rw [List.getElem?_set_ne hj] at h
      exact wipeA_ow (ws := ws) h
theorem PostS.wip {c : Stat} {G : Ent} {W : WX} {F : Hp} {Z : Ends} {ws : List Nat} {m : M Fl} {ρ : En} (hw : ∀ i ∈ ws, ∀ p ∈ G.pa, p.1 ≠ i) (h : PostS c G W F (wipM ws m ρ) Z) : PostS c G W F (m ρ) Z := by
  unfold wipM at h
  cases e : m ρ with
  | bad => rw [e] at h; exact h
  | err x ρ' => rw [e] at h; exact h
  | ok f ρ' =>
    rw [e] at h
    cases f with
    | nx => exact fun σ2 F2 H2 s2 R2 => h σ2 F2 H2 s2 (R2.wipeA hw)
    | bk => exact fun σ2 F2 H2 s2 R2 => h σ2 F2 H2 s2 (R2.wipeA hw)
    | ct => exact fun σ2 F2 H2 s2 R2 => h σ2 F2 H2 s2 (R2.wipeA hw)
    | rt d => exact fun v σ2 F2 H2 s2 R2 dn => h v σ2 F2 H2 s2 (R2.wipeA hw) dn
    | ro d => exact fun v σ2 F2 H2 s2 R2 dn q => h v σ2 F2 H2 s2 (R2.wipeA hw) dn fun i e he => q i e (wipeA_ow he)
theorem ess_wip {c : Stat} {ss : List Stmt} {m : M Fl} (ws : List Nat) (hs : ESs c ss m) (hb : (ws.all fun i => Nat.ble c.np i) = true) : ESs c ss (wipM ws m) := fun G X W p z => by
  have hw : ∀ i ∈ ws, c.np ≤ i := fun i hi => Nat.le_of_ble_eq_true (List.all_eq_true.mp hb i hi)
  refine pss_imp (hs G X W p z) fun Z σ H ⟨F, ρ, R, q⟩ => ⟨F, ρ, R, PostS.wip (fun i hi pr hpr e => ?_) q⟩
  have := p pr hpr
  have := hw i hi
  omega

/-! ### answers without a frame -/
inductive R (α : Type) where
  | ok (a : α) | err (x : Xc) | bad
def R.of {α : Type} : Option α → R α
  | some a => .ok a
  | none => .bad
def R.bind {α β : Type} (r : R α) (f : α → R β) : R β := match r with
  | .ok a => f a
  | .err x => .err x
  | .bad => .bad
/-- an answer, then what is done at a frame -/
def R.k {α β : Type} (r : R α) (ρ : En) (f : α → Out β) : Out β := match r with
  | .ok a => f a
  | .err x => .err x ρ
  | .bad => .bad
def Out.b {α β : Type} (o : Out α) (f : α → M β) : Out β := match o with
  | .ok a ρ => f a ρ
  | .err x ρ => .err x ρ
  | .bad => .bad
def Out.s (o : Out Fl) (b : M Fl) : Out Fl := match o with
  | .ok .nx ρ => b ρ
  | .ok f ρ => .ok f ρ
  | .err x ρ => .err x ρ
  | .bad => .bad
def Out.toR {α : Type} : Out α → R α
  | .ok a _ => .ok a
  | .err x _ => .err x
  | .bad => .bad
/-- what a call gives -/
def rF : OutF → R D
  | .ok d _ => .ok d
  | .err x _ => .err x
  | _ => .bad
section
variable {α β γ : Type}
@[simp] theorem R.of_some (a : α) : R.of (some a) = .ok a := nrfl rfl
@[simp] theorem R.of_none : R.of (none : Option α) = .bad := nrfl rfl
@[simp] theorem R.bind_ok (a : α) (f : α → R β) : (R.ok a).bind f = f a := nrfl rfl
@[simp] theorem R.bind_err (x : Xc) (f : α → R β) : (R.err x : R α).bind f = .err x := nrfl rfl
@[simp] theorem R.bind_bad (f : α → R β) : (R.bad : R α).bind f = .bad := nrfl rfl
@[simp] theorem R.bind_bind (r : R α) (f : α → R β) (g : β → R γ) : (r.bind f).bind g = r.bind fun a => (f a).bind g := by cases r <;> rfl
@[simp] theorem R.k_ok (a : α) (ρ : En) (f : α → Out β) : (R.ok a).k ρ f = f a := nrfl rfl
@[simp] theorem R.k_err (x : Xc) (ρ : En) (f : α → Out β) : (R.err x : R α).k ρ f = .err x ρ := nrfl rfl
@[simp] theorem R.k_bad (ρ : En) (f : α → Out β) : (R.bad : R α).k ρ f = .bad := nrfl rfl
@[simp] theorem R.bind_k (r : R α) (f : α → R β) (ρ : En) (g : β → Out γ) : (r.bind f).k ρ g = r.k ρ fun a => (f a).k ρ g := by cases r <;> rfl
@[simp] theorem Out.b_ok (a : α) (ρ : En) (f : α → M β) : (Out.ok a ρ).b f = f a ρ := nrfl rfl
@[simp] theorem Out.b_err (x : Xc) (ρ : En) (f : α → M β) : (Out.err x ρ : Out α).b f = .err x ρ := nrfl rfl
@[simp] theorem Out.b_bad (f : α → M β) : (Out.bad : Out α).b f = .bad := nrfl rfl
@[simp] theorem R.k_b (r : R α) (ρ : En) (f : α → Out β) (g : β → M γ) : (r.k ρ f).b g = r.k ρ fun a => (f a).b g := by cases r <;> rfl
@[simp] theorem Out.b_b (o : Out α) (f : α → M β) (g : β → M γ) : (o.b f).b g = o.b fun a ρ => (f a ρ).b g := by cases o <;> rfl
@[simp] theorem Out.s_nx (ρ : En) (b : M Fl) : (Out.ok Fl.nx ρ).s b = b ρ := nrfl rfl
@[simp] theorem Out.s_rt (d : D) (ρ : En) (b : M Fl) : (Out.ok (Fl.rt d) ρ).s b = .ok (.rt d) ρ := nrfl rfl
@[simp] theorem Out.s_ro (d : D) (ρ : En) (b : M Fl) : (Out.ok (Fl.ro d) ρ).s b = .ok (.ro d) ρ := nrfl rfl
@[simp] theorem Out.s_bk (ρ : En) (b : M Fl) : (Out.ok Fl.bk ρ).s b = .ok .bk ρ := nrfl rfl
@[simp] theorem Out.s_ct (ρ : En) (b : M Fl) : (Out.ok Fl.ct ρ).s b = .ok .ct ρ := nrfl rfl
@[simp] theorem Out.s_err (x : Xc) (ρ : En) (b : M Fl) : (Out.err x ρ).s b = .err x ρ := nrfl rfl
@[simp] theorem Out.s_bad (b : M Fl) : (Out.bad).s b = .bad := nrfl rfl
@[simp] theorem R.k_s (r : R α) (ρ : En) (f : α → Out Fl) (b : M Fl) : (r.k ρ f).s b = r.k ρ fun a => (f a).s b := by cases r <;> rfl
@[simp] theorem Out.s_ite (p : Prop) [Decidable p] (x y : Out Fl) (b : M Fl) : (if p then x else y).s b = if p then x.s b else y.s b := by split <;> rfl
@[simp] theorem Out.b_ite (p : Prop) [Decidable p] (x y : Out α) (f : α → M β) : (if p then x else y).b f = if p then x.b f else y.b f := by split <;> rfl
@[simp] theorem Out.toR_ok (a : α) (ρ : En) : (Out.ok a ρ).toR = .ok a := nrfl rfl
@[simp] theorem Out.toR_err (x : Xc) (ρ : En) : (Out.err x ρ : Out α).toR = .err x := nrfl rfl
@[simp] theorem Out.toR_bad : (Out.bad : Out α).toR = .bad := nrfl rfl
@[simp] theorem Out.toR_k (r : R α) (ρ : En) (f : α → Out β) : (r.k ρ f).toR = r.bind fun a => (f a).toR := by cases r <;> rfl
@[simp] theorem Out.toR_ite (p : Prop) [Decidable p] (x y : Out α) : (if p then x else y).toR = if p then x.toR else y.toR := by split <;> rfl
@[simp] theorem R.bind_ite (p : Prop) [Decidable p] (x y : R α) (f : α → R β) : (if p then x else y).bind f = if p then x.bind f else y.bind f := by split <;> rfl
@[simp] theorem R.k_ite (p : Prop) [Decidable p] (x y : R α) (ρ : En) (f : α → Out β) : (if p then x else y).k ρ f = if p then x.k ρ f else y.k ρ f := by split <;> rfl
@[simp] theorem R.of_ite (p : Prop) [Decidable p] (x y : Option α) : R.of (if p then x else y) = if p then R.of x else R.of y := by split <;> rfl
@[simp] theorem rF_ok (d : D) (es : List D) : rF (.ok d es) = .ok d := nrfl rfl
@[simp] theorem rF_err (x : Xc) (es : List D) : rF (.err x es) = .err x := nrfl rfl
@[simp] theorem rF_bad : rF .bad = .bad := nrfl rfl
/-! ### words at a frame -/
@[simp] theorem at_bnd (m : M α) (f : α → M β) (ρ : En) : bnd m f ρ = (m ρ).b f := nrfl rfl
@[simp] theorem at_ret (a : α) (ρ : En) : DL.ret a ρ = .ok a ρ := nrfl rfl
@[simp] theorem at_lift (o : Option α) (ρ : En) : lift o ρ = (R.of o).k ρ fun a => .ok a ρ := by cases o <;> rfl
def fzR : Option Sl → R D
  | some (.fz d) => .ok d
  | _ => .bad
@[simp] theorem fzR_fz (d : D) : fzR (some (.fz d)) = .ok d := nrfl rfl
@[simp] theorem at_v (i : Nat) (ρ : En) : v i ρ = (fzR ρ[i]?).k ρ fun d => .ok d ρ := by
  unfold v fzR
  generalize ρ[i]? = o
  cases o with
  | none => rfl
  | some s => cases s <;> rfl
@[simp] theorem at_cn (d : D) (ρ : En) : cn d ρ = .ok d ρ := nrfl rfl
@[simp] theorem at_op1 (r : D → Option D) (a : M D) (ρ : En) : op1 r a ρ = (a ρ).b fun x => lift (r x) := nrfl rfl
@[simp] theorem at_op2 (r : D → D → Option D) (a b : M D) (ρ : En) : op2 r a b ρ = (a ρ).b fun x ρ1 => (b ρ1).b fun y => lift (r x y) := nrfl rfl
@[simp] theorem at_args0 (ρ : En) : args0 ρ = .ok [] ρ := nrfl rfl
@[simp] theorem at_argc (a : M D) (r : M (List D)) (ρ : En) : argc a r ρ = (a ρ).b fun x ρ1 => (r ρ1).b fun xs ρ2 => .ok (x :: xs) ρ2 := nrfl rfl
@[simp] theorem at_opL (r : List D → Option D) (a : M (List D)) (ρ : En) : opL r a ρ = (a ρ).b fun x => lift (r x) := nrfl rfl
@[simp] theorem at_opMt (T : D → Bool) (r : D → List D → Option D) (o : M D) (a : M (List D)) (ρ : En) : opMt T r o a ρ = (o ρ).b fun x ρ1 => if T x then (a ρ1).b fun xs => lift (r x xs) else .bad := by
  unfold opMt bnd
  cases o ρ with
  | ok x ρ1 => dsimp only [Out.b]; split <;> rfl
  | err x ρ1 => rfl
  | bad => rfl
@[simp] theorem at_tbM (a : M D) (ρ : En) : tbM a ρ = (a ρ).b fun x => lift (asB x) := nrfl rfl
@[simp] theorem at_trM (a : M D) (ρ : En) : trM a ρ = (a ρ).b fun x => lift (tru x) := nrfl rfl
@[simp] theorem at_notT (a : M Bool) (ρ : En) : notT a ρ = (a ρ).b fun x ρ1 => .ok (!x) ρ1 := nrfl rfl
theorem b_if {p : α → Bool} (o : Out α) (f g : α → M β) : (o.b fun x => if p x then f x else g x) = o.b fun x ρ1 => if p x then f x ρ1 else g x ρ1 := by
  cases o with
  | ok x ρ1 => show (if p x then f x else g x) ρ1 = _; dsimp only [Out.b]; split <;> rfl
  | err x ρ1 => rfl
  | bad => rfl
@[simp] theorem at_andT (a b : M Bool) (ρ : En) : andT a b ρ = (a ρ).b fun x ρ1 => if x then b ρ1 else .ok false ρ1 := b_if (p := fun x => x) (a ρ) (fun _ => b) (fun _ => DL.ret false)
@[simp] theorem at_orT (a b : M Bool) (ρ : En) : orT a b ρ = (a ρ).b fun x ρ1 => if x then .ok true ρ1 else b ρ1 := b_if (p := fun x => x) (a ρ) (fun _ => DL.ret true) (fun _ => b)
@[simp] theorem at_ifE (t : M Bool) (a b : M D) (ρ : En) : ifE t a b ρ = (t ρ).b fun x ρ1 => if x then a ρ1 else b ρ1 := b_if (p := fun x => x) (t ρ) (fun _ => a) (fun _ => b)
@[simp] theorem at_ifM (t : M Bool) (a b : M Fl) (ρ : En) : ifM t a b ρ = (t ρ).b fun x ρ1 => if x then a ρ1 else b ρ1 := b_if (p := fun x => x) (t ρ) (fun _ => a) (fun _ => b)
@[simp] theorem at_andV (a b : M D) (ρ : En) : andV a b ρ = (a ρ).b fun x ρ1 => (R.of (tru x)).k ρ1 fun t => if t then b ρ1 else .ok x ρ1 := by
  unfold andV bnd; cases a ρ with
  | ok x ρ1 => dsimp only [Out.b]; cases tru x with
    | none => rfl
    | some t => cases t <;> rfl
  | err x ρ1 => rfl
  | bad => rfl
@[simp] theorem at_orV (a b : M D) (ρ : En) : orV a b ρ = (a ρ).b fun x ρ1 => (R.of (tru x)).k ρ1 fun t => if t then .ok x ρ1 else b ρ1 := by
  unfold orV bnd; cases a ρ with
  | ok x ρ1 => dsimp only [Out.b]; cases tru x with
    | none => rfl
    | some t => cases t <;> rfl
  | err x ρ1 => rfl
  | bad => rfl
@[simp] theorem at_notV (a : M D) (ρ : En) : notV a ρ = (a ρ).b fun x ρ1 => (R.of (tru x)).k ρ1 fun t => .ok (.bl (!t)) ρ1 := by
  unfold notV bnd; cases a ρ with
  | ok x ρ1 => dsimp only [Out.b]; cases tru x <;> rfl
  | err x ρ1 => rfl
  | bad => rfl
@[simp] theorem at_chM (r r' : D → D → Option D) (a b e : M D) (ρ : En) : chM r r' a b e ρ = (a ρ).b fun x ρ1 => (b ρ1).b fun y ρ2 => (R.of ((r x y).bind asB)).k ρ2 fun k => if k then (e ρ2).b fun w => lift (r' y w) else .ok (.bl false) ρ2 := by
  unfold chM bnd; cases a ρ with
  | ok x ρ1 => dsimp only [Out.b]; cases b ρ1 with
    | ok y ρ2 => dsimp only; cases (r x y).bind asB with
      | none => rfl
      | some t => cases t <;> rfl
    | err x ρ1 => rfl
    | bad => rfl
  | err x ρ1 => rfl
  | bad => rfl
@[simp] theorem at_opt (m : M D) (ρ : En) : opt m ρ = (m ρ).b fun x ρ1 => (R.of (asI x)).k ρ1 fun i => .ok (some i) ρ1 := by
  unfold opt bnd; cases m ρ with
  | ok x ρ1 => dsimp only [Out.b]; cases asI x <;> rfl
  | err x ρ1 => rfl
  | bad => rfl
@[simp] theorem at_slM (a : M D) (lo hi : M (Option Int)) (ρ : En) : slM a lo hi ρ = (a ρ).b fun x ρ1 => (lo ρ1).b fun l ρ2 => (hi ρ2).b fun h => lift (dSl x l h) := nrfl rfl
@[simp] theorem at_seqM (a b : M Fl) (ρ : En) : seqM a b ρ = (a ρ).s b := by
  unfold seqM bnd Out.s; cases a ρ with
  | ok f ρ1 => cases f <;> rfl
  | err x ρ1 => rfl
  | bad => rfl
@[simp] theorem at_retM (e : M D) (ρ : En) : retM e ρ = (e ρ).b fun d ρ1 => .ok (.rt d) ρ1 := nrfl rfl
@[simp] theorem at_retN (ρ : En) : retN ρ = .ok (.rt .non) ρ := nrfl rfl
@[simp] theorem at_dropM (e : M D) (ρ : En) : dropM e ρ = (e ρ).b fun _ ρ1 => .ok .nx ρ1 := nrfl rfl
@[simp] theorem at_passM (ρ : En) : passM ρ = .ok .nx ρ := nrfl rfl
def asgO : Option En → Out Fl
  | some ρ => .ok .nx ρ
  | none => .bad
@[simp] theorem asgO_some (ρ : En) : asgO (some ρ) = .ok .nx ρ := nrfl rfl
@[simp] theorem at_asgM (t : Tg) (e : M D) (ρ : En) : asgM t e ρ = (e ρ).b fun d ρ1 => asgO (t d ρ1) := by
  unfold asgM bnd asgO; cases e ρ <;> rfl
def putO (s : Option Sl) (ρ : En) (i : Nat) (d : D) : Option En := match s with
  | some (.ow _) => none
  | some _ => some (ρ.set i (.fz d))
  | none => none
@[simp] theorem putO_un (ρ : En) (i : Nat) (d : D) : putO (some .un) ρ i d = some (ρ.set i (.fz d)) := nrfl rfl
@[simp] theorem putO_fz (e : D) (ρ : En) (i : Nat) (d : D) : putO (some (.fz e)) ρ i d = some (ρ.set i (.fz d)) := nrfl rfl
@[simp] theorem at_put (i : Nat) (d : D) (ρ : En) : put i d ρ = putO ρ[i]? ρ i d := nrfl rfl
@[simp] theorem at_tgN (ρ : En) : tgN [] ρ = some ρ := nrfl rfl
@[simp] theorem at_tgC (t : Tg) (u : List D → En → Option En) (d : D) (r : List D) (ρ : En) : tgC t u (d :: r) ρ = (t d ρ).bind (u r) := nrfl rfl
@[simp] theorem at_tgT (n : Nat) (t : List D → En → Option En) (ds : List D) (ρ : En) : tgT n t (.tup ds) ρ = if ds.length = n then t ds ρ else none := nrfl rfl
@[simp] theorem at_forM (src : M (List D)) (t : Tg) (body : M Fl) (ρ : En) : forM src t body ρ = (src ρ).b (forL t body) := nrfl rfl
@[simp] theorem at_seqS (a : M D) (ρ : En) : seqS a ρ = (a ρ).b fun x => lift (dSeq x) := nrfl rfl
@[simp] theorem at_srcL (r : List D → Option (List D)) (a : M (List D)) (ρ : En) : srcL r a ρ = (a ρ).b fun x => lift (r x) := nrfl rfl
@[simp] theorem at_keysS (a : M D) (ρ : En) : keysS a ρ = (a ρ).b fun x => lift (dKeys x) := nrfl rfl
@[simp] theorem at_cal (g : List D → OutF) (a : M (List D)) (ρ : En) : cal g a ρ = (a ρ).b fun ds ρ1 => (rF (g ds)).k ρ1 fun d => .ok d ρ1 := by
  unfold cal bnd; cases a ρ with
  | ok x ρ1 => dsimp only [Out.b]; cases g x <;> rfl
  | err x ρ1 => rfl
  | bad => rfl
@[simp] theorem at_calK (g : List D → OutF) (n m : Nat) (ix : List Nat) (a kw : M (List D)) (ρ : En) : calK g n m ix a kw ρ = (a ρ).b fun ds ρ1 => (kw ρ1).b fun es ρ2 => if ds.length = n ∧ es.length = m then (rF (g (pick ix (ds ++ es)))).k ρ2 fun d => .ok d ρ2 else .bad := by
  unfold calK; rw [at_bnd]; congr 1; funext x ρ1; rw [at_bnd]; congr 1; funext y ρ2
  split
  · cases g (pick ix (x ++ y)) <;> rfl
  · rfl
@[simp] theorem at_metM (cl m : String) (g : List D → OutF) (o : M D) (a : M (List D)) (ρ : En) : metM cl m g o a ρ = (o ρ).b fun x ρ1 => if okIns cl m x then (a ρ1).b fun ds ρ2 => (rF (g (x :: ds))).k ρ2 fun d => .ok d ρ2 else .bad := by
  unfold metM; rw [at_bnd]; congr 1; funext x ρ1
  split
  · rw [at_bnd]; congr 1; funext y ρ2; cases g (x :: y) <;> rfl
  · rfl
/-- what a property gives -/
def rP : OutF → R D
  | .ok d _ => .ok d
  | _ => .bad
@[simp] theorem rP_ok (d : D) (es : List D) : rP (.ok d es) = .ok d := nrfl rfl
@[simp] theorem at_proM (cl : String) (g : List D → OutF) (o : M D) (ρ : En) : proM cl g o ρ = (o ρ).b fun x ρ1 => if isIns cl x then (rP (g [x])).k ρ1 fun d => .ok d ρ1 else .bad := by
  unfold proM; rw [at_bnd]; congr 1; funext x ρ1
  split
  · cases g [x] <;> rfl
  · rfl
def rI : OutF → R Bool
  | .ok (.bl b) _ => .ok b
  | _ => .bad
@[simp] theorem rI_ok (b : Bool) (es : List D) : rI (.ok (.bl b) es) = .ok b := nrfl rfl
@[simp] theorem at_inI (cl : String) (g : List D → OutF) (neg : Bool) (a b : M D) (ρ : En) : inI cl g neg a b ρ = (a ρ).b fun x ρ1 => (b ρ1).b fun y ρ2 => if isIns cl y then (rI (g [y, x])).k ρ2 fun b => .ok (.bl (if neg then !b else b)) ρ2 else .bad := by
  unfold inI; rw [at_bnd]; congr 1; funext x ρ1; rw [at_bnd]; congr 1; funext y ρ2
  split
  · cases g [y, x] with
    | ok d es => cases d <;> rfl
    | _ => rfl
  · rfl
def rM (cl : String) : OutF → R D
  | .ok .non [.ins c fs] => if c = cl then .ok (.ins cl fs) else .bad
  | .err x _ => .err x
  | _ => .bad
@[simp] theorem rM_ok (cl : String) (fs : List (String × D)) : rM cl (.ok .non [.ins cl fs]) = .ok (.ins cl fs) := by simp [rM]
@[simp] theorem rM_err (cl : String) (x : Xc) (es : List D) : rM cl (.err x es) = .err x := nrfl rfl
@[simp] theorem at_mkM (cl : String) (g : List D → OutF) (n m : Nat) (ix : List Nat) (a kw : M (List D)) (ρ : En) : mkM cl g n m ix a kw ρ = (a ρ).b fun ds ρ1 => (kw ρ1).b fun es ρ2 => if ds.length = n ∧ es.length = m ∧ ix.head? = some 0 ∧ ix.tail.contains 0 = false then (rM cl (g (pick ix ((.ins cl [] :: ds) ++ es)))).k ρ2 fun d => .ok d ρ2 else .bad := by
  unfold mkM; rw [at_bnd]; congr 1; funext x ρ1; rw [at_bnd]; congr 1; funext y ρ2
  split
  · generalize g (pick ix ((.ins cl [] :: x) ++ y)) = o
    unfold rM
    split
    · split <;> rename_i h <;> simp [h]
    · rfl
    · first
      | rfl
      | (split <;> simp_all)
  · rfl
/-! own things -/
def owR : Option Sl → R D
  | some (.ow d) => .ok d
  | _ => .bad
@[simp] theorem owR_ow (d : D) : owR (some (.ow d)) = .ok d := nrfl rfl
def rR : OutF → R (D × D) := fun o => match o with
  | .ok d [e] => .ok (d, e)
  | _ => .bad
@[simp] theorem rR_ok (d e : D) : rR (.ok d [e]) = .ok (d, e) := nrfl rfl
def lstR : Option Sl → R (List D)
  | some (.ow (.lst ds)) => .ok ds
  | _ => .bad
@[simp] theorem lstR_ow (ds : List D) : lstR (some (.ow (.lst ds))) = .ok ds := nrfl rfl
@[simp] theorem at_lenO (i : Nat) (ρ : En) : lenO i ρ = (lstR ρ[i]?).k ρ fun ds => .ok (.int ds.length) ρ := by
  unfold lenO lstR
  generalize ρ[i]? = o
  cases o with
  | none => rfl
  | some s => cases s with
    | ow d => cases d <;> rfl
    | _ => rfl
@[simp] theorem at_fzV (m : M D) (ρ : En) : fzV m ρ = (m ρ).b fun d ρ1 => .ok (.fz d) ρ1 := nrfl rfl
@[simp] theorem at_owL (a : M (List D)) (ρ : En) : owL a ρ = (a ρ).b fun ds ρ1 => if ds.length ≤ sz then .ok (.ow (.lst ds)) ρ1 else .bad := by
  unfold owL bnd; cases a ρ with
  | ok x ρ1 => dsimp only [Out.b]; split <;> rfl
  | err x ρ1 => rfl
  | bad => rfl
@[simp] theorem at_owSeq (a : M D) (ρ : En) : owSeq a ρ = (a ρ).b fun d ρ1 => (R.of (dSeq d)).k ρ1 fun ds => .ok (.ow (.lst ds)) ρ1 := by
  unfold owSeq bnd; cases a ρ with
  | ok x ρ1 => dsimp only [Out.b]; cases dSeq x <;> rfl
  | err x ρ1 => rfl
  | bad => rfl
def putSO (np : Nat) (q : Option Sl) (ρ : En) (i : Nat) (s : Sl) : Option En := match q with
  | none => none
  | some (.ow _) => if np ≤ i then some (ρ.set i s) else none
  | some _ => some (ρ.set i s)
@[simp] theorem putSO_un (np : Nat) (ρ : En) (i : Nat) (s : Sl) : putSO np (some .un) ρ i s = some (ρ.set i s) := nrfl rfl
@[simp] theorem putSO_fz (np : Nat) (d : D) (ρ : En) (i : Nat) (s : Sl) : putSO np (some (.fz d)) ρ i s = some (ρ.set i s) := nrfl rfl
@[simp] theorem putSO_ow (np : Nat) (d : D) (ρ : En) (i : Nat) (s : Sl) : putSO np (some (.ow d)) ρ i s = if np ≤ i then some (ρ.set i s) else none := nrfl rfl
@[simp] theorem at_putS (np i : Nat) (s : Sl) (ρ : En) : putS np i s ρ = putSO np ρ[i]? ρ i s := by
  unfold putS putSO
  generalize ρ[i]? = o
  cases o with
  | none => rfl
  | some s => cases s <;> rfl
@[simp] theorem at_asgV (np i : Nat) (e : M Sl) (ρ : En) : asgV np i e ρ = (e ρ).b fun s ρ1 => asgO (putS np i s ρ1) := by
  unfold asgV bnd asgO; cases e ρ <;> rfl
@[simp] theorem at_parV (np i j : Nat) (a b : M Sl) (ρ : En) : parV np i j a b ρ = (a ρ).b fun s ρ1 => (b ρ1).b fun t ρ2 => asgO ((putS np i s ρ2).bind (putS np j t)) := by
  unfold parV bnd asgO; cases a ρ with
  | ok s ρ1 => dsimp only [Out.b]; cases b ρ1 with
    | ok t ρ2 =>
      dsimp only; cases putS np i s ρ2 with
      | none => rfl
      | some ρ3 => rfl
    | err x ρ1 => rfl
    | bad => rfl
  | err x ρ1 => rfl
  | bad => rfl
@[simp] theorem at_wipM (ws : List Nat) (m : M Fl) (ρ : En) : wipM ws m ρ = (m ρ).b fun f ρ1 => .ok f (wipeA ws ρ1) := by
  unfold wipM; cases m ρ <;> rfl
end
end DL

namespace DL
open PySem L2
/-! ### readings that leave the frame -/
class Pu {α : Type} (m : M α) : Prop where
  pu : ∀ ρ, (∃ a, m ρ = .ok a ρ) ∨ (∃ x, m ρ = .err x ρ) ∨ m ρ = .bad
section
variable {α β : Type}
theorem pu_b {o : Out α} {f : α → M β} {ρ : En} (ho : (∃ a, o = .ok a ρ) ∨ (∃ x, o = .err x ρ) ∨ o = .bad) (hf : ∀ a, (∃ b, f a ρ = .ok b ρ) ∨ (∃ x, f a ρ = .err x ρ) ∨ f a ρ = .bad) : (∃ b, o.b f = .ok b ρ) ∨ (∃ x, o.b f = .err x ρ) ∨ o.b f = .bad := by
  rcases ho with ⟨a, rfl⟩ | ⟨x, rfl⟩ | rfl
  · exact hf a
  · exact .inr (.inl ⟨x, rfl⟩)
  · exact .inr (.inr rfl)
theorem pu_k {r : R α} {f : α → Out β} {ρ : En} (hf : ∀ a, (∃ b, f a = .ok b ρ) ∨ (∃ x, f a = .err x ρ) ∨ f a = .bad) : (∃ b, r.k ρ f = .ok b ρ) ∨ (∃ x, r.k ρ f = .err x ρ) ∨ r.k ρ f = .bad := by
  cases r with
  | ok a => exact hf a
  | err x => exact .inr (.inl ⟨x, rfl⟩)
  | bad => exact .inr (.inr rfl)
theorem pu_if {p : Prop} [Decidable p] {x y : Out α} {ρ : En} (hx : (∃ b, x = .ok b ρ) ∨ (∃ e, x = .err e ρ) ∨ x = .bad) (hy : (∃ b, y = .ok b ρ) ∨ (∃ e, y = .err e ρ) ∨ y = .bad) : (∃ b, (if p then x else y) = .ok b ρ) ∨ (∃ e, (if p then x else y) = .err e ρ) ∨ (if p then x else y) = .bad := by
  split <;> assumption
theorem pu_ok (a : α) (ρ : En) : (∃ b, (Out.ok a ρ) = .ok b ρ) ∨ (∃ x, (Out.ok a ρ) = .err x ρ) ∨ (Out.ok a ρ) = .bad := .inl ⟨a, rfl⟩
theorem pu_bad (ρ : En) : (∃ b, (Out.bad : Out α) = .ok b ρ) ∨ (∃ x, (Out.bad : Out α) = .err x ρ) ∨ (Out.bad : Out α) = .bad := .inr (.inr rfl)
instance (a : α) : Pu (DL.ret a) := ⟨fun ρ => pu_ok a ρ⟩
instance (o : Option α) : Pu (lift o) := ⟨fun ρ => by rw [at_lift]; exact pu_k fun a => pu_ok a ρ⟩
theorem pu_lift (o : Option α) (ρ : En) : (∃ b, lift o ρ = .ok b ρ) ∨ (∃ x, lift o ρ = .err x ρ) ∨ lift o ρ = .bad := by rw [at_lift]; exact pu_k fun a => pu_ok a ρ
instance (i : Nat) : Pu (v i) := ⟨fun ρ => by rw [at_v]; exact pu_k fun a => pu_ok a ρ⟩
instance (d : D) : Pu (cn d) := ⟨fun ρ => pu_ok d ρ⟩
instance : Pu args0 := ⟨fun ρ => pu_ok _ ρ⟩
instance (r : D → Option D) (a : M D) [h : Pu a] : Pu (op1 r a) := ⟨fun ρ => pu_b (h.pu ρ) fun x => pu_lift _ ρ⟩
instance (r : D → D → Option D) (a b : M D) [h : Pu a] [k : Pu b] : Pu (op2 r a b) := ⟨fun ρ => pu_b (h.pu ρ) fun x => pu_b (k.pu ρ) fun y => pu_lift _ ρ⟩
instance (a : M D) (b : M (List D)) [h : Pu a] [k : Pu b] : Pu (argc a b) := ⟨fun ρ => pu_b (h.pu ρ) fun x => pu_b (k.pu ρ) fun y => pu_ok _ ρ⟩
instance (r : List D → Option D) (a : M (List D)) [h : Pu a] : Pu (opL r a) := ⟨fun ρ => pu_b (h.pu ρ) fun x => pu_lift _ ρ⟩
instance (T : D → Bool) (r : D → List D → Option D) (o : M D) (a : M (List D)) [h : Pu o] [k : Pu a] : Pu (opMt T r o a) := ⟨fun ρ => by rw [at_opMt]; exact pu_b (h.pu ρ) fun x => pu_if (pu_b (k.pu ρ) fun y => pu_lift _ ρ) (pu_bad ρ)⟩
instance (a : M D) [h : Pu a] : Pu (tbM a) := ⟨fun ρ => pu_b (h.pu ρ) fun x => pu_lift _ ρ⟩
instance (a : M D) [h : Pu a] : Pu (trM a) := ⟨fun ρ => pu_b (h.pu ρ) fun x => pu_lift _ ρ⟩
instance (a : M Bool) [h : Pu a] : Pu (notT a) := ⟨fun ρ => pu_b (h.pu ρ) fun x => pu_ok _ ρ⟩
instance (a b : M Bool) [h : Pu a] [k : Pu b] : Pu (andT a b) := ⟨fun ρ => by rw [at_andT]; exact pu_b (h.pu ρ) fun x => pu_if (k.pu ρ) (pu_ok _ ρ)⟩
instance (a b : M Bool) [h : Pu a] [k : Pu b] : Pu (orT a b) := ⟨fun ρ => by rw [at_orT]; exact pu_b (h.pu ρ) fun x => pu_if (pu_ok _ ρ) (k.pu ρ)⟩
instance (t : M Bool) (a b : M D) [h : Pu t] [k : Pu a] [l : Pu b] : Pu (ifE t a b) := ⟨fun ρ => by rw [at_ifE]; exact pu_b (h.pu ρ) fun x => pu_if (k.pu ρ) (l.pu ρ)⟩
instance (a b : M D) [h : Pu a] [k : Pu b] : Pu (andV a b) := ⟨fun ρ => by rw [at_andV]; exact pu_b (h.pu ρ) fun x => pu_k fun t => pu_if (k.pu ρ) (pu_ok _ ρ)⟩
instance (a b : M D) [h : Pu a] [k : Pu b] : Pu (orV a b) := ⟨fun ρ => by rw [at_orV]; exact pu_b (h.pu ρ) fun x => pu_k fun t => pu_if (pu_ok _ ρ) (k.pu ρ)⟩
instance (a : M D) [h : Pu a] : Pu (notV a) := ⟨fun ρ => by rw [at_notV]; exact pu_b (h.pu ρ) fun x => pu_k fun t => pu_ok _ ρ⟩
instance (r r' : D → D → Option D) (a b e : M D) [h : Pu a] [k : Pu b] [l : Pu e] : Pu (chM r r' a b e) := ⟨fun ρ => by rw [at_chM]; exact pu_b (h.pu ρ) fun x => pu_b (k.pu ρ) fun y => pu_k fun t => pu_if (pu_b (l.pu ρ) fun w => pu_lift _ ρ) (pu_ok _ ρ)⟩
instance (m : M D) [h : Pu m] : Pu (opt m) := ⟨fun ρ => by rw [at_opt]; exact pu_b (h.pu ρ) fun x => pu_k fun t => pu_ok _ ρ⟩
instance (a : M D) (lo hi : M (Option Int)) [h : Pu a] [k : Pu lo] [l : Pu hi] : Pu (slM a lo hi) := ⟨fun ρ => pu_b (h.pu ρ) fun x => pu_b (k.pu ρ) fun y => pu_b (l.pu ρ) fun w => pu_lift _ ρ⟩
instance (a : M D) [h : Pu a] : Pu (seqS a) := ⟨fun ρ => pu_b (h.pu ρ) fun x => pu_lift _ ρ⟩
instance (r : List D → Option (List D)) (a : M (List D)) [h : Pu a] : Pu (srcL r a) := ⟨fun ρ => pu_b (h.pu ρ) fun x => pu_lift _ ρ⟩
instance (a : M D) [h : Pu a] : Pu (keysS a) := ⟨fun ρ => pu_b (h.pu ρ) fun x => pu_lift _ ρ⟩
instance (g : List D → OutF) (a : M (List D)) [h : Pu a] : Pu (cal g a) := ⟨fun ρ => by rw [at_cal]; exact pu_b (h.pu ρ) fun x => pu_k fun d => pu_ok _ ρ⟩
instance (g : List D → OutF) (n m : Nat) (ix : List Nat) (a kw : M (List D)) [h : Pu a] [k : Pu kw] : Pu (calK g n m ix a kw) := ⟨fun ρ => by rw [at_calK]; exact pu_b (h.pu ρ) fun x => pu_b (k.pu ρ) fun y => pu_if (pu_k fun d => pu_ok _ ρ) (pu_bad ρ)⟩
instance (cl m : String) (g : List D → OutF) (o : M D) (a : M (List D)) [h : Pu o] [k : Pu a] : Pu (metM cl m g o a) := ⟨fun ρ => by rw [at_metM]; exact pu_b (h.pu ρ) fun x => pu_if (pu_b (k.pu ρ) fun y => pu_k fun d => pu_ok _ ρ) (pu_bad ρ)⟩
instance (cl : String) (g : List D → OutF) (o : M D) [h : Pu o] : Pu (proM cl g o) := ⟨fun ρ => by rw [at_proM]; exact pu_b (h.pu ρ) fun x => pu_if (pu_k fun d => pu_ok _ ρ) (pu_bad ρ)⟩
instance (cl : String) (g : List D → OutF) (neg : Bool) (a b : M D) [h : Pu a] [k : Pu b] : Pu (inI cl g neg a b) := ⟨fun ρ => by rw [at_inI]; exact pu_b (h.pu ρ) fun x => pu_b (k.pu ρ) fun y => pu_if (pu_k fun d => pu_ok _ ρ) (pu_bad ρ)⟩
instance (cl : String) (g : List D → OutF) (n m : Nat) (ix : List Nat) (a kw : M (List D)) [h : Pu a] [k : Pu kw] : Pu (mkM cl g n m ix a kw) := ⟨fun ρ => by rw [at_mkM]; exact pu_b (h.pu ρ) fun x => pu_b (k.pu ρ) fun y => pu_if (pu_k fun d => pu_ok _ ρ) (pu_bad ρ)⟩
instance (i : Nat) : Pu (lenO i) := ⟨fun ρ => by rw [at_lenO]; exact pu_k fun d => pu_ok _ ρ⟩
end
/-! ### targets that can be wiped -/
class PuT (vs : List Nat) (t : Tg) : Prop where
  pu : ∀ d ρ ρ1, noOw ρ vs = true → t d ρ = some ρ1 → noOw ρ1 vs = true ∧ wipeE ρ1 vs = wipeE ρ vs
theorem put_some {i : Nat} {d : D} {ρ ρ1 : En} (h : put i d ρ = some ρ1) : i < ρ.length ∧ ρ1 = ρ.set i (.fz d) := by
  unfold put at h
  cases e : ρ[i]? with
  | none => rw [e] at h; cases h
  | some s =>
    have hl : i < ρ.length := (List.getElem?_eq_some_iff.mp e).1
    rw [e] at h
    cases s with
    | ow _ => cases h
    | un => cases h; exact ⟨hl, rfl⟩
    | xc _ => cases h; exact ⟨hl, rfl⟩
    | fz _ => cases h; exact ⟨hl, rfl⟩
theorem noOw_set {ρ : En} {i : Nat} {d : D} : ∀ {vs : List Nat}, noOw ρ vs = true → noOw (ρ.set i (.fz d)) vs = true
  | [], _ => rfl
  | j :: vs, h => by
    have h1 : noOw ρ vs = true := by unfold noOw at h ⊢; simp only [List.all_cons, Bool.and_eq_true] at h; exact h.2
    have h2 := noOw_set (i := i) (d := d) h1
    unfold noOw at h h2 ⊢
    simp only [List.all_cons, Bool.and_eq_true] at h ⊢
    refine ⟨?_, h2⟩
    by_cases e : i = j
    · subst e
      by_cases hl : i < ρ.length
      · rw [List.getElem?_set_self hl]
      · rw [List.getElem?_eq_none (by rw [List.length_set]; omega)]
    · rw [List.getElem?_set_ne e]; exact h.1
theorem wipeE_ext {ρ ρ' : En} {vs : List Nat} (hl : ρ.length = ρ'.length) (h : ∀ i, i ∉ vs → ρ[i]? = ρ'[i]?) : wipeE ρ vs = wipeE ρ' vs := by
  apply List.ext_getElem?
  intro i
  by_cases hi : i ∈ vs
  · have len : (wipeE ρ vs).length = (wipeE ρ' vs).length := by rw [wipeE_length, wipeE_length, hl]
    rcases wipeE_in (ρ := ρ) hi with q | q
    · have : (wipeE ρ vs).length ≤ i := List.getElem?_eq_none_iff.mp q
      rw [q, List.getElem?_eq_none (by omega)]
    · have : i < (wipeE ρ vs).length := (List.getElem?_eq_some_iff.mp q).1
      rcases wipeE_in (ρ := ρ') hi with q' | q'
      · have : (wipeE ρ' vs).length ≤ i := List.getElem?_eq_none_iff.mp q'
        omega
      · rw [q, q']
  · rw [wipeE_out hi, wipeE_out hi, h i hi]
theorem wipe_set {ρ : En} {i : Nat} {s : Sl} {vs : List Nat} (hi : i ∈ vs) : wipeE (ρ.set i s) vs = wipeE ρ vs :=
  wipeE_ext (by rw [List.length_set]) fun j hj => by rw [List.getElem?_set_ne fun e => hj (by rw [← e]; exact hi)]
instance (i : Nat) : PuT [i] (put i) := ⟨fun d ρ ρ1 h e => by
  obtain ⟨hl, rfl⟩ := put_some e
  exact ⟨noOw_set h, wipe_set List.mem_cons_self⟩⟩
theorem tgT_some {n : Nat} {t : List D → En → Option En} {d : D} {ρ ρ1 : En} (h : tgT n t d ρ = some ρ1) : ∃ ds, d = .tup ds ∧ t ds ρ = some ρ1 := by
  unfold tgT at h
  split at h
  · rename_i ds
    split at h
    · exact ⟨ds, rfl, h⟩
    · cases h
  · cases h
theorem tgC_some {t : Tg} {u : List D → En → Option En} {ds : List D} {ρ ρ1 : En} (h : tgC t u ds ρ = some ρ1) : ∃ d r ρ2, ds = d :: r ∧ t d ρ = some ρ2 ∧ u r ρ2 = some ρ1 := by
  unfold tgC at h
  split at h
  · rename_i d r
    cases e : t d ρ with
    | none => rw [e] at h; cases h
    | some ρ2 => rw [e] at h; exact ⟨d, r, ρ2, rfl, e, h⟩
  · cases h
theorem tgN_some {ds : List D} {ρ ρ1 : En} (h : tgN ds ρ = some ρ1) : ρ1 = ρ := by
  unfold tgN at h
  split at h
  · cases h; rfl
  · cases h
instance (i j : Nat) : PuT [i, j] (tgT 2 (tgC (put i) (tgC (put j) tgN))) := ⟨fun d ρ ρ1 h e => by
  obtain ⟨ds, rfl, e0⟩ := tgT_some e
  obtain ⟨d1, r, ρ2, rfl, e1, e9⟩ := tgC_some e0
  obtain ⟨d2, r2, ρ3, rfl, e2, e8⟩ := tgC_some e9
  obtain rfl := tgN_some e8
  obtain ⟨_, rfl⟩ := put_some e1
  obtain ⟨_, rfl⟩ := put_some e2
  exact ⟨noOw_set (noOw_set h), by rw [wipe_set (by simp), wipe_set (by simp)]⟩⟩
instance (i j k : Nat) : PuT [i, j, k] (tgT 3 (tgC (put i) (tgC (put j) (tgC (put k) tgN)))) := ⟨fun d ρ ρ1 h e => by
  obtain ⟨ds, rfl, e0⟩ := tgT_some e
  obtain ⟨d1, r, ρ2, rfl, e1, e9⟩ := tgC_some e0
  obtain ⟨d2, r2, ρ3, rfl, e2, e8⟩ := tgC_some e9
  obtain ⟨d3, r3, ρ4, rfl, e3, e7⟩ := tgC_some e8
  obtain rfl := tgN_some e7
  obtain ⟨_, rfl⟩ := put_some e1
  obtain ⟨_, rfl⟩ := put_some e2
  obtain ⟨_, rfl⟩ := put_some e3
  exact ⟨noOw_set (noOw_set (noOw_set h)), by rw [wipe_set (by simp), wipe_set (by simp), wipe_set (by simp)]⟩⟩
/-! ### comprehensions that leave the frame -/
def lcx {τ : Type} (t : τ → R Bool) (e : τ → R D) : List τ → R (List D)
  | [] => .ok []
  | x :: r => match t x with
    | .ok true => (match e x with
      | .ok y => (match lcx t e r with
        | .ok ys => .ok (y :: ys)
        | _ => .bad)
      | _ => .bad)
    | .ok false => lcx t e r
    | _ => .bad
theorem lcx_fine {τ : Type} {t : τ → R Bool} {e : τ → R D} : ∀ xs : List τ, (∃ ys, lcx t e xs = .ok ys) ∨ lcx t e xs = .bad
  | [] => .inl ⟨[], rfl⟩
  | x :: r => by
    unfold lcx
    rcases lcx_fine (t := t) (e := e) r with ⟨ys, h⟩ | h
    · rw [h]
      split
      · split
        · exact .inl ⟨_, rfl⟩
        · exact .inr rfl
      · exact .inl ⟨_, rfl⟩
      · exact .inr rfl
    · rw [h]
      split
      · split <;> exact .inr rfl
      · exact .inr rfl
      · exact .inr rfl
def onT {α : Type} (o : Option En) (f : En → R α) : R α := match o with
  | some ρ => f ρ
  | none => .bad
@[simp] theorem onT_some {α : Type} (ρ : En) (f : En → R α) : onT (some ρ) f = f ρ := nrfl rfl
@[simp] theorem onT_none {α : Type} (f : En → R α) : onT none f = .bad := nrfl rfl
@[simp] theorem wipeE_nil (ρ : En) : wipeE ρ [] = ρ := nrfl rfl
@[simp] theorem wipeE_cons (ρ : En) (i : Nat) (vs : List Nat) : wipeE ρ (i :: vs) = (wipeE ρ vs).set i .un := nrfl rfl
@[simp] theorem wipeA_nil (ρ : En) : wipeA [] ρ = ρ := nrfl rfl
@[simp] theorem wipeA_cons (ρ : En) (i : Nat) (vs : List Nat) : wipeA (i :: vs) ρ = (wipeA vs ρ).set i .un := nrfl rfl
def nw : Option Sl → Bool
  | some (.ow _) => false
  | _ => true
@[simp] theorem nw_ow (d : D) : nw (some (.ow d)) = false := nrfl rfl
@[simp] theorem nw_un : nw (some .un) = true := nrfl rfl
@[simp] theorem nw_fz (d : D) : nw (some (.fz d)) = true := nrfl rfl
@[simp] theorem noOw_nil (ρ : En) : noOw ρ [] = true := nrfl rfl
@[simp] theorem noOw_cons (ρ : En) (i : Nat) (vs : List Nat) : noOw ρ (i :: vs) = (nw ρ[i]? && noOw ρ vs) := by
  first
  | rfl
  | (unfold noOw nw; simp only [List.all_cons]; congr 1)
theorem lcL_eq' {vs : List Nat} {t : Tg} {mt : M Bool} {me : M D} [ht : PuT vs t] [hm : Pu mt] [he : Pu me] {ρ : En} (hn : noOw ρ vs = true) (hw : wipeE ρ vs = ρ) {T : D → R Bool} {E : D → R D} (hT : ∀ d, T d = onT (t d ρ) fun ρ1 => (mt ρ1).toR) (hE : ∀ d, E d = onT (t d ρ) fun ρ1 => (me ρ1).toR) : ∀ (ds acc : List D), lcL vs t mt me ds acc ρ = (lcx T E ds).k ρ fun ys => .ok (acc ++ ys) ρ
  | [], acc => by simp [lcL, lcx, DL.ret]
  | d :: r, acc => by
    unfold lcL lcx
    rw [hT d, hE d]
    cases e : t d ρ with
    | none => rfl
    | some ρ1 =>
      obtain ⟨n1, w1⟩ := ht.pu d ρ ρ1 hn e
      rw [hw] at w1
      rw [onT_some, onT_some]
      dsimp only
      rcases hm.pu ρ1 with ⟨b, q⟩ | ⟨x, q⟩ | q
      · rw [q, Out.toR_ok]
        cases b with
        | false => simp only [n1, if_true, w1]; exact lcL_eq' hn hw hT hE r acc
        | true =>
          dsimp only
          rcases he.pu ρ1 with ⟨y, q2⟩ | ⟨x, q2⟩ | q2
          · rw [q2, Out.toR_ok]
            simp only [n1, if_true, w1]
            rw [lcL_eq' hn hw hT hE r (acc ++ [y])]
            rcases lcx_fine (t := T) (e := E) r with ⟨ys, h⟩ | h
            · rw [h]; simp
            · rw [h]; rfl
          · rw [q2]; rfl
          · rw [q2]; rfl
      · rw [q]; rfl
      · rw [q]; rfl
theorem lcL_eq {vs : List Nat} {t : Tg} {mt : M Bool} {me : M D} [ht : PuT vs t] [hm : Pu mt] [he : Pu me] {ρ : En} (hn : noOw ρ vs = true) (hw : wipeE ρ vs = ρ) (ds acc : List D) : lcL vs t mt me ds acc ρ = (lcx (fun d => onT (t d ρ) fun ρ1 => (mt ρ1).toR) (fun d => onT (t d ρ) fun ρ1 => (me ρ1).toR) ds).k ρ fun ys => .ok (acc ++ ys) ρ := lcL_eq' hn hw (fun _ => rfl) (fun _ => rfl) ds acc
theorem back_wipe {ρ : En} {vs : List Nat} : back ρ (wipeE ρ vs) vs = ρ := by
  apply List.ext_getElem?
  intro i
  by_cases hi : i ∈ vs
  · rw [back_in (by rw [wipeE_length]) hi]
  · rw [back_out hi, wipeE_out hi]
theorem wipe_wipe {ρ : En} {vs : List Nat} : wipeE (wipeE ρ vs) vs = wipeE ρ vs := wipeE_ext (wipeE_length ..) fun i hi => wipeE_out hi
theorem noOw_wipe {ρ : En} {vs : List Nat} : noOw (wipeE ρ vs) vs = true := by
  unfold noOw
  rw [List.all_eq_true]
  intro i hi
  rcases wipeE_in (ρ := ρ) hi with q | q <;> rw [q]
@[simp] theorem at_lcM (src : M (List D)) (vs : List Nat) (t : Tg) (mt : M Bool) (me : M D) [ht : PuT vs t] [hm : Pu mt] [he : Pu me] (ρ : En) : lcM src vs t mt me ρ = (src ρ).b fun ds ρ1 => if noOw ρ1 vs = true then (lcx (fun d => onT (t d (wipeE ρ1 vs)) fun ρ2 => (mt ρ2).toR) (fun d => onT (t d (wipeE ρ1 vs)) fun ρ2 => (me ρ2).toR) ds).k ρ1 fun ys => .ok (.lst ys) ρ1 else .bad := by
  unfold lcM bnd
  cases src ρ with
  | err x ρ1 => rfl
  | bad => rfl
  | ok ds ρ1 =>
    dsimp only [Out.b]
    split
    · rw [lcL_eq noOw_wipe wipe_wipe ds []]
      rcases lcx_fine (t := fun d => onT (t d (wipeE ρ1 vs)) fun ρ1 => (mt ρ1).toR) (e := fun d => onT (t d (wipeE ρ1 vs)) fun ρ1 => (me ρ1).toR) ds with ⟨ys, h⟩ | h
      · rw [h]; simp [back_wipe]
      · rw [h]; rfl
    · rfl
instance (src : M (List D)) (vs : List Nat) (t : Tg) (mt : M Bool) (me : M D) [hs : Pu src] [ht : PuT vs t] [hm : Pu mt] [he : Pu me] : Pu (lcM src vs t mt me) := ⟨fun ρ => by rw [at_lcM]; exact pu_b (hs.pu ρ) fun x => pu_if (pu_k fun d => pu_ok _ ρ) (pu_bad ρ)⟩
/-! what they give -/
theorem lcx_congr {τ : Type} {t t' : τ → R Bool} {e e' : τ → R D} {xs xs' : List τ} (hx : xs = xs') (ht : ∀ x, x ∈ xs' → t x = t' x) (he : ∀ x, x ∈ xs' → e x = e' x) : lcx t e xs = lcx t' e' xs' := by
  subst hx
  induction xs with
  | nil => rfl
  | cons x r ih =>
    unfold lcx
    rw [ht x List.mem_cons_self, he x List.mem_cons_self, ih (fun y hy => ht y (List.mem_cons_of_mem _ hy)) (fun y hy => he y (List.mem_cons_of_mem _ hy))]
@[simp] theorem lcx_map {τ υ : Type} (g : υ → τ) (t : τ → R Bool) (e : τ → R D) : ∀ xs : List υ, lcx t e (xs.map g) = lcx (fun x => t (g x)) (fun x => e (g x)) xs
  | [] => rfl
  | x :: r => by
    simp only [List.map_cons]
    unfold lcx
    rw [lcx_map g t e r]
@[simp] theorem lcx_ok {τ : Type} (t : τ → Bool) (e : τ → D) : ∀ xs : List τ, lcx (fun x => .ok (t x)) (fun x => .ok (e x)) xs = .ok ((xs.filter t).map e)
  | [] => rfl
  | x :: r => by
    unfold lcx
    rw [lcx_ok t e r]
    cases h : t x <;> simp [h]
@[simp] theorem lcx_true {τ : Type} (e : τ → D) (xs : List τ) : lcx (fun _ => .ok true) (fun x => .ok (e x)) xs = .ok (xs.map e) := by
  rw [lcx_ok (fun _ => true) e xs, List.filter_eq_self.mpr fun _ _ => rfl]
/-! ### for loops -/
def turn (t : Tg) (body : M Fl) (d : D) (ρ : En) : Out Fl := match t d ρ with
  | none => .bad
  | some ρ1 => body ρ1
def onS (o : Option En) (m : M Fl) : Out Fl := match o with
  | some ρ => m ρ
  | none => .bad
@[simp] theorem onS_some (ρ : En) (m : M Fl) : onS (some ρ) m = m ρ := nrfl rfl
@[simp] theorem onS_none (m : M Fl) : onS none m = .bad := nrfl rfl
@[simp] theorem at_turn (t : Tg) (body : M Fl) (d : D) (ρ : En) : turn t body d ρ = onS (t d ρ) body := by
  unfold turn onS; cases t d ρ <;> rfl
theorem forL_cons_nx {t : Tg} {body : M Fl} {d : D} {r : List D} {ρ ρ' : En} (h : turn t body d ρ = .ok .nx ρ') : forL t body (d :: r) ρ = forL t body r ρ' := by
  unfold turn at h
  cases e : t d ρ with
  | none => rw [e] at h; cases h
  | some ρ1 =>
    rw [e] at h
    dsimp only at h
    rw [show forL t body (d :: r) ρ = (match t d ρ with
    | none => .bad
    | some ρ' => match body ρ' with
      | .ok .nx ρ2 => forL t body r ρ2
      | .ok .ct ρ2 => forL t body r ρ2
      | .ok .bk ρ2 => .ok .nx ρ2
      | o => o) from rfl]
    simp only [e, h]
theorem forL_cons_rt {t : Tg} {body : M Fl} {d x : D} {r : List D} {ρ ρ' : En} (h : turn t body d ρ = .ok (.rt x) ρ') : forL t body (d :: r) ρ = .ok (.rt x) ρ' := by
  unfold turn at h
  cases e : t d ρ with
  | none => rw [e] at h; cases h
  | some ρ1 =>
    rw [e] at h
    dsimp only at h
    unfold forL
    simp only [e, h]
/-- a loop whose turns go on: a fold -/
theorem forL_fold {σ τ : Type} {t : Tg} {body : M Fl} (g : τ → D) (fr : σ → En) (st : σ → τ → σ) : ∀ (xs : List τ) (s0 : σ), (∀ (ys zs : List τ) (x : τ), xs = ys ++ x :: zs → turn t body (g x) (fr (ys.foldl st s0)) = .ok .nx (fr (st (ys.foldl st s0) x))) → forL t body (xs.map g) (fr s0) = .ok .nx (fr (xs.foldl st s0))
  | [], s0, _ => rfl
  | x :: r, s0, h => by
    have h0 := h [] r x rfl
    simp only [List.foldl_nil] at h0
    simp only [List.map_cons, List.foldl_cons]
    rw [forL_cons_nx h0]
    exact forL_fold g fr st r (st s0 x) fun ys zs y e => h (x :: ys) zs y (by rw [e]; rfl)
/-- a loop with a state that is not told -/
theorem forL_inv {σ : Type} {t : Tg} {body : M Fl} (fr : σ → En) (P : σ → Prop) : ∀ (ds : List D) (s0 : σ), P s0 → (∀ d ∈ ds, ∀ s, P s → ∃ s', turn t body d (fr s) = .ok .nx (fr s') ∧ P s') → ∃ s', forL t body ds (fr s0) = .ok .nx (fr s') ∧ P s'
  | [], s0, h0, _ => ⟨s0, rfl, h0⟩
  | d :: r, s0, h0, h => by
    obtain ⟨s1, h1, p1⟩ := h d List.mem_cons_self s0 h0
    obtain ⟨s2, h2, p2⟩ := forL_inv fr P r s1 p1 fun e he => h e (List.mem_cons_of_mem _ he)
    exact ⟨s2, by rw [forL_cons_nx h1]; exact h2, p2⟩
/-- the same, with the number of turns -/
theorem forL_inv' {σ τ : Type} {t : Tg} {body : M Fl} (g : τ → D) (fr : σ → En) (P : List τ → σ → Prop) : ∀ (xs ps : List τ) (s0 : σ), P ps s0 → (∀ (ys zs : List τ) (x : τ), xs = ys ++ x :: zs → ∀ s, P (ps ++ ys) s → ∃ s', turn t body (g x) (fr s) = .ok .nx (fr s') ∧ P (ps ++ ys ++ [x]) s') → ∃ s', forL t body (xs.map g) (fr s0) = .ok .nx (fr s') ∧ P (ps ++ xs) s'
  | [], ps, s0, h0, _ => ⟨s0, rfl, by rw [List.append_nil]; exact h0⟩
  | d :: r, ps, s0, h0, h => by
    obtain ⟨s1, h1, p1⟩ := h [] r d rfl s0 (by rw [List.append_nil]; exact h0)
    rw [List.append_nil] at p1
    obtain ⟨s2, h2, p2⟩ := forL_inv' g fr P r (ps ++ [d]) s1 p1 fun ys zs x e s hs => by
      have := h (d :: ys) zs x (by rw [e]; rfl) s (by simpa using hs)
      simpa using this
    exact ⟨s2, by rw [List.map_cons, forL_cons_nx h1]; exact h2, by simpa using p2⟩
/-- a loop that looks for something -/
theorem forL_find {τ : Type} {t : Tg} {body : M Fl} (g : τ → D) (ρ : En) (p : τ → Bool) (e : τ → D) (ρ' : τ → En) : ∀ (xs : List τ), (∀ x ∈ xs, turn t body (g x) ρ = if p x = true then .ok (.rt (e x)) (ρ' x) else .ok .nx ρ) → forL t body (xs.map g) ρ = match xs.find? p with
    | some x => .ok (.rt (e x)) (ρ' x)
    | none => .ok .nx ρ
  | [], _ => rfl
  | x :: r, h => by
    have h0 := h x List.mem_cons_self
    rw [List.map_cons]
    cases hp : p x with
    | true =>
      rw [hp, if_pos rfl] at h0
      rw [forL_cons_rt h0]
      simp [hp]
    | false =>
      rw [hp, if_neg Bool.false_ne_true] at h0
      rw [forL_cons_nx h0, forL_find g ρ p e ρ' r fun y hy => h y (List.mem_cons_of_mem _ hy)]
      simp [hp]
/-! ### calls -/
def finF (io : List Nat) : Out Fl → OutF
  | .ok (.rt d) ρ => (match ioAt io ρ with
    | some es => .ok d es
    | none => .bad)
  | .ok .nx ρ => (match ioAt io ρ with
    | some es => .ok .non es
    | none => .bad)
  | .ok (.ro d) ρ => (match ioAt io ρ with
    | some es => .oko d es
    | none => .bad)
  | .err x ρ => (match ioAt io ρ with
    | some es => .err x es
    | none => .bad)
  | _ => .bad
@[simp] theorem at_fnM (np n : Nat) (io : List Nat) (body : M Fl) (ds : List D) : fnM np n io body ds = if ds.length = np then finF io (body (entry io ds n)) else .bad := by
  unfold fnM finF
  split
  · rfl
  · rfl
@[simp] theorem fin0_rt (d : D) (ρ : En) : finF [] (.ok (.rt d) ρ) = .ok d [] := nrfl rfl
@[simp] theorem fin0_nx (ρ : En) : finF [] (.ok .nx ρ) = .ok .non [] := nrfl rfl
@[simp] theorem fin0_ro (d : D) (ρ : En) : finF [] (.ok (.ro d) ρ) = .oko d [] := nrfl rfl
@[simp] theorem fin0_err (x : Xc) (ρ : En) : finF [] (.err x ρ) = .err x [] := nrfl rfl
@[simp] theorem fin1_rt (d e : D) (ρ : En) : finF [0] (.ok (.rt d) (.ow e :: ρ)) = .ok d [e] := nrfl rfl
@[simp] theorem fin1_nx (e : D) (ρ : En) : finF [0] (.ok .nx (.ow e :: ρ)) = .ok .non [e] := nrfl rfl
@[simp] theorem fin_ite (io : List Nat) (p : Prop) [Decidable p] (x y : Out Fl) : finF io (if p then x else y) = if p then finF io x else finF io y := by split <;> rfl
end DL

namespace DL
open PySem L2
/-! ### a loop from a wiped frame -/
def preM (ws : List Nat) (m : M Fl) : M Fl := fun ρ => m (wipeA ws ρ)
theorem es_pre {c : Stat} {s : Stmt} {m : M Fl} (ws : List Nat) (hs : ES c s m) (hb : (ws.all fun i => Nat.ble c.np i) = true) : ES c s (preM ws m) := fun G X W p z => by
  have hw : ∀ i ∈ ws, c.np ≤ i := fun i hi => Nat.le_of_ble_eq_true (List.all_eq_true.mp hb i hi)
  refine ps_imp (hs G X W p z) fun Z σ H ⟨F, ρ, R, q⟩ => ⟨F, wipeA ws ρ, R.wipeA (fun i hi pr hpr e => ?_), q⟩
  have := p pr hpr
  have := hw i hi
  omega
@[simp] theorem at_preM (ws : List Nat) (m : M Fl) (ρ : En) : preM ws m ρ = m (wipeA ws ρ) := nrfl rfl
/-! ### own things at a frame -/
def owB : Option Sl → Bool
  | some (.ow _) => true
  | _ => false
@[simp] theorem owB_ow (d : D) : owB (some (.ow d)) = true := nrfl rfl
@[simp] theorem owB_un : owB (some .un) = false := nrfl rfl
@[simp] theorem owB_fz (d : D) : owB (some (.fz d)) = false := nrfl rfl
def owBL : Option Sl → Bool
  | some (.ow (.lst _)) => true
  | _ => false
@[simp] theorem owBL_ow (ds : List D) : owBL (some (.ow (.lst ds))) = true := nrfl rfl
@[simp] theorem at_isOw (i : Nat) (ρ : En) : isOw i ρ = owB ρ[i]? := by
  unfold isOw owB
  generalize ρ[i]? = o
  cases o with
  | none => rfl
  | some s => cases s <;> rfl
@[simp] theorem at_isOwL (i : Nat) (ρ : En) : isOwL i ρ = owBL ρ[i]? := by
  unfold isOwL owBL
  generalize ρ[i]? = o
  cases o with
  | none => rfl
  | some s => cases s with
    | ow d => cases d <;> rfl
    | _ => rfl
def calRO (o : OutF) (ρ : En) (i : Nat) : Out D := match o with
  | .ok d [e] => .ok d (ρ.set i (.ow e))
  | .err x [e] => .err x (ρ.set i (.ow e))
  | _ => .bad
@[simp] theorem calRO_ok (d e : D) (ρ : En) (i : Nat) : calRO (.ok d [e]) ρ i = .ok d (ρ.set i (.ow e)) := nrfl rfl
@[simp] theorem calRO_err (x : Xc) (e : D) (ρ : En) (i : Nat) : calRO (.err x [e]) ρ i = .err x (ρ.set i (.ow e)) := nrfl rfl
@[simp] theorem at_calR (g : List D → OutF) (i : Nat) (a : M (List D)) (ρ : En) : calR g i a ρ = if isOw i ρ then (a ρ).b fun ds ρ1 => (owR ρ1[i]?).k ρ1 fun j => calRO (g (j :: ds)) ρ1 i else .bad := by
  unfold calR own
  split
  · rw [at_bnd]; congr 1; funext ds ρ1
    unfold owR
    generalize ρ1[i]? = o
    cases o with
    | none => rfl
    | some s => cases s <;> rfl
  · rfl
def ixOO (q : Option Sl) (k : D) : R D := match q with
  | some (.ow (.lst ds)) => (match k with
    | .int n => R.of (atI ds n)
    | _ => .bad)
  | some (.ow (.dct kvs)) => (match asK k with
    | some k => R.of (lookK k kvs)
    | none => .bad)
  | _ => .bad
@[simp] theorem ixOO_lst (ds : List D) (n : Int) : ixOO (some (.ow (.lst ds))) (.int n) = R.of (atI ds n) := nrfl rfl
@[simp] theorem ixOO_dct (kvs : List (DK × D)) (k : D) : ixOO (some (.ow (.dct kvs))) k = R.of ((asK k).bind fun k => lookK k kvs) := by
  unfold ixOO; cases asK k <;> rfl
@[simp] theorem at_ixO (i : Nat) (a : M D) (ρ : En) : ixO i a ρ = if isOw i ρ then (a ρ).b fun k ρ1 => (ixOO ρ1[i]? k).k ρ1 fun d => .ok d ρ1 else .bad := by
  unfold ixO own
  split
  · rw [at_bnd]; congr 1; funext k ρ1
    generalize ρ1[i]? = o
    cases o with
    | none => rfl
    | some s => cases s with
      | ow d => cases d with
        | lst ds => cases k with
          | int n => dsimp only [ixOO]; cases atI ds n <;> rfl
          | _ => rfl
        | dct kvs => dsimp only [ixOO]; cases asK k with
          | none => rfl
          | some k => dsimp only; cases lookK k kvs <;> rfl
        | _ => rfl
      | _ => rfl
  · rfl
@[simp] theorem at_appO (i : Nat) (a : M D) (ρ : En) : appO i a ρ = if isOwL i ρ then (a ρ).b fun d ρ1 => (lstR ρ1[i]?).k ρ1 fun ds => if ds.length < sz then .ok .non (ρ1.set i (.ow (.lst (ds ++ [d])))) else .bad else .bad := by
  unfold appO ownL
  split
  · rw [at_bnd]; congr 1; funext d ρ1
    unfold lstR
    generalize ρ1[i]? = o
    cases o with
    | none => rfl
    | some s => cases s with
      | ow d => cases d <;> rfl
      | _ => rfl
  · rfl
def popR (ds : List D) (k : D) : R (D × List D) := match k with
  | .int n => if 0 ≤ n ∧ n < 2 ^ 62 then R.of ((ds[n.toNat]?).map fun d => (d, ds.eraseIdx n.toNat)) else .bad
  | _ => .bad
@[simp] theorem at_popO (i : Nat) (a : M D) (ρ : En) : popO i a ρ = if isOwL i ρ then (a ρ).b fun k ρ1 => (lstR ρ1[i]?).k ρ1 fun ds => (popR ds k).k ρ1 fun q => .ok q.1 (ρ1.set i (.ow (.lst q.2))) else .bad := by
  unfold popO ownL
  split
  · rw [at_bnd]; congr 1; funext k ρ1
    unfold lstR
    generalize ρ1[i]? = o
    cases o with
    | none => rfl
    | some s => cases s with
      | ow d => cases d with
        | lst ds => cases k with
          | int n =>
            dsimp only [popR, R.k]
            split
            · cases ds[n.toNat]? <;> rfl
            · rfl
          | _ => rfl
        | _ => cases k <;> rfl
      | _ => cases k <;> rfl
  · rfl
def stOO (q : Option Sl) (k d : D) : R D := match q with
  | some (.ow (.lst ds)) => (match k with
    | .int n => (match ixN ds.length n with
      | some j => .ok (.lst (ds.set j d))
      | none => .bad)
    | _ => .bad)
  | some (.ow (.dct kvs)) => (match asK k with
    | some k => if kvs.length < sz then .ok (.dct (putK' k d kvs)) else .bad
    | none => .bad)
  | _ => .bad
@[simp] theorem stOO_lst (ds : List D) (n : Int) (d : D) : stOO (some (.ow (.lst ds))) (.int n) d = (R.of (ixN ds.length n)).bind fun j => .ok (.lst (ds.set j d)) := by
  unfold stOO; dsimp only; cases ixN ds.length n <;> rfl
@[simp] theorem stOO_dct (kvs : List (DK × D)) (k d : D) : stOO (some (.ow (.dct kvs))) k d = (R.of (asK k)).bind fun k => if kvs.length < sz then .ok (.dct (putK' k d kvs)) else .bad := by
  unfold stOO; dsimp only; cases asK k <;> rfl
@[simp] theorem at_stO (i : Nat) (a k : M D) (ρ : En) : stO i a k ρ = if isOw i ρ then (a ρ).b fun d ρ1 => if isOw i ρ1 then (k ρ1).b fun k ρ2 => (stOO ρ2[i]? k d).k ρ2 fun e => .ok .nx (ρ2.set i (.ow e)) else .bad else .bad := by
  unfold stO own
  split
  · rw [at_bnd]; congr 1; funext d ρ1
    split
    · rw [at_bnd]; congr 1; funext k ρ1
      generalize ρ1[i]? = o
      cases o with
      | none => rfl
      | some s => cases s with
        | ow e => cases e with
          | lst ds => cases k with
            | int n => dsimp only [stOO]; cases ixN ds.length n <;> rfl
            | _ => rfl
          | dct kvs => dsimp only [stOO]; cases asK k with
            | none => rfl
            | some k => dsimp only; split <;> rfl
          | _ => rfl
        | _ => rfl
    · rfl
  · rfl
def frzR : Option Sl → R D
  | some (.ow (.lst ds)) => if ds.length ≤ sz then .ok (.lst ds) else .bad
  | some (.ow (.dct ds)) => if ds.length ≤ sz then .ok (.dct ds) else .bad
  | some (.ow (.ins cl fs)) => .ok (.ins cl fs)
  | _ => .bad
@[simp] theorem frzR_lst (ds : List D) : frzR (some (.ow (.lst ds))) = if ds.length ≤ sz then .ok (.lst ds) else .bad := nrfl rfl
@[simp] theorem frzR_dct (ds : List (DK × D)) : frzR (some (.ow (.dct ds))) = if ds.length ≤ sz then .ok (.dct ds) else .bad := nrfl rfl
@[simp] theorem frzR_ins (cl : String) (fs : List (String × D)) : frzR (some (.ow (.ins cl fs))) = .ok (.ins cl fs) := nrfl rfl
@[simp] theorem at_frzM {α : Type} (i : Nat) (m : M α) (ρ : En) : frzM i m ρ = (frzR ρ[i]?).k ρ fun d => m (ρ.set i (.fz d)) := by
  unfold frzM frzR
  generalize ρ[i]? = o
  cases o with
  | none => rfl
  | some s => cases s with
    | ow e => cases e with
      | lst ds => dsimp only; split <;> rfl
      | dct ds => dsimp only; split <;> rfl
      | _ => rfl
    | _ => rfl
def attrR (q : Option Sl) (cl f : String) : R D := match q with
  | some (.ow (.ins c fs)) => if c = cl then R.of (lookF f fs) else .bad
  | _ => .bad
@[simp] theorem attrR_ins (c cl f : String) (fs : List (String × D)) : attrR (some (.ow (.ins c fs))) cl f = if c = cl then R.of (lookF f fs) else .bad := nrfl rfl
@[simp] theorem at_attrO (i : Nat) (cl f : String) (ρ : En) : attrO i cl f ρ = (attrR ρ[i]? cl f).k ρ fun d => .ok d ρ := by
  unfold attrO attrR
  generalize ρ[i]? = o
  cases o with
  | none => rfl
  | some s => cases s with
    | ow e => cases e with
      | ins c fs => 
        dsimp only
        split
        · cases lookF f fs <;> rfl
        · rfl
      | _ => rfl
    | _ => rfl
def staR (q : Option Sl) (cl f : String) (d : D) : R D := match q with
  | some (.ow (.ins c fs)) => if c = cl ∧ fs.length < 1000 then .ok (.ins c (putF' f d fs)) else .bad
  | _ => .bad
@[simp] theorem staR_ins (c cl f : String) (fs : List (String × D)) (d : D) : staR (some (.ow (.ins c fs))) cl f d = if c = cl ∧ fs.length < 1000 then .ok (.ins c (putF' f d fs)) else .bad := nrfl rfl
@[simp] theorem at_staO (i : Nat) (cl f : String) (a : M D) (ρ : En) : staO i cl f a ρ = (a ρ).b fun d ρ1 => (staR ρ1[i]? cl f d).k ρ1 fun e => .ok .nx (ρ1.set i (.ow e)) := by
  unfold staO
  rw [at_bnd]; congr 1; funext d ρ1
  unfold staR
  generalize ρ1[i]? = o
  cases o with
  | none => rfl
  | some s => cases s with
    | ow e => cases e with
      | ins c fs => dsimp only; split <;> rfl
      | _ => rfl
    | _ => rfl
def calVO (g : List D → OutF) (s : Sl) : R D := match s with
  | .ow j => (match g [j] with
    | .ok d [_] => .ok d
    | .err x [_] => .err x
    | _ => .bad)
  | _ => .bad
def oF1 : OutF → R D
  | .ok d [_] => .ok d
  | .err x [_] => .err x
  | _ => .bad
@[simp] theorem oF1_ok (d e : D) : oF1 (.ok d [e]) = .ok d := nrfl rfl
@[simp] theorem oF1_err (x : Xc) (e : D) : oF1 (.err x [e]) = .err x := nrfl rfl
@[simp] theorem calVO_ow (g : List D → OutF) (j : D) : calVO g (.ow j) = oF1 (g [j]) := nrfl rfl
@[simp] theorem at_calV (g : List D → OutF) (a : M Sl) (ρ : En) : calV g a ρ = (a ρ).b fun s ρ1 => (calVO g s).k ρ1 fun d => .ok d ρ1 := by
  unfold calV
  rw [at_bnd]; congr 1; funext s ρ1
  cases s with
  | ow j => rw [calVO_ow]; unfold oF1; dsimp only; generalize g [j] = o; split <;> simp_all
  | _ => rfl
def oFO : OutF → R Sl
  | .ok d _ => .ok (.fz d)
  | .oko d _ => .ok (.ow d)
  | .err x _ => .err x
  | .bad => .bad
@[simp] theorem oFO_ok (d : D) (es : List D) : oFO (.ok d es) = .ok (.fz d) := nrfl rfl
@[simp] theorem oFO_oko (d : D) (es : List D) : oFO (.oko d es) = .ok (.ow d) := nrfl rfl
@[simp] theorem at_calO (g : List D → OutF) (a : M (List D)) (ρ : En) : calO g a ρ = (a ρ).b fun ds ρ1 => (oFO (g ds)).k ρ1 fun s => .ok s ρ1 := by
  unfold calO
  rw [at_bnd]; congr 1; funext ds ρ1
  cases g ds <;> rfl
def retVO : Sl → R Fl
  | .ow d => .ok (.ro d)
  | .fz d => .ok (.rt d)
  | _ => .bad
@[simp] theorem retVO_ow (d : D) : retVO (.ow d) = .ok (.ro d) := nrfl rfl
@[simp] theorem retVO_fz (d : D) : retVO (.fz d) = .ok (.rt d) := nrfl rfl
@[simp] theorem at_retV (e : M Sl) (ρ : En) : retV e ρ = (e ρ).b fun s ρ1 => (retVO s).k ρ1 fun f => .ok f ρ1 := by
  unfold retV
  rw [at_bnd]; congr 1; funext s ρ1
  cases s <;> rfl
end DL

namespace DL
open PySem L2
/-! ### data at work: what simp knows -/
@[simp] theorem R.bind_ret {α : Type} (r : R α) : (r.bind fun a => R.ok a) = r := by cases r <;> rfl
@[simp] theorem sz_val : sz = 16777216 := of_decide_eq_true (by decide)
@[simp] theorem dIsi_ty (cls : List String) (x : D) (T : String) : dIsi cls [x, .ty T] = (isiT cls T x).map D.bl := nrfl rfl
@[simp] theorem dIsi_gl (cls : List String) (x : D) (cl : String) : dIsi cls [x, .gl cl] = (isiC cls cl x).map D.bl := nrfl rfl
@[simp] theorem isiT_str_non (cls : List String) : isiT cls "str" .non = some false := nrfl rfl
@[simp] theorem isiT_str_bl (cls : List String) (x : Bool) : isiT cls "str" (.bl x) = some false := nrfl rfl
@[simp] theorem isiT_str_int (cls : List String) (x : Int) : isiT cls "str" (.int x) = some false := nrfl rfl
@[simp] theorem isiT_str_str (cls : List String) (x : Cs) : isiT cls "str" (.str x) = some true := nrfl rfl
@[simp] theorem isiT_str_tup (cls : List String) (x : List D) : isiT cls "str" (.tup x) = some false := nrfl rfl
@[simp] theorem isiT_str_lst (cls : List String) (x : List D) : isiT cls "str" (.lst x) = some false := nrfl rfl
@[simp] theorem isiT_str_dct (cls : List String) (x : List (DK × D)) : isiT cls "str" (.dct x) = some false := nrfl rfl
@[simp] theorem isiT_int_non (cls : List String) : isiT cls "int" .non = some false := nrfl rfl
@[simp] theorem isiT_int_bl (cls : List String) (x : Bool) : isiT cls "int" (.bl x) = some true := nrfl rfl
@[simp] theorem isiT_int_int (cls : List String) (x : Int) : isiT cls "int" (.int x) = some true := nrfl rfl
@[simp] theorem isiT_int_str (cls : List String) (x : Cs) : isiT cls "int" (.str x) = some false := nrfl rfl
@[simp] theorem isiT_int_tup (cls : List String) (x : List D) : isiT cls "int" (.tup x) = some false := nrfl rfl
@[simp] theorem isiT_int_lst (cls : List String) (x : List D) : isiT cls "int" (.lst x) = some false := nrfl rfl
@[simp] theorem isiT_int_dct (cls : List String) (x : List (DK × D)) : isiT cls "int" (.dct x) = some false := nrfl rfl
@[simp] theorem isiT_bool_non (cls : List String) : isiT cls "bool" .non = some false := nrfl rfl
@[simp] theorem isiT_bool_bl (cls : List String) (x : Bool) : isiT cls "bool" (.bl x) = some true := nrfl rfl
@[simp] theorem isiT_bool_int (cls : List String) (x : Int) : isiT cls "bool" (.int x) = some false := nrfl rfl
@[simp] theorem isiT_bool_str (cls : List String) (x : Cs) : isiT cls "bool" (.str x) = some false := nrfl rfl
@[simp] theorem isiT_bool_tup (cls : List String) (x : List D) : isiT cls "bool" (.tup x) = some false := nrfl rfl
@[simp] theorem isiT_bool_lst (cls : List String) (x : List D) : isiT cls "bool" (.lst x) = some false := nrfl rfl
@[simp] theorem isiT_bool_dct (cls : List String) (x : List (DK × D)) : isiT cls "bool" (.dct x) = some false := nrfl rfl
@[simp] theorem isiT_tuple_non (cls : List String) : isiT cls "tuple" .non = some false := nrfl rfl
@[simp] theorem isiT_tuple_bl (cls : List String) (x : Bool) : isiT cls "tuple" (.bl x) = some false := nrfl rfl
@[simp] theorem isiT_tuple_int (cls : List String) (x : Int) : isiT cls "tuple" (.int x) = some false := nrfl rfl
@[simp] theorem isiT_tuple_str (cls : List String) (x : Cs) : isiT cls "tuple" (.str x) = some false := nrfl rfl
@[simp] theorem isiT_tuple_tup (cls : List String) (x : List D) : isiT cls "tuple" (.tup x) = some true := nrfl rfl
@[simp] theorem isiT_tuple_lst (cls : List String) (x : List D) : isiT cls "tuple" (.lst x) = some false := nrfl rfl
@[simp] theorem isiT_tuple_dct (cls : List String) (x : List (DK × D)) : isiT cls "tuple" (.dct x) = some false := nrfl rfl
@[simp] theorem isiT_list_non (cls : List String) : isiT cls "list" .non = some false := nrfl rfl
@[simp] theorem isiT_list_bl (cls : List String) (x : Bool) : isiT cls "list" (.bl x) = some false := nrfl rfl
@[simp] theorem isiT_list_int (cls : List String) (x : Int) : isiT cls "list" (.int x) = some false := nrfl rfl
@[simp] theorem isiT_list_str (cls : List String) (x : Cs) : isiT cls "list" (.str x) = some false := nrfl rfl
@[simp] theorem isiT_list_tup (cls : List String) (x : List D) : isiT cls "list" (.tup x) = some false := nrfl rfl
@[simp] theorem isiT_list_lst (cls : List String) (x : List D) : isiT cls "list" (.lst x) = some true := nrfl rfl
@[simp] theorem isiT_list_dct (cls : List String) (x : List (DK × D)) : isiT cls "list" (.dct x) = some false := nrfl rfl
@[simp] theorem isiT_dict_non (cls : List String) : isiT cls "dict" .non = some false := nrfl rfl
@[simp] theorem isiT_dict_bl (cls : List String) (x : Bool) : isiT cls "dict" (.bl x) = some false := nrfl rfl
@[simp] theorem isiT_dict_int (cls : List String) (x : Int) : isiT cls "dict" (.int x) = some false := nrfl rfl
@[simp] theorem isiT_dict_str (cls : List String) (x : Cs) : isiT cls "dict" (.str x) = some false := nrfl rfl
@[simp] theorem isiT_dict_tup (cls : List String) (x : List D) : isiT cls "dict" (.tup x) = some false := nrfl rfl
@[simp] theorem isiT_dict_lst (cls : List String) (x : List D) : isiT cls "dict" (.lst x) = some false := nrfl rfl
@[simp] theorem isiT_dict_dct (cls : List String) (x : List (DK × D)) : isiT cls "dict" (.dct x) = some true := nrfl rfl
@[simp] theorem isiC_non (cls : List String) (cl : String) : isiC cls cl .non = if cls.contains cl then some false else none := nrfl rfl
@[simp] theorem isiC_bl (cls : List String) (cl : String) (x : Bool) : isiC cls cl (.bl x) = if cls.contains cl then some false else none := nrfl rfl
@[simp] theorem isiC_int (cls : List String) (cl : String) (x : Int) : isiC cls cl (.int x) = if cls.contains cl then some false else none := nrfl rfl
@[simp] theorem isiC_str (cls : List String) (cl : String) (x : Cs) : isiC cls cl (.str x) = if cls.contains cl then some false else none := nrfl rfl
@[simp] theorem isiC_tup (cls : List String) (cl : String) (x : List D) : isiC cls cl (.tup x) = if cls.contains cl then some false else none := nrfl rfl
@[simp] theorem isiC_lst (cls : List String) (cl : String) (x : List D) : isiC cls cl (.lst x) = if cls.contains cl then some false else none := nrfl rfl
@[simp] theorem isiC_dct (cls : List String) (cl : String) (x : List (DK × D)) : isiC cls cl (.dct x) = if cls.contains cl then some false else none := nrfl rfl
@[simp] theorem isiT_str_ins (cls : List String) (T c : String) (fs : List (String × D)) : isiT cls T (.ins c fs) = if tys.contains T then (if cls.contains c then some false else none) else none := nrfl rfl
@[simp] theorem isiC_ins (cls : List String) (cl c : String) (fs : List (String × D)) : isiC cls cl (.ins c fs) = if cls.contains cl then (if cls.contains c then some (decide (c = cl)) else none) else none := nrfl rfl
@[simp] theorem tru_non : tru .non = some false := nrfl rfl
@[simp] theorem tru_bl (b : Bool) : tru (.bl b) = some b := nrfl rfl
@[simp] theorem tru_int (i : Int) : tru (.int i) = some (i != 0) := nrfl rfl
@[simp] theorem tru_str (x : Cs) : tru (.str x) = some (!x.isEmpty) := nrfl rfl
@[simp] theorem tru_lst (x : List D) : tru (.lst x) = some (!x.isEmpty) := nrfl rfl
@[simp] theorem tru_tup (x : List D) : tru (.tup x) = some (!x.isEmpty) := nrfl rfl
@[simp] theorem asB_bl (b : Bool) : asB (.bl b) = some b := nrfl rfl
@[simp] theorem asI_int (b : Int) : asI (.int b) = some b := nrfl rfl
@[simp] theorem asK_int (b : Int) : asK (.int b) = some (.i b) := nrfl rfl
@[simp] theorem asK_str (b : Cs) : asK (.str b) = some (.s b) := nrfl rfl
@[simp] theorem isStr_str (b : Cs) : isStr (.str b) = true := nrfl rfl
@[simp] theorem dLen_str (b : Cs) : dLen [.str b] = some (.int b.length) := nrfl rfl
@[simp] theorem dLen_lst (b : List D) : dLen [.lst b] = some (.int b.length) := nrfl rfl
@[simp] theorem dLen_tup (b : List D) : dLen [.tup b] = some (.int b.length) := nrfl rfl
@[simp] theorem on1_one (r : D → Option D) (x : D) : on1 r [x] = r x := nrfl rfl
@[simp] theorem mkT_eq (xs : List D) : mkT xs = if xs.length ≤ sz then some (.tup xs) else none := nrfl rfl
@[simp] theorem mkL_eq (xs : List D) : mkL xs = if xs.length ≤ sz then some (.lst xs) else none := nrfl rfl
@[simp] theorem dTuple_lst (x : List D) : dTuple (.lst x) = some (.tup x) := nrfl rfl
@[simp] theorem dTuple_tup (x : List D) : dTuple (.tup x) = some (.tup x) := nrfl rfl
@[simp] theorem dSeq_lst (x : List D) : dSeq (.lst x) = some x := nrfl rfl
@[simp] theorem dSeq_tup (x : List D) : dSeq (.tup x) = some x := nrfl rfl
@[simp] theorem dSeq_str (x : Cs) : dSeq (.str x) = some (x.map fun n => .str [n]) := nrfl rfl
@[simp] theorem dAdd_int (i j : Int) : dAdd (.int i) (.int j) = some (.int (i + j)) := nrfl rfl
@[simp] theorem dAdd_str (i j : Cs) : dAdd (.str i) (.str j) = if i.length + j.length ≤ sz then some (.str (i ++ j)) else none := nrfl rfl
@[simp] theorem dAdd_lst (i j : List D) : dAdd (.lst i) (.lst j) = if i.length + j.length ≤ sz then some (.lst (i ++ j)) else none := nrfl rfl
@[simp] theorem dAdd_tup (i j : List D) : dAdd (.tup i) (.tup j) = if i.length + j.length ≤ sz then some (.tup (i ++ j)) else none := nrfl rfl
@[simp] theorem dSub_int (i j : Int) : dSub (.int i) (.int j) = some (.int (i - j)) := nrfl rfl
@[simp] theorem dMod_int (i j : Int) : dMod (.int i) (.int j) = if 0 < j then some (.int (i % j)) else none := nrfl rfl
theorem log2_lt9000 {j : Int} (h : j < 18446744073709551616) (h0 : 0 < j) : j.natAbs.log2 < 9000 := by
  have h1 : j.natAbs < 2 ^ 64 := by omega
  have : j.natAbs.log2 < 64 := (Nat.log2_lt (by omega)).mpr h1
  omega
theorem dFdv_int {i j : Int} (h0 : 0 < j) (h : j < 18446744073709551616) : dFdv (.int i) (.int j) = some (.int (i / j)) := by
  show (if 0 < j ∧ j.natAbs.log2 < 9000 then some (D.int (i / j)) else none) = _; rw [if_pos ⟨h0, log2_lt9000 h h0⟩]
theorem dMul_l {i j : Int} (h : i.natAbs < 18446744073709551616) : dMul (.int i) (.int j) = some (.int (i * j)) := by
  show (if i.natAbs < 2 ^ 64 ∨ j.natAbs < 2 ^ 64 ∨ i.natAbs.log2 + j.natAbs.log2 < 100000000 then some (D.int (i * j)) else none) = _; rw [if_pos (.inl h)]
theorem dMul_w {i j : Int} (h : i.natAbs.log2 + j.natAbs.log2 < 100000000) : dMul (.int i) (.int j) = some (.int (i * j)) := by
  show (if i.natAbs < 2 ^ 64 ∨ j.natAbs < 2 ^ 64 ∨ i.natAbs.log2 + j.natAbs.log2 < 100000000 then some (D.int (i * j)) else none) = _; rw [if_pos (.inr (.inr h))]
theorem dMul_r {i j : Int} (h : j.natAbs < 18446744073709551616) : dMul (.int i) (.int j) = some (.int (i * j)) := by
  show (if i.natAbs < 2 ^ 64 ∨ j.natAbs < 2 ^ 64 ∨ i.natAbs.log2 + j.natAbs.log2 < 100000000 then some (D.int (i * j)) else none) = _; rw [if_pos (.inr (.inl h))]
@[simp] theorem dNeg_int (i : Int) : dNeg (.int i) = some (.int (-i)) := nrfl rfl
@[simp] theorem dLt_int (i j : Int) : dLt (.int i) (.int j) = some (.bl (decide (i < j))) := nrfl rfl
@[simp] theorem dLe_int (i j : Int) : dLe (.int i) (.int j) = some (.bl (decide (i ≤ j))) := nrfl rfl
@[simp] theorem dGt_int (i j : Int) : dGt (.int i) (.int j) = some (.bl (decide (j < i))) := nrfl rfl
@[simp] theorem dGe_int (i j : Int) : dGe (.int i) (.int j) = some (.bl (decide (j ≤ i))) := nrfl rfl
@[simp] theorem dLt_str (i j : Cs) : dLt (.str i) (.str j) = some (.bl (decide (i < j))) := nrfl rfl
@[simp] theorem dLe_str (i j : Cs) : dLe (.str i) (.str j) = some (.bl (!decide (j < i))) := nrfl rfl
@[simp] theorem dGt_str (i j : Cs) : dGt (.str i) (.str j) = some (.bl (decide (j < i))) := nrfl rfl
@[simp] theorem dIs_non (x : D) : dIs x .non = some (.bl (isNon x)) := nrfl rfl
@[simp] theorem dIsNot_non (x : D) : dIsNot x .non = some (.bl (!isNon x)) := nrfl rfl
@[simp] theorem isNon_non : isNon .non = true := nrfl rfl
@[simp] theorem isNon_str (x : Cs) : isNon (.str x) = false := nrfl rfl
@[simp] theorem isNon_ins (c : String) (fs : List (String × D)) : isNon (.ins c fs) = false := nrfl rfl
@[simp] theorem isNon_tup (x : List D) : isNon (.tup x) = false := nrfl rfl
@[simp] theorem isNon_int (x : Int) : isNon (.int x) = false := nrfl rfl
/-! equality -/
@[simp] theorem isP_non : isP .non = true := by simp [isP]
@[simp] theorem isP_bl (x : Bool) : isP (.bl x) = true := by simp [isP]
@[simp] theorem isP_int (x : Int) : isP (.int x) = true := by simp [isP]
@[simp] theorem isP_str (x : Cs) : isP (.str x) = true := by simp [isP]
theorem isPs_all : ∀ xs : List D, isPs xs = xs.all isP
  | [] => by simp [isPs]
  | x :: r => by simp [isPs, isPs_all r]
def allP (xs : List D) : Bool := xs.all isP
@[simp] theorem allP_nil : allP [] = true := nrfl rfl
@[simp] theorem allP_cons (x : D) (xs : List D) : allP (x :: xs) = (isP x && allP xs) := nrfl rfl
@[simp] theorem allP_app (xs ys : List D) : allP (xs ++ ys) = (allP xs && allP ys) := by simp [allP]
@[simp] theorem allP_map {α : Type} (f : α → D) (xs : List α) : allP (xs.map f) = xs.all fun x => isP (f x) := by unfold allP; rw [List.all_map]; rfl
@[simp] theorem all_tt {α : Type} (xs : List α) : (xs.all fun _ => true) = true := by simp
theorem isPs_allP (xs : List D) : isPs xs = allP xs := isPs_all xs
@[simp] theorem isP_lst (xs : List D) : isP (.lst xs) = allP xs := by simp [isP, isPs_all, allP]
@[simp] theorem isP_tup (xs : List D) : isP (.tup xs) = allP xs := by simp [isP, isPs_all, allP]
theorem deps_le {n : Nat} : ∀ {xs : List D}, (∀ x ∈ xs, dep x ≤ n) → deps xs ≤ n
  | [], _ => by simp [deps]
  | x :: r, h => by
    have h1 := h x List.mem_cons_self
    have h2 := deps_le (xs := r) fun y hy => h y (List.mem_cons_of_mem _ hy)
    simp only [deps]; omega
@[simp] theorem dep_non : dep .non = 0 := by simp [dep]
@[simp] theorem dep_bl (x : Bool) : dep (.bl x) = 0 := by simp [dep]
@[simp] theorem dep_int (x : Int) : dep (.int x) = 0 := by simp [dep]
@[simp] theorem dep_str (x : Cs) : dep (.str x) = 0 := by simp [dep]
@[simp] theorem deq_int (i j : Int) : deq (.int i) (.int j) = decide (i = j) := by simp only [deq]; rfl
@[simp] theorem deq_bl (i j : Bool) : deq (.bl i) (.bl j) = decide (i = j) := by simp only [deq]; cases i <;> cases j <;> rfl
@[simp] theorem deq_str (i j : Cs) : deq (.str i) (.str j) = decide (i = j) := by
  simp only [deq]
  by_cases h : i = j
  · subst h; simp
  · rw [decide_eq_false h]; exact beq_eq_false_iff_ne.mpr h
@[simp] theorem deq_lst (i j : List D) : deq (.lst i) (.lst j) = deqs i j := by simp only [deq]
@[simp] theorem deq_tup (i j : List D) : deq (.tup i) (.tup j) = deqs i j := by simp only [deq]
@[simp] theorem deqs_nil : deqs [] [] = true := by simp only [deqs]
@[simp] theorem deqs_cons (x y : D) (xs ys : List D) : deqs (x :: xs) (y :: ys) = (deq x y && deqs xs ys) := by simp only [deqs]
@[simp] theorem deqs_nc (x : D) (xs : List D) : deqs [] (x :: xs) = false := by simp only [deqs]
@[simp] theorem deqs_cn (x : D) (xs : List D) : deqs (x :: xs) [] = false := by simp only [deqs]
@[simp] theorem dEq_int (i j : Int) : dEq (.int i) (.int j) = some (.bl (decide (i = j))) := by simp [dEq]
@[simp] theorem dNe_int (i j : Int) : dNe (.int i) (.int j) = some (.bl (!decide (i = j))) := by simp [dNe]
@[simp] theorem dEq_bl (i j : Bool) : dEq (.bl i) (.bl j) = some (.bl (decide (i = j))) := by simp [dEq]
@[simp] theorem dNe_bl (i j : Bool) : dNe (.bl i) (.bl j) = some (.bl (!decide (i = j))) := by simp [dNe]
@[simp] theorem dEq_str (i j : Cs) : dEq (.str i) (.str j) = some (.bl (decide (i = j))) := by simp [dEq]
@[simp] theorem dNe_str (i j : Cs) : dNe (.str i) (.str j) = some (.bl (!decide (i = j))) := by simp [dNe]
@[simp] theorem deqs_map {α : Type} (f : α → D) (g : α → α → Bool) (h : ∀ a b, deq (f a) (f b) = g a b) : ∀ xs ys : List α, deqs (xs.map f) (ys.map f) = (decide (xs.length = ys.length) && (xs.zip ys).all fun p => g p.1 p.2)
  | [], [] => by simp
  | [], _ :: _ => by simp
  | _ :: _, [] => by simp
  | x :: xs, y :: ys => by simp [h, deqs_map f g h xs ys, Bool.and_left_comm]
theorem deqs_inj {α : Type} [DecidableEq α] (f : α → D) (h : ∀ a b, deq (f a) (f b) = decide (a = b)) : ∀ xs ys : List α, deqs (xs.map f) (ys.map f) = decide (xs = ys)
  | [], [] => by simp
  | [], _ :: _ => by simp
  | _ :: _, [] => by simp
  | x :: xs, y :: ys => by
    simp only [List.map_cons, deqs_cons, h, deqs_inj f h xs ys, List.cons.injEq]
    by_cases h1 : x = y <;> by_cases h2 : xs = ys <;> simp [h1, h2]
mutual
theorem deq_refl : ∀ d : D, isP d = true → deq d d = true
  | .non, _ => by simp only [deq] | .bl _, _ => by simp | .int _, _ => by simp | .str _, _ => by simp
  | .tup xs, h => by rw [deq_tup]; exact deqs_refl xs (by simpa [isP] using h)
  | .lst xs, h => by rw [deq_lst]; exact deqs_refl xs (by simpa [isP] using h)
  | .dct _, h => by simp [isP] at h | .ins _ _, h => by simp [isP] at h | .gl _, h => by simp [isP] at h | .ty _, h => by simp [isP] at h
theorem deqs_refl : ∀ ds : List D, isPs ds = true → deqs ds ds = true
  | [], _ => by simp
  | x :: r, h => by
    have h' : isP x = true ∧ isPs r = true := by simpa [isPs] using h
    rw [deqs_cons, deq_refl x h'.1, deqs_refl r h'.2]; rfl
end
theorem dEq_self {d : D} (h : isP d = true) (h2 : dep d ≤ 64) : dEq d d = some (.bl true) := by simp [dEq, h, deq_refl d h]; omega
theorem dNe_self {d : D} (h : isP d = true) (h2 : dep d ≤ 64) : dNe d d = some (.bl false) := by simp [dNe, h, deq_refl d h]; omega
theorem dEq_of {x y : D} (hx : isP x = true) (hy : isP y = true) (h : dep x ≤ 64 ∨ dep y ≤ 64) : dEq x y = some (.bl (deq x y)) := by simp [dEq, hx, hy]; omega
theorem dNe_of {x y : D} (hx : isP x = true) (hy : isP y = true) (h : dep x ≤ 64 ∨ dep y ≤ 64) : dNe x y = some (.bl (!deq x y)) := by simp [dNe, hx, hy]; omega
/-- against an empty list -/
@[simp] theorem dNe_nil (xs : List D) : dNe (.lst xs) (.lst []) = if allP xs = true then some (.bl (!xs.isEmpty)) else none := by
  unfold dNe
  have : dep (.lst []) = 1 := by simp [dep, deps]
  have e : deq (.lst xs) (.lst []) = xs.isEmpty := by cases xs <;> simp
  have h1 : min (dep (.lst xs)) 1 ≤ 64 := by omega
  rw [this, e, decide_eq_true h1, isP_lst, isP_lst]
  simp
/-! members -/
@[simp] theorem dIn_ch (n : Nat) (b : Cs) : dIn (.str [n]) (.str b) = some (.bl (decide (n ∈ b))) := nrfl rfl
@[simp] theorem dNotIn_ch (n : Nat) (b : Cs) : dNotIn (.str [n]) (.str b) = some (.bl (!decide (n ∈ b))) := nrfl rfl
@[simp] theorem dIn_dct (x : D) (kvs : List (DK × D)) : dIn x (.dct kvs) = (asK x).map fun k => .bl (lookK k kvs).isSome := by
  unfold dIn inB; cases asK x <;> rfl
theorem any_strs {α : Type} (f : α → Cs) (a : Cs) : ∀ xs : List α, ((xs.map fun x => D.str (f x)).any fun y => deq y (.str a)) = decide (a ∈ xs.map f)
  | [] => by simp
  | x :: r => by
    simp only [List.map_cons, List.any_cons, any_strs f a r, deq_str, List.mem_cons]
    by_cases h : f x = a
    · simp [h]
    · have : ¬ a = f x := fun e => h e.symm
      simp [h, this]
theorem all_isP {α : Type} (f : α → D) (h : ∀ a, isP (f a) = true) (xs : List α) : (xs.map f).all isP = true := by
  rw [List.all_map, List.all_eq_true]; exact fun x _ => h x
theorem deps_map0 {α : Type} (f : α → D) (h : ∀ a, dep (f a) = 0) (xs : List α) : deps (xs.map f) = 0 := by
  have := deps_le (n := 0) (xs := xs.map f) fun x hx => by
    obtain ⟨a, _, rfl⟩ := List.mem_map.mp hx
    rw [h a]; exact Nat.le_refl _
  omega
@[simp] theorem dIn_strs {α : Type} (f : α → Cs) (a : Cs) (xs : List α) : dIn (.str a) (.lst (xs.map fun x => D.str (f x))) = some (.bl (decide (a ∈ xs.map f))) := by
  unfold dIn inB
  have h1 : isPs (xs.map fun x => D.str (f x)) = true := by rw [isPs_all]; exact all_isP _ (fun _ => isP_str _) xs
  simp only [h1, any_strs, isP_str, dep_str, Nat.zero_min, Nat.zero_le, decide_true, Bool.and_self, if_true, Option.map_some]
@[simp] theorem dNotIn_strs {α : Type} (f : α → Cs) (a : Cs) (xs : List α) : dNotIn (.str a) (.lst (xs.map fun x => D.str (f x))) = some (.bl (!decide (a ∈ xs.map f))) := by
  unfold dNotIn inB
  have h1 : isPs (xs.map fun x => D.str (f x)) = true := by rw [isPs_all]; exact all_isP _ (fun _ => isP_str _) xs
  simp only [h1, any_strs, isP_str, dep_str, Nat.zero_min, Nat.zero_le, decide_true, Bool.and_self, if_true, Option.map_some]
/-! places -/
theorem atI_nat' {α : Type} (xs : List α) (n : Nat) : atI xs (n : Int) = xs[n]? := by
  unfold atI ixN
  rw [if_pos (by omega)]
  by_cases h : n < xs.length
  · rw [if_pos (by omega)]; simp
  · rw [if_neg (by omega), List.getElem?_eq_none (by omega)]; rfl
@[simp] theorem dIx_lst_nat (xs : List D) (n : Nat) : dIx (.lst xs) (.int (n : Int)) = xs[n]? := atI_nat' xs n
@[simp] theorem dIx_tup_nat (xs : List D) (n : Nat) : dIx (.tup xs) (.int (n : Int)) = xs[n]? := atI_nat' xs n
@[simp] theorem dIx_str_nat (xs : Cs) (n : Nat) : dIx (.str xs) (.int (n : Int)) = (xs[n]?).map fun c => .str [c] := by
  show (atI xs (n : Int)).map _ = _; rw [atI_nat']
@[simp] theorem dIx_dct (kvs : List (DK × D)) (k : D) : dIx (.dct kvs) k = (asK k).bind fun k => lookK k kvs := by cases k <;> rfl
@[simp] theorem dAttr_ins (cl f c : String) (fs : List (String × D)) : dAttr cl f (.ins c fs) = if c = cl then lookF f fs else none := nrfl rfl
@[simp] theorem lookF_nil (f : String) : lookF f [] = none := nrfl rfl
@[simp] theorem lookF_cons (f g : String) (d : D) (r : List (String × D)) : lookF f ((g, d) :: r) = if g = f then some d else lookF f r := nrfl rfl
@[simp] theorem putF_nil (f : String) (d : D) : putF' f d [] = [(f, d)] := nrfl rfl
@[simp] theorem putF_cons (f g : String) (d e : D) (r : List (String × D)) : putF' f d ((g, e) :: r) = if g = f then (g, d) :: r else (g, e) :: putF' f d r := nrfl rfl
@[simp] theorem okIns_ins (cl m c : String) (fs : List (String × D)) : okIns cl m (.ins c fs) = (decide (c = cl) && (lookF m fs).isNone) := nrfl rfl
@[simp] theorem isIns_ins (cl c : String) (fs : List (String × D)) : isIns cl (.ins c fs) = decide (c = cl) := nrfl rfl
@[simp] theorem dSl_lst (xs : List D) (lo hi : Option Int) : dSl (.lst xs) lo hi = some (.lst (cutD xs lo hi)) := nrfl rfl
@[simp] theorem dSl_tup (xs : List D) (lo hi : Option Int) : dSl (.tup xs) lo hi = some (.tup (cutD xs lo hi)) := nrfl rfl
@[simp] theorem dSl_str (xs : Cs) (lo hi : Option Int) : dSl (.str xs) lo hi = some (.str (cutD xs lo hi)) := nrfl rfl
@[simp] theorem cut_to {α : Type} (xs : List α) (k : Nat) : cutD xs none (some (k : Int)) = xs.take k := by
  unfold cutD
  rw [HT.sIx_none, HT.sIx_nat, List.drop_zero, Nat.sub_zero]
  by_cases h : k ≤ xs.length
  · rw [Nat.min_eq_left h]
  · rw [Nat.min_eq_right (by omega), List.take_length, List.take_of_length_le (by omega)]
@[simp] theorem cut_from {α : Type} (xs : List α) (k : Nat) : cutD xs (some (k : Int)) none = xs.drop k := by
  unfold cutD
  rw [HT.sIx_none, HT.sIx_nat]
  by_cases h : k ≤ xs.length
  · rw [Nat.min_eq_left h, List.take_of_length_le (by rw [List.length_drop]; omega)]
  · rw [Nat.min_eq_right (by omega), Nat.sub_self, List.take_zero, List.drop_eq_nil_of_le (by omega)]
@[simp] theorem cut_none {α : Type} (xs : List α) : cutD xs none none = xs := by
  unfold cutD; rw [HT.sIx_none, HT.sIx_none]; simp
/-! ranges -/
def nats (n : Nat) : List D := (List.range n).map fun (i : Nat) => D.int (i : Int)
theorem rng0 (n : Nat) : rng 0 n = (List.range n).map fun (i : Nat) => D.int (i : Int) := by
  unfold rng; congr 1; funext i; rw [Int.zero_add]
@[simp] theorem dRng1_nat (n : Nat) : dRng1 [.int (n : Int)] = if n ≤ sz then some ((List.range n).map fun (i : Nat) => D.int (i : Int)) else none := by
  show (if (n : Int).toNat ≤ sz ∧ -(2 ^ 62 : Int) ≤ (n : Int) then some (rng 0 (n : Int).toNat) else none) = _
  rw [Int.toNat_natCast, rng0]
  by_cases h : n ≤ sz
  · rw [if_pos h, if_pos ⟨h, by omega⟩]
  · rw [if_neg h, if_neg fun k => h k.1]
@[simp] theorem dIx_lst_0 (xs : List D) : dIx (.lst xs) (.int 0) = xs[0]? := atI_nat' xs 0
@[simp] theorem dIx_tup_0 (xs : List D) : dIx (.tup xs) (.int 0) = xs[0]? := atI_nat' xs 0
@[simp] theorem dIx_str_0 (xs : Cs) : dIx (.str xs) (.int 0) = (xs[0]?).map fun c => .str [c] := dIx_str_nat xs 0
@[simp] theorem cut_to_0 {α : Type} (xs : List α) : cutD xs none (some 0) = xs.take 0 := cut_to xs 0
@[simp] theorem cut_from_0 {α : Type} (xs : List α) : cutD xs (some 0) none = xs.drop 0 := cut_from xs 0
@[simp] theorem dIx_lst_1 (xs : List D) : dIx (.lst xs) (.int 1) = xs[1]? := atI_nat' xs 1
@[simp] theorem dIx_tup_1 (xs : List D) : dIx (.tup xs) (.int 1) = xs[1]? := atI_nat' xs 1
@[simp] theorem dIx_str_1 (xs : Cs) : dIx (.str xs) (.int 1) = (xs[1]?).map fun c => .str [c] := dIx_str_nat xs 1
@[simp] theorem cut_to_1 {α : Type} (xs : List α) : cutD xs none (some 1) = xs.take 1 := cut_to xs 1
@[simp] theorem cut_from_1 {α : Type} (xs : List α) : cutD xs (some 1) none = xs.drop 1 := cut_from xs 1
@[simp] theorem dIx_lst_2 (xs : List D) : dIx (.lst xs) (.int 2) = xs[2]? := atI_nat' xs 2
@[simp] theorem dIx_tup_2 (xs : List D) : dIx (.tup xs) (.int 2) = xs[2]? := atI_nat' xs 2
@[simp] theorem dIx_str_2 (xs : Cs) : dIx (.str xs) (.int 2) = (xs[2]?).map fun c => .str [c] := dIx_str_nat xs 2
@[simp] theorem cut_to_2 {α : Type} (xs : List α) : cutD xs none (some 2) = xs.take 2 := cut_to xs 2
@[simp] theorem cut_from_2 {α : Type} (xs : List α) : cutD xs (some 2) none = xs.drop 2 := cut_from xs 2
@[simp] theorem dIx_lst_3 (xs : List D) : dIx (.lst xs) (.int 3) = xs[3]? := atI_nat' xs 3
@[simp] theorem dIx_tup_3 (xs : List D) : dIx (.tup xs) (.int 3) = xs[3]? := atI_nat' xs 3
@[simp] theorem dIx_str_3 (xs : Cs) : dIx (.str xs) (.int 3) = (xs[3]?).map fun c => .str [c] := dIx_str_nat xs 3
@[simp] theorem cut_to_3 {α : Type} (xs : List α) : cutD xs none (some 3) = xs.take 3 := cut_to xs 3
@[simp] theorem cut_from_3 {α : Type} (xs : List α) : cutD xs (some 3) none = xs.drop 3 := cut_from xs 3
@[simp] theorem dIx_lst_4 (xs : List D) : dIx (.lst xs) (.int 4) = xs[4]? := atI_nat' xs 4
@[simp] theorem dIx_tup_4 (xs : List D) : dIx (.tup xs) (.int 4) = xs[4]? := atI_nat' xs 4
@[simp] theorem dIx_str_4 (xs : Cs) : dIx (.str xs) (.int 4) = (xs[4]?).map fun c => .str [c] := dIx_str_nat xs 4
@[simp] theorem cut_to_4 {α : Type} (xs : List α) : cutD xs none (some 4) = xs.take 4 := cut_to xs 4
@[simp] theorem cut_from_4 {α : Type} (xs : List α) : cutD xs (some 4) none = xs.drop 4 := cut_from xs 4
@[simp] theorem dIx_lst_5 (xs : List D) : dIx (.lst xs) (.int 5) = xs[5]? := atI_nat' xs 5
@[simp] theorem dIx_tup_5 (xs : List D) : dIx (.tup xs) (.int 5) = xs[5]? := atI_nat' xs 5
@[simp] theorem dIx_str_5 (xs : Cs) : dIx (.str xs) (.int 5) = (xs[5]?).map fun c => .str [c] := dIx_str_nat xs 5
@[simp] theorem cut_to_5 {α : Type} (xs : List α) : cutD xs none (some 5) = xs.take 5 := cut_to xs 5
@[simp] theorem cut_from_5 {α : Type} (xs : List α) : cutD xs (some 5) none = xs.drop 5 := cut_from xs 5
@[simp] theorem dIx_lst_6 (xs : List D) : dIx (.lst xs) (.int 6) = xs[6]? := atI_nat' xs 6
@[simp] theorem dIx_tup_6 (xs : List D) : dIx (.tup xs) (.int 6) = xs[6]? := atI_nat' xs 6
@[simp] theorem dIx_str_6 (xs : Cs) : dIx (.str xs) (.int 6) = (xs[6]?).map fun c => .str [c] := dIx_str_nat xs 6
@[simp] theorem cut_to_6 {α : Type} (xs : List α) : cutD xs none (some 6) = xs.take 6 := cut_to xs 6
@[simp] theorem cut_from_6 {α : Type} (xs : List α) : cutD xs (some 6) none = xs.drop 6 := cut_from xs 6
@[simp] theorem dIx_lst_7 (xs : List D) : dIx (.lst xs) (.int 7) = xs[7]? := atI_nat' xs 7
@[simp] theorem dIx_tup_7 (xs : List D) : dIx (.tup xs) (.int 7) = xs[7]? := atI_nat' xs 7
@[simp] theorem dIx_str_7 (xs : Cs) : dIx (.str xs) (.int 7) = (xs[7]?).map fun c => .str [c] := dIx_str_nat xs 7
@[simp] theorem cut_to_7 {α : Type} (xs : List α) : cutD xs none (some 7) = xs.take 7 := cut_to xs 7
@[simp] theorem cut_from_7 {α : Type} (xs : List α) : cutD xs (some 7) none = xs.drop 7 := cut_from xs 7
@[simp] theorem dIx_lst_8 (xs : List D) : dIx (.lst xs) (.int 8) = xs[8]? := atI_nat' xs 8
@[simp] theorem dIx_tup_8 (xs : List D) : dIx (.tup xs) (.int 8) = xs[8]? := atI_nat' xs 8
@[simp] theorem dIx_str_8 (xs : Cs) : dIx (.str xs) (.int 8) = (xs[8]?).map fun c => .str [c] := dIx_str_nat xs 8
@[simp] theorem cut_to_8 {α : Type} (xs : List α) : cutD xs none (some 8) = xs.take 8 := cut_to xs 8
@[simp] theorem cut_from_8 {α : Type} (xs : List α) : cutD xs (some 8) none = xs.drop 8 := cut_from xs 8
@[simp] theorem dIx_lst_9 (xs : List D) : dIx (.lst xs) (.int 9) = xs[9]? := atI_nat' xs 9
@[simp] theorem dIx_tup_9 (xs : List D) : dIx (.tup xs) (.int 9) = xs[9]? := atI_nat' xs 9
@[simp] theorem dIx_str_9 (xs : Cs) : dIx (.str xs) (.int 9) = (xs[9]?).map fun c => .str [c] := dIx_str_nat xs 9
@[simp] theorem cut_to_9 {α : Type} (xs : List α) : cutD xs none (some 9) = xs.take 9 := cut_to xs 9
@[simp] theorem cut_from_9 {α : Type} (xs : List α) : cutD xs (some 9) none = xs.drop 9 := cut_from xs 9
@[simp] theorem dIx_lst_10 (xs : List D) : dIx (.lst xs) (.int 10) = xs[10]? := atI_nat' xs 10
@[simp] theorem dIx_tup_10 (xs : List D) : dIx (.tup xs) (.int 10) = xs[10]? := atI_nat' xs 10
@[simp] theorem dIx_str_10 (xs : Cs) : dIx (.str xs) (.int 10) = (xs[10]?).map fun c => .str [c] := dIx_str_nat xs 10
@[simp] theorem cut_to_10 {α : Type} (xs : List α) : cutD xs none (some 10) = xs.take 10 := cut_to xs 10
@[simp] theorem cut_from_10 {α : Type} (xs : List α) : cutD xs (some 10) none = xs.drop 10 := cut_from xs 10
@[simp] theorem dRng1_0 : dRng1 [.int 0] = some ((List.range 0).map fun (i : Nat) => D.int (i : Int)) := by rw [show (0 : Int) = ((0 : Nat) : Int) from rfl, dRng1_nat, if_pos (by decide)]
@[simp] theorem dRng1_1 : dRng1 [.int 1] = some ((List.range 1).map fun (i : Nat) => D.int (i : Int)) := by rw [show (1 : Int) = ((1 : Nat) : Int) from rfl, dRng1_nat, if_pos (by decide)]
@[simp] theorem dRng1_2 : dRng1 [.int 2] = some ((List.range 2).map fun (i : Nat) => D.int (i : Int)) := by rw [show (2 : Int) = ((2 : Nat) : Int) from rfl, dRng1_nat, if_pos (by decide)]
@[simp] theorem dRng1_3 : dRng1 [.int 3] = some ((List.range 3).map fun (i : Nat) => D.int (i : Int)) := by rw [show (3 : Int) = ((3 : Nat) : Int) from rfl, dRng1_nat, if_pos (by decide)]
@[simp] theorem dRng1_4 : dRng1 [.int 4] = some ((List.range 4).map fun (i : Nat) => D.int (i : Int)) := by rw [show (4 : Int) = ((4 : Nat) : Int) from rfl, dRng1_nat, if_pos (by decide)]
@[simp] theorem dRng1_5 : dRng1 [.int 5] = some ((List.range 5).map fun (i : Nat) => D.int (i : Int)) := by rw [show (5 : Int) = ((5 : Nat) : Int) from rfl, dRng1_nat, if_pos (by decide)]
@[simp] theorem dRng1_6 : dRng1 [.int 6] = some ((List.range 6).map fun (i : Nat) => D.int (i : Int)) := by rw [show (6 : Int) = ((6 : Nat) : Int) from rfl, dRng1_nat, if_pos (by decide)]
@[simp] theorem dRng1_7 : dRng1 [.int 7] = some ((List.range 7).map fun (i : Nat) => D.int (i : Int)) := by rw [show (7 : Int) = ((7 : Nat) : Int) from rfl, dRng1_nat, if_pos (by decide)]
@[simp] theorem dRng1_8 : dRng1 [.int 8] = some ((List.range 8).map fun (i : Nat) => D.int (i : Int)) := by rw [show (8 : Int) = ((8 : Nat) : Int) from rfl, dRng1_nat, if_pos (by decide)]
@[simp] theorem dRng1_9 : dRng1 [.int 9] = some ((List.range 9).map fun (i : Nat) => D.int (i : Int)) := by rw [show (9 : Int) = ((9 : Nat) : Int) from rfl, dRng1_nat, if_pos (by decide)]
@[simp] theorem dRng1_10 : dRng1 [.int 10] = some ((List.range 10).map fun (i : Nat) => D.int (i : Int)) := by rw [show (10 : Int) = ((10 : Nat) : Int) from rfl, dRng1_nat, if_pos (by decide)]
@[simp] theorem dRng1_11 : dRng1 [.int 11] = some ((List.range 11).map fun (i : Nat) => D.int (i : Int)) := by rw [show (11 : Int) = ((11 : Nat) : Int) from rfl, dRng1_nat, if_pos (by decide)]
@[simp] theorem dRng1_12 : dRng1 [.int 12] = some ((List.range 12).map fun (i : Nat) => D.int (i : Int)) := by rw [show (12 : Int) = ((12 : Nat) : Int) from rfl, dRng1_nat, if_pos (by decide)]
@[simp] theorem dRng1_13 : dRng1 [.int 13] = some ((List.range 13).map fun (i : Nat) => D.int (i : Int)) := by rw [show (13 : Int) = ((13 : Nat) : Int) from rfl, dRng1_nat, if_pos (by decide)]
@[simp] theorem dRng1_14 : dRng1 [.int 14] = some ((List.range 14).map fun (i : Nat) => D.int (i : Int)) := by rw [show (14 : Int) = ((14 : Nat) : Int) from rfl, dRng1_nat, if_pos (by decide)]
@[simp] theorem dRng1_15 : dRng1 [.int 15] = some ((List.range 15).map fun (i : Nat) => D.int (i : Int)) := by rw [show (15 : Int) = ((15 : Nat) : Int) from rfl, dRng1_nat, if_pos (by decide)]
@[simp] theorem dRng1_16 : dRng1 [.int 16] = some ((List.range 16).map fun (i : Nat) => D.int (i : Int)) := by rw [show (16 : Int) = ((16 : Nat) : Int) from rfl, dRng1_nat, if_pos (by decide)]
@[simp] theorem dRng1_17 : dRng1 [.int 17] = some ((List.range 17).map fun (i : Nat) => D.int (i : Int)) := by rw [show (17 : Int) = ((17 : Nat) : Int) from rfl, dRng1_nat, if_pos (by decide)]
@[simp] theorem dRng1_18 : dRng1 [.int 18] = some ((List.range 18).map fun (i : Nat) => D.int (i : Int)) := by rw [show (18 : Int) = ((18 : Nat) : Int) from rfl, dRng1_nat, if_pos (by decide)]
@[simp] theorem dRng1_19 : dRng1 [.int 19] = some ((List.range 19).map fun (i : Nat) => D.int (i : Int)) := by rw [show (19 : Int) = ((19 : Nat) : Int) from rfl, dRng1_nat, if_pos (by decide)]
@[simp] theorem dRng1_20 : dRng1 [.int 20] = some ((List.range 20).map fun (i : Nat) => D.int (i : Int)) := by rw [show (20 : Int) = ((20 : Nat) : Int) from rfl, dRng1_nat, if_pos (by decide)]
@[simp] theorem dRng1_21 : dRng1 [.int 21] = some ((List.range 21).map fun (i : Nat) => D.int (i : Int)) := by rw [show (21 : Int) = ((21 : Nat) : Int) from rfl, dRng1_nat, if_pos (by decide)]
@[simp] theorem dRng1_22 : dRng1 [.int 22] = some ((List.range 22).map fun (i : Nat) => D.int (i : Int)) := by rw [show (22 : Int) = ((22 : Nat) : Int) from rfl, dRng1_nat, if_pos (by decide)]
@[simp] theorem dRng1_23 : dRng1 [.int 23] = some ((List.range 23).map fun (i : Nat) => D.int (i : Int)) := by rw [show (23 : Int) = ((23 : Nat) : Int) from rfl, dRng1_nat, if_pos (by decide)]
@[simp] theorem dRng1_24 : dRng1 [.int 24] = some ((List.range 24).map fun (i : Nat) => D.int (i : Int)) := by rw [show (24 : Int) = ((24 : Nat) : Int) from rfl, dRng1_nat, if_pos (by decide)]
@[simp] theorem dRng1_25 : dRng1 [.int 25] = some ((List.range 25).map fun (i : Nat) => D.int (i : Int)) := by rw [show (25 : Int) = ((25 : Nat) : Int) from rfl, dRng1_nat, if_pos (by decide)]
@[simp] theorem dRng1_26 : dRng1 [.int 26] = some ((List.range 26).map fun (i : Nat) => D.int (i : Int)) := by rw [show (26 : Int) = ((26 : Nat) : Int) from rfl, dRng1_nat, if_pos (by decide)]
@[simp] theorem dRng1_27 : dRng1 [.int 27] = some ((List.range 27).map fun (i : Nat) => D.int (i : Int)) := by rw [show (27 : Int) = ((27 : Nat) : Int) from rfl, dRng1_nat, if_pos (by decide)]
@[simp] theorem dRng1_28 : dRng1 [.int 28] = some ((List.range 28).map fun (i : Nat) => D.int (i : Int)) := by rw [show (28 : Int) = ((28 : Nat) : Int) from rfl, dRng1_nat, if_pos (by decide)]
@[simp] theorem dRng1_29 : dRng1 [.int 29] = some ((List.range 29).map fun (i : Nat) => D.int (i : Int)) := by rw [show (29 : Int) = ((29 : Nat) : Int) from rfl, dRng1_nat, if_pos (by decide)]
@[simp] theorem dRng1_30 : dRng1 [.int 30] = some ((List.range 30).map fun (i : Nat) => D.int (i : Int)) := by rw [show (30 : Int) = ((30 : Nat) : Int) from rfl, dRng1_nat, if_pos (by decide)]
/-! lists of one kind -/
@[simp] theorem dAny_map {α : Type} (f : α → Bool) (l : List α) : dAny (.lst (l.map fun x => D.bl (f x))) = some (.bl (l.any f)) := by
  have e : l.map (fun x => D.bl (f x)) = (l.map f).map D.bl := by rw [List.map_map]; rfl
  simp only [dAny, e, bools_map, Option.map_some, List.any_map]
  rfl
@[simp] theorem dAll_map {α : Type} (f : α → Bool) (l : List α) : dAll (.lst (l.map fun x => D.bl (f x))) = some (.bl (l.all f)) := by
  have e : l.map (fun x => D.bl (f x)) = (l.map f).map D.bl := by rw [List.map_map]; rfl
  simp only [dAll, e, bools_map, Option.map_some, List.all_map]
  rfl
@[simp] theorem dAny_nil : dAny (.lst []) = some (.bl false) := nrfl rfl
@[simp] theorem dAll_nil : dAll (.lst []) = some (.bl true) := nrfl rfl
theorem join_nil : ∀ l : List Cs, joinCs [] l = l.flatten
  | [] => rfl
  | [x] => by simp [joinCs]
  | x :: y :: r => by
    have := join_nil (y :: r)
    unfold joinCs
    rw [this]; simp
@[simp] theorem asStrs_map {α : Type} (f : α → Cs) (l : List α) : asStrs (l.map fun x => D.str (f x)) = some (l.map f) := by
  have e : l.map (fun x => D.str (f x)) = (l.map f).map D.str := by rw [List.map_map]; rfl
  rw [e, strs_map]
@[simp] theorem asInts_map {α : Type} (f : α → Int) (l : List α) : asInts (l.map fun x => D.int (f x)) = some (l.map f) := by
  have e : l.map (fun x => D.int (f x)) = (l.map f).map D.int := by rw [List.map_map]; rfl
  rw [e, ints_map]
@[simp] theorem dSeqL_lst (x : List D) : dSeqL (.lst x) = some x := nrfl rfl
@[simp] theorem dSeqL_tup (x : List D) : dSeqL (.tup x) = some x := nrfl rfl
@[simp] theorem dJoin_eq (a : Cs) (x : D) : dJoin (.str a) [x] = ((dSeqL x).bind asStrs).bind fun ss => if (ss.map List.length).sum + ss.length * a.length ≤ sz then some (.str (joinCs a ss)) else none := nrfl rfl
@[simp] theorem joinCs_nil (l : List Cs) : joinCs [] l = l.flatten := join_nil l
@[simp] theorem flat_ones {α : Type} (f : α → Nat) (l : List α) : (l.map fun x => [f x]).flatten = l.map f := by
  induction l with
  | nil => rfl
  | cons x r ih => simp [ih]
@[simp] theorem sum_ones' {α : Type} (l : List α) : (l.map fun _ => 1).sum = l.length := by
  induction l with
  | nil => rfl
  | cons x r ih => simp [ih]; omega
theorem dSorted_strs {α : Type} (f : α → Cs) (l : List α) (h : l.length < 64) : dSorted (.lst (l.map fun x => D.str (f x))) = some (.lst ((sortS (l.map f)).map .str)) := by
  unfold dSorted
  simp [h]
end DL

namespace DL
open PySem L2
/-! ### comprehensions that draw -/
def onO {α : Type} (o : Option En) (f : En → Out α) : Out α := match o with
  | some ρ => f ρ
  | none => .bad
@[simp] theorem onO_some {α : Type} (ρ : En) (f : En → Out α) : onO (some ρ) f = f ρ := nrfl rfl
@[simp] theorem onO_none {α : Type} (f : En → Out α) : onO none f = .bad := nrfl rfl
def turnC (vs : List Nat) (t : Tg) (mt : M Bool) (me : M D) (d : D) (ρ : En) : Out (Option D) := onO (t d ρ) fun ρ1 => (mt ρ1).b fun b ρ2 => if b = true then (me ρ2).b fun y ρ3 => if noOw ρ3 vs = true then .ok (some y) (wipeE ρ3 vs) else .bad else if noOw ρ2 vs = true then .ok none (wipeE ρ2 vs) else .bad
theorem lcL_turn {vs : List Nat} {t : Tg} {mt : M Bool} {me : M D} {d : D} {r acc : List D} {ρ ρ' : En} {o : Option D} (h : turnC vs t mt me d ρ = .ok o ρ') : lcL vs t mt me (d :: r) acc ρ = lcL vs t mt me r (acc ++ o.toList) ρ' := by
  rw [show lcL vs t mt me (d :: r) acc ρ = (match t d ρ with
    | none => .bad
    | some ρ1 => match mt ρ1 with
      | .ok true ρ2 => (match me ρ2 with
        | .ok y ρ3 => if noOw ρ3 vs then lcL vs t mt me r (acc ++ [y]) (wipeE ρ3 vs) else .bad
        | _ => .bad)
      | .ok false ρ2 => if noOw ρ2 vs then lcL vs t mt me r acc (wipeE ρ2 vs) else .bad
      | _ => .bad) from rfl]
  unfold turnC at h
  cases e1 : t d ρ with
  | none => rw [e1] at h; cases h
  | some ρ1 =>
    rw [e1, onO_some] at h
    dsimp only
    cases e2 : mt ρ1 with
    | bad => rw [e2] at h; cases h
    | err x ρ2 => rw [e2] at h; cases h
    | ok b ρ2 =>
      rw [e2, Out.b_ok] at h
      cases b with
      | false =>
        rw [if_neg Bool.false_ne_true] at h
        split at h
        · rename_i q; cases h; simp [q]
        · cases h
      | true =>
        rw [if_pos rfl] at h
        dsimp only
        cases e3 : me ρ2 with
        | bad => rw [e3] at h; cases h
        | err x ρ2 => rw [e3] at h; cases h
        | ok y ρ3 =>
          rw [e3, Out.b_ok] at h
          split at h
          · rename_i q; cases h; simp [q]
          · cases h
theorem lcL_st {σ τ : Type} {vs : List Nat} {t : Tg} {mt : M Bool} {me : M D} (g : τ → D) (fr : σ → En) (P : List τ → List D → σ → Prop) : ∀ (xs ps : List τ) (acc : List D) (s0 : σ), P ps acc s0 → (∀ (ys zs : List τ) (x : τ), xs = ys ++ x :: zs → ∀ acc s, P (ps ++ ys) acc s → ∃ o s', turnC vs t mt me (g x) (fr s) = .ok o (fr s') ∧ P (ps ++ ys ++ [x]) (acc ++ o.toList) s') →
    ∃ ys s', lcL vs t mt me (xs.map g) acc (fr s0) = .ok ys (fr s') ∧ P (ps ++ xs) ys s'
  | [], ps, acc, s0, h0, _ => ⟨acc, s0, rfl, by rw [List.append_nil]; exact h0⟩
  | d :: r, ps, acc, s0, h0, h => by
    obtain ⟨o, s1, h1, p1⟩ := h [] r d rfl acc s0 (by rw [List.append_nil]; exact h0)
    rw [List.append_nil] at p1
    obtain ⟨ys, s2, h2, p2⟩ := lcL_st g fr P r (ps ++ [d]) (acc ++ o.toList) s1 p1 fun ys zs x e acc s hs => by
      have := h (d :: ys) zs x (by rw [e]; rfl) acc s (by simpa using hs)
      simpa using this
    exact ⟨ys, s2, by rw [List.map_cons, lcL_turn h1]; exact h2, by simpa using p2⟩
theorem lcM_st {σ τ : Type} {src : M (List D)} {vs : List Nat} {t : Tg} {mt : M Bool} {me : M D} (g : τ → D) (fr : σ → En) (P : List τ → List D → σ → Prop) {xs : List τ} {s0 : σ} {ρ : En} (hs : src ρ = .ok (xs.map g) (fr s0)) (hf : ∀ s, ∀ i ∈ vs, (fr s)[i]? = some .un) (h0 : P [] [] s0)
    (h : ∀ (ys zs : List τ) (x : τ), xs = ys ++ x :: zs → ∀ acc s, P ys acc s → ∃ o s', turnC vs t mt me (g x) (fr s) = .ok o (fr s') ∧ P (ys ++ [x]) (acc ++ o.toList) s') : ∃ ys s', lcM src vs t mt me ρ = .ok (.lst ys) (fr s') ∧ P xs ys s' := by
  obtain ⟨ys, s', h1, h2⟩ := lcL_st g fr P xs [] [] s0 h0 (by simpa using h)
  refine ⟨ys, s', ?_, by simpa using h2⟩
  have hw : wipeE (fr s0) vs = fr s0 := by
    apply List.ext_getElem?
    intro i
    by_cases hi : i ∈ vs
    · have := hf s0 i hi
      rw [this]
      have hl := (List.getElem?_eq_some_iff.mp this).1
      rcases wipeE_in (ρ := fr s0) hi with q | q
      · have := List.getElem?_eq_none_iff.mp q
        rw [wipeE_length] at this
        omega
      · exact q
    · exact wipeE_out hi
  have hn : noOw (fr s0) vs = true := by
    unfold noOw
    rw [List.all_eq_true]
    intro i hi
    rw [hf s0 i hi]
  unfold lcM bnd
  simp only [hs, hn, if_true, hw, h1]
  congr 1
  have key : ∀ us : List Nat, (∀ i ∈ us, (fr s0)[i]? = some .un ∧ (fr s')[i]? = some .un) → back (fr s0) (fr s') us = fr s' := by
    intro us
    induction us with
    | nil => intro _; rfl
    | cons u us ih =>
      intro q
      have ih' := ih fun i hi => q i (List.mem_cons_of_mem _ hi)
      obtain ⟨q1, q2⟩ := q u List.mem_cons_self
      show (match (fr s0)[u]? with | some s => (back (fr s0) (fr s') us).set u s | none => back (fr s0) (fr s') us) = _
      rw [q1, ih']
      dsimp only
      apply List.ext_getElem?
      intro j
      by_cases hj : u = j
      · subst hj; rw [List.getElem?_set_self (List.getElem?_eq_some_iff.mp q2).1, q2]
      · rw [List.getElem?_set_ne hj]
  exact key vs fun i hi => ⟨hf s0 i hi, hf s' i hi⟩
/-! loops over written lists -/
def contF (o : Out Fl) (r : M Fl) : Out Fl := match o with
  | .ok .nx ρ => r ρ
  | .ok .ct ρ => r ρ
  | .ok .bk ρ => .ok .nx ρ
  | o => o
@[simp] theorem contF_nx (ρ : En) (r : M Fl) : contF (.ok .nx ρ) r = r ρ := nrfl rfl
@[simp] theorem contF_ct (ρ : En) (r : M Fl) : contF (.ok .ct ρ) r = r ρ := nrfl rfl
@[simp] theorem contF_bk (ρ : En) (r : M Fl) : contF (.ok .bk ρ) r = .ok .nx ρ := nrfl rfl
@[simp] theorem contF_rt (d : D) (ρ : En) (r : M Fl) : contF (.ok (.rt d) ρ) r = .ok (.rt d) ρ := nrfl rfl
@[simp] theorem contF_bad (r : M Fl) : contF .bad r = .bad := nrfl rfl
@[simp] theorem contF_err (x : Xc) (ρ : En) (r : M Fl) : contF (.err x ρ) r = .err x ρ := nrfl rfl
@[simp] theorem contF_ite (p : Prop) [Decidable p] (x y : Out Fl) (r : M Fl) : contF (if p then x else y) r = if p then contF x r else contF y r := by split <;> rfl
@[simp] theorem contF_k {α : Type} (q : R α) (ρ : En) (f : α → Out Fl) (r : M Fl) : contF (q.k ρ f) r = q.k ρ fun a => contF (f a) r := by cases q <;> rfl
@[simp] theorem at_forL_nil (t : Tg) (body : M Fl) (ρ : En) : forL t body [] ρ = .ok .nx ρ := nrfl rfl
@[simp] theorem at_forL_cons (t : Tg) (body : M Fl) (d : D) (r : List D) (ρ : En) : forL t body (d :: r) ρ = contF (turn t body d ρ) (forL t body r) := by
  unfold turn
  rw [show forL t body (d :: r) ρ = (match t d ρ with
    | none => .bad
    | some ρ' => match body ρ' with
      | .ok .nx ρ2 => forL t body r ρ2
      | .ok .ct ρ2 => forL t body r ρ2
      | .ok .bk ρ2 => .ok .nx ρ2
      | o => o) from rfl]
  cases t d ρ with
  | none => rfl
  | some ρ1 =>
    dsimp only
    cases body ρ1 with
    | ok f ρ2 => cases f <;> rfl
    | _ => rfl
/-! signs in order -/
def leN (a b : Nat) : Bool := decide (a ≤ b)
def sortN : Cs → Cs := isort leN
theorem leS_one (a b : Nat) : leS [a] [b] = leN a b := by
  unfold leS leN
  by_cases h : a ≤ b
  · have : ¬ ([b] < [a]) := by rw [List.cons_lt_cons_iff]; simp; omega
    simp [this, h]
  · have : [b] < [a] := by rw [List.cons_lt_cons_iff]; exact .inl (by omega)
    simp [this, h]
theorem insert_one (a : Nat) : ∀ l : Cs, insert' leS [a] (l.map fun n => [n]) = (insert' leN a l).map fun n => [n]
  | [] => rfl
  | b :: r => by
    simp only [List.map_cons, insert', leS_one]
    split
    · rfl
    · rw [List.map_cons, insert_one a r]
theorem sort_one : ∀ l : Cs, sortS (l.map fun n => [n]) = (sortN l).map fun n => [n]
  | [] => rfl
  | a :: r => by
    show insert' leS [a] (isort leS (r.map fun n => [n])) = _
    have := sort_one r
    unfold sortS at this
    rw [this, insert_one]
    rfl
theorem sortN_perm (l : Cs) : (sortN l).Perm l := isort_perm leN l
@[simp] theorem sortN_length (l : Cs) : (sortN l).length = l.length := (sortN_perm l).length_eq
@[simp] theorem mem_sortN {a : Nat} {l : Cs} : a ∈ sortN l ↔ a ∈ l := (sortN_perm l).mem_iff
theorem sortN_up {l : Cs} (h : l.Nodup) : (sortN l).Pairwise (· < ·) := by
  have h1 := isort_sorted (le := leN) (fun a b c h1 h2 => by simp [leN] at *; omega) (fun a b => by simp [leN]; omega) l
  have h2 : (sortN l).Nodup := (sortN_perm l).nodup_iff.mpr h
  refine (h1.and h2).imp fun {a b} h => ?_
  have := h.1
  simp [leN] at this
  have := h.2
  omega
theorem up_eq {l m : Cs} (hl : l.Pairwise (· < ·)) (hm : m.Pairwise (· < ·)) (h : ∀ a, a ∈ l ↔ a ∈ m) : l = m := by
  induction l generalizing m with
  | nil =>
    cases m with
    | nil => rfl
    | cons b r => exact absurd ((h b).mpr List.mem_cons_self) (by simp)
  | cons a l ih =>
    cases m with
    | nil => exact absurd ((h a).mp List.mem_cons_self) (by simp)
    | cons b m =>
      rw [List.pairwise_cons] at hl hm
      have hab : a = b := by
        rcases List.mem_cons.mp ((h a).mp List.mem_cons_self) with e | e
        · exact e
        · rcases List.mem_cons.mp ((h b).mpr List.mem_cons_self) with e' | e'
          · exact e'.symm
          · have := hm.1 a e; have := hl.1 b e'; omega
      subst hab
      rw [ih hl.2 hm.2 fun c => ⟨fun hc => ?_, fun hc => ?_⟩]
      · rcases List.mem_cons.mp ((h c).mp (List.mem_cons_of_mem _ hc)) with e | e
        · subst e; have := hl.1 c hc; omega
        · exact e
      · rcases List.mem_cons.mp ((h c).mpr (List.mem_cons_of_mem _ hc)) with e | e
        · subst e; have := hm.1 c hc; omega
        · exact e
theorem sortN_eq {l m : Cs} (hl : l.Nodup) (hm : m.Nodup) (h : ∀ a, a ∈ l ↔ a ∈ m) : sortN l = sortN m := up_eq (sortN_up hl) (sortN_up hm) fun a => by rw [mem_sortN, mem_sortN, h a]
theorem sorted_signs {c : Cs} (h : c.length < 64) : dSorted (.lst (c.map fun n => D.str [n])) = some (.lst ((sortN c).map fun n => D.str [n])) := by
  have e := dSorted_strs (fun n => [n]) c h
  rw [e, sort_one, List.map_map]; rfl
theorem dd_one : ∀ (c l : Cs), dd (c.map fun n => [n]) (l.map fun n => [n]) = (c.foldl (fun l a => if a ∈ l then l else a :: l) l).map fun n => [n]
  | [], l => rfl
  | a :: r, l => by
    simp only [List.map_cons, dd, List.foldl_cons]
    by_cases h : a ∈ l
    · rw [if_pos (List.mem_map.mpr ⟨a, h, rfl⟩), if_pos h, dd_one r l]
    · rw [if_neg (by simpa using h), if_neg h, ← List.map_cons (f := fun n => [n]), dd_one r (a :: l)]
theorem ddN_mem (x : Nat) : ∀ (c l : Cs), x ∈ c.foldl (fun l a => if a ∈ l then l else a :: l) l ↔ x ∈ c ∨ x ∈ l
  | [], l => by simp
  | a :: r, l => by
    rw [List.foldl_cons, ddN_mem x r]
    by_cases h : a ∈ l
    · rw [if_pos h]; simp only [List.mem_cons]
      constructor
      · rintro (q | q)
        · exact .inl (.inr q)
        · exact .inr q
      · rintro ((q | q) | q)
        · subst q; exact .inr h
        · exact .inl q
        · exact .inr q
    · rw [if_neg h]; simp only [List.mem_cons]
      constructor
      · rintro (q | q | q)
        · exact .inl (.inr q)
        · exact .inl (.inl q)
        · exact .inr q
      · rintro ((q | q) | q)
        · exact .inr (.inl q)
        · exact .inl q
        · exact .inr (.inr q)
theorem ddN_nodup : ∀ (c l : Cs), l.Nodup → (c.foldl (fun l a => if a ∈ l then l else a :: l) l).Nodup
  | [], l, h => h
  | a :: r, l, h => by
    rw [List.foldl_cons]
    by_cases q : a ∈ l
    · rw [if_pos q]; exact ddN_nodup r l h
    · rw [if_neg q]; exact ddN_nodup r _ (List.nodup_cons.mpr ⟨q, h⟩)
/-- the signs of a list, each once, in order -/
def setN (c : Cs) : Cs := sortN (c.foldl (fun l a => if a ∈ l then l else a :: l) [])
theorem mem_setN {c : Cs} {x : Nat} : x ∈ setN c ↔ x ∈ c := by unfold setN; rw [mem_sortN, ddN_mem]; simp
theorem setN_up (c : Cs) : (setN c).Pairwise (· < ·) := sortN_up (ddN_nodup c [] List.nodup_nil)
theorem sortedSet_signs {c : Cs} (h : c.length < 64) : dSortedSet (.lst (c.map fun n => D.str [n])) = some (.lst ((setN c).map fun n => D.str [n])) := by
  have e := dd_one c []
  simp only [List.map_nil] at e
  simp only [dSortedSet, asStrs_map, Option.bind_some, List.length_map, h, if_true, e, sort_one, List.map_map]
  rfl
/-! more about data -/
@[simp] theorem filter_tt {α : Type} (xs : List α) : xs.filter (fun _ => true) = xs := List.filter_eq_self.mpr fun _ _ => rfl
theorem lcx_of {τ : Type} {t : τ → R Bool} {e : τ → R D} (p : τ → Bool) (f : τ → D) {xs : List τ} (ht : ∀ x ∈ xs, t x = .ok (p x)) (he : ∀ x ∈ xs, p x = true → e x = .ok (f x)) : lcx t e xs = .ok ((xs.filter p).map f) := by
  induction xs with
  | nil => rfl
  | cons x r ih =>
    have ih := ih (fun y hy => ht y (List.mem_cons_of_mem _ hy)) (fun y hy => he y (List.mem_cons_of_mem _ hy))
    unfold lcx
    rw [ht x List.mem_cons_self, ih]
    cases h : p x with
    | false => simp [h]
    | true => rw [he x List.mem_cons_self h]; simp [h]
theorem lcx_of1 {τ : Type} {e : τ → R D} (f : τ → D) {xs : List τ} (he : ∀ x ∈ xs, e x = .ok (f x)) : lcx (fun _ => .ok true) e xs = .ok (xs.map f) := by
  rw [lcx_of (fun _ => true) f (fun _ _ => rfl) (fun x hx _ => he x hx), filter_tt]
@[simp] theorem lcx_take {τ υ : Type} (g : υ → τ) (t : τ → R Bool) (e : τ → R D) (k : Nat) (xs : List υ) : lcx t e ((xs.map g).take k) = lcx (fun x => t (g x)) (fun x => e (g x)) (xs.take k) := by rw [← List.map_take, lcx_map]
@[simp] theorem lcx_drop {τ υ : Type} (g : υ → τ) (t : τ → R Bool) (e : τ → R D) (k : Nat) (xs : List υ) : lcx t e ((xs.map g).drop k) = lcx (fun x => t (g x)) (fun x => e (g x)) (xs.drop k) := by rw [← List.map_drop, lcx_map]
@[simp] theorem asStrs_nil : asStrs [] = some [] := nrfl rfl
@[simp] theorem asInts_nil : asInts [] = some [] := nrfl rfl
@[simp] theorem comp_len1 {α : Type} (f : α → Nat) : (List.length ∘ fun x => [f x]) = fun _ => 1 := nrfl rfl
@[simp] theorem fin_bad (io : List Nat) : finF io .bad = .bad := nrfl rfl
theorem popR_int (ds : List D) (n : Int) : popR ds (.int n) = if 0 ≤ n ∧ n < 2 ^ 62 then R.of ((ds[n.toNat]?).map fun d => (d, ds.eraseIdx n.toNat)) else .bad := rfl
theorem popR_ok {ds : List D} {n : Nat} {d : D} (h : n ≤ 16777216) (hx : ds[n]? = some d) : popR ds (.int (n : Int)) = .ok (d, ds.eraseIdx n) := by
  rw [popR_int, Int.toNat_natCast, hx, if_pos ⟨by omega, by omega⟩]
  rfl
@[simp] theorem dIx_lst_succ (xs : List D) (n : Nat) : dIx (.lst xs) (.int ((n : Int) + 1)) = xs[n + 1]? := dIx_lst_nat xs (n + 1)
@[simp] theorem dIx_tup_succ (xs : List D) (n : Nat) : dIx (.tup xs) (.int ((n : Int) + 1)) = xs[n + 1]? := dIx_tup_nat xs (n + 1)
@[simp] theorem dIx_str_succ (xs : Cs) (n : Nat) : dIx (.str xs) (.int ((n : Int) + 1)) = (xs[n + 1]?).map fun c => .str [c] := dIx_str_nat xs (n + 1)
@[simp] theorem dInt_int (i : Int) : dInt (.int i) = some (.int i) := nrfl rfl
@[simp] theorem dAbs_int (i : Int) : dAbs (.int i) = some (.int (if i < 0 then -i else i)) := nrfl rfl
@[simp] theorem dMax2_int (i j : Int) : dMax2 [.int i, .int j] = some (.int (if j > i then j else i)) := nrfl rfl
@[simp] theorem dMin2_int (i j : Int) : dMin2 [.int i, .int j] = some (.int (if j < i then j else i)) := nrfl rfl
@[simp] theorem atI_nat2 {α : Type} (xs : List α) (n : Nat) : atI xs (n : Int) = xs[n]? := atI_nat' xs n
@[simp] theorem lookK_nil (k : DK) : lookK k [] = none := nrfl rfl
@[simp] theorem lookK_cons (k j : DK) (d : D) (r : List (DK × D)) : lookK k ((j, d) :: r) = if j = k then some d else lookK k r := nrfl rfl
@[simp] theorem dKeys_dct (kvs : List (DK × D)) : dKeys (.dct kvs) = some (kvs.map fun kv => dOfK kv.1) := nrfl rfl
@[simp] theorem dOfK_s (a : Cs) : dOfK (.s a) = .str a := nrfl rfl
@[simp] theorem dOfK_i (a : Int) : dOfK (.i a) = .int a := nrfl rfl
/-- a table over unlike keys -/
theorem lookK_map {α : Type} (f : α → Cs) (g : α → D) {xs : List α} (nd : (xs.map f).Nodup) {x : α} (hx : x ∈ xs) : lookK (.s (f x)) (xs.map fun x => (DK.s (f x), g x)) = some (g x) := by
  induction xs with
  | nil => cases hx
  | cons y r ih =>
    rw [List.map_cons, List.nodup_cons] at nd
    rw [List.map_cons, lookK_cons]
    rcases List.mem_cons.mp hx with rfl | h
    · rw [if_pos rfl]
    · rw [if_neg fun e => nd.1 (by rw [DK.s.inj e]; exact List.mem_map.mpr ⟨x, h, rfl⟩)]
      exact ih nd.2 h
theorem lookK_map1 {α : Type} (f : α → Nat) (g : α → D) {xs : List α} (nd : (xs.map f).Nodup) {x : α} (hx : x ∈ xs) : lookK (.s [f x]) (xs.map fun x => (DK.s [f x], g x)) = some (g x) := by
  induction xs with
  | nil => cases hx
  | cons y r ih =>
    rw [List.map_cons, List.nodup_cons] at nd
    rw [List.map_cons, lookK_cons]
    rcases List.mem_cons.mp hx with rfl | h
    · rw [if_pos rfl]
    · rw [if_neg fun e => nd.1 (by have := DK.s.inj e; rw [show f y = f x by simpa using this]; exact List.mem_map.mpr ⟨x, h, rfl⟩)]
      exact ih nd.2 h
theorem forL_const {τ : Type} {t : Tg} {body : M Fl} (g : τ → D) {ρ : En} : ∀ {xs : List τ}, (∀ x ∈ xs, turn t body (g x) ρ = .ok .nx ρ) → forL t body (xs.map g) ρ = .ok .nx ρ
  | [], _ => rfl
  | x :: r, h => by rw [List.map_cons, forL_cons_nx (h x List.mem_cons_self)]; exact forL_const g fun y hy => h y (List.mem_cons_of_mem _ hy)
theorem putK_new {k : DK} {d : D} {kvs : List (DK × D)} (h : ∀ kv ∈ kvs, kv.1 ≠ k) : putK' k d kvs = kvs ++ [(k, d)] := by
  unfold putK'
  rw [if_neg]
  rw [Bool.not_eq_true, List.any_eq_false]
  intro kv hkv
  simpa using h kv hkv
theorem foldl_snoc {α β : Type} (f : α → β) : ∀ (xs : List α) (acc : List β), xs.foldl (fun s x => s ++ [f x]) acc = acc ++ xs.map f
  | [], acc => by simp
  | x :: r, acc => by simp [foldl_snoc f r]
end DL

namespace DL
open PySem PySem.Spec PyProof.Rows L2 PySem.Froz
/-! ### sorted of a text -/
section
variable {P : Program} {w : World} {A : Around} {E : Value → Shared → Prop} {s : Shared}
theorem sorted_text {x : Str} {t : Tok} {Q : Value → Shared → Prop} (hh : A.handled = none) (h64 : x.cps.size < 64)
    (hQ : ∀ s' p (out : Array Value) (c : Nat) (ys : List Str), (∀ b o, s.heap.get? b = some o → s'.heap.get? b = some o) → s'.gens = s.gens → s'.os = s.os → s.heap.get? p = none → (∀ H : Hp, HOk P w H s.heap → H p = none) →
      s'.heap.get? p = some (seqObj "list" out c) → StrsAre out.toList ys → ys.Perm (x.cps.toList.map fun n => (⟨#[n]⟩ : Str)) → sortedS ys = true → Q (.ref p) s') :
    wpAny (model P w) A (call (.builtin "sorted") [.str x t]) Q E s := by
  refine Calls.call_function_entry kind_sorted plain_sorted entry_sorted (args_sorted1 _) ?_
  unfold Builtin.«sorted»
  refine wpAny_bind (m := checkCount "sorted" 1 1 _) (wpAny_pure ?_)
  refine wpAny_bind (wpAny_collect_str (A := A.in1) hh x t (fun s1 acc k1 g1 _ o1 it => ?_) (by rw [sizeLine_eq]; omega))
  have hvl : acc.toList.length = x.cps.size := by rw [Array.length_toList]; exact it.1
  have key : ∀ (j : Nat) v, acc.toList[j]? = some v → ∃ c u, x.cps.toList[j]? = some c ∧ v = .str ⟨#[c]⟩ u := fun j v hj => by
    obtain ⟨c, u, h1, h2⟩ := it.2 j v (by rw [← Array.getElem?_toList]; exact hj)
    exact ⟨c, u, by rw [Array.getElem?_toList]; exact h1, h2⟩
  have hI : StrsAre acc.toList (acc.toList.map vStr) := strs_are fun v hv => by
    obtain ⟨j, hj⟩ := List.mem_iff_getElem?.mp hv
    obtain ⟨c, u, _, h2⟩ := key j v hj
    exact ⟨_, u, h2⟩
  have hm : acc.toList.map vStr = x.cps.toList.map fun n => (⟨#[n]⟩ : Str) := by
    apply List.ext_getElem?
    intro j
    rw [List.getElem?_map, List.getElem?_map]
    cases e : acc.toList[j]? with
    | none =>
      have := List.getElem?_eq_none_iff.mp e
      rw [List.getElem?_eq_none (by rw [Array.length_toList]; omega)]
      rfl
    | some v =>
      obtain ⟨c, u, h1, h2⟩ := key j v e
      rw [h1, h2]; rfl
  refine wpAny_bind (wpAny_newList ?_ (by rw [hvl, sizeLine_eq]; omega))
  have hoL : (s1.heap.push (seqObj "list" acc.toList.toArray 0)).get? s1.heap.objs.size = some (seqObj "list" acc.toList.toArray 0) := Heap.get?_push_size _ rfl
  refine wpAny_bind (wpAny_holding (wpAny_call_entry slot_list_sort ⟨_, hoL, rfl⟩ entry_list_sort (list_sort_treeK strKind_oneLt hoL hI.keysOf (fun v₁ v₂ rest e => keyKind_strs (by rw [← e]; exact hI)) (by rw [hvl]; exact h64) fun st' hp hs => ⟨_, rfl, ?_⟩) (args_list_sort _)))
  obtain ⟨ys, g2, g3, g4⟩ := sorted_out_str hI hp hs
  obtain ⟨c, hc⟩ := sortedHeap_at (vs := acc.toList) (out := (arrOf st').map (·.2)) hoL
  have hnone : s.heap.get? s1.heap.objs.size = none := by
    cases e : s.heap.get? s1.heap.objs.size with
    | none => rfl
    | some o => exact absurd (Heap.lt_size (k1 _ _ e)) (Nat.lt_irrefl _)
  refine wpAny_pure ⟨_, rfl, hQ _ s1.heap.objs.size _ c ys (fun b u e => ?_) g1 o1 hnone (fun H x => (x.kept k1).fresh (Nat.le_refl _)) hc g2 (by rw [← hm]; exact g3) g4⟩
  have q := k1 b u e
  have hlt := Heap.lt_size q
  show (sortedHeap (s1.heap.push (seqObj "list" acc.toList.toArray 0)) s1.heap.objs.size acc.toList _).get? b = some u
  rw [sortedHeap_old (Nat.ne_of_lt hlt) (by rw [size_push']; exact Nat.lt_succ_of_lt hlt)]
  exact Heap.get?_push_of_some _ q
end
section
variable {X : Cx}
def rSortedText : List V → Hp → VK → Prop := fun xs H Q => ∃ cs : Cs, xs = [.str (toS cs)] ∧ cs.length < 64 ∧ ∀ (ys : List Str) p, ys.Perm (cs.map fun n => toS [n]) → sortedS ys = true → H p = none → Q (.ref p) (upd H p (.lst (ys.map V.str)))
theorem cr_sortedText (hc : X.calm = true) : CallR X (.builtin "sorted") rSortedText := by
  intro pins s σ H vs us Q I r ⟨cs, ex, h64, q⟩
  subst ex
  obtain ⟨u, rfl, t, rfl⟩ := vals1 r
  refine sorted_text (I.ok.hd hc) (by simpa [toS] using h64) fun s' p out c ys k g o hp hfr hg hi hperm hs => ?_
  have hperm : ys.Perm (cs.map fun n => toS [n]) := by simpa [toS] using hperm
  have hlen : (ys.map V.str).length ≤ sizeLine := by rw [List.length_map, hperm.length_eq, List.length_map, sizeLine_eq]; omega
  have hn : H p = none := hfr H I.hok
  have J : Inv X pins σ (upd H p (.lst (ys.map V.str))) { s with heap := s'.heap, gens := s'.gens, drawn := s'.drawn, toks := s'.toks } :=
    I.call (ch := []) (Un.laidN k hp hn) (I.hok.laidN k hn ⟨hlen, out.toList, c, vals_of_strs hi, hg⟩) (by rw [g]; exact I.bare) (fun _ z => nomatch z)
  have e : s' = { s with heap := s'.heap, gens := s'.gens, drawn := s'.drawn, toks := s'.toks } := by
    obtain ⟨_, _, _, _, _⟩ := s'
    obtain ⟨_, _, _, _, _⟩ := s
    cases o
    rfl
  rw [e]
  exact ⟨.ref p, _, J, rfl, q ys p hperm hs hn⟩
end
end DL

namespace DL
open PySem L2
section
variable {c : Stat}
def dSortedA : D → Option D
  | .str cs => if cs.length < 64 then some (.lst ((sortN cs).map fun n => .str [n])) else none
  | x => dSorted x
theorem b_sortedA (hc : c.hot = false := by first | rfl | assumption) : BCl c (.builtin "sorted") (on1 dSortedA) := fun X W z => by
  obtain ⟨rV, o, k⟩ := b_sorted (c := c) X W z
  refine ⟨_, CallR.or (cr_sortedText (z.calm hc)) o, r1 fun F H x dx d Q s h e a => ?_⟩
  cases dx with
  | str cs =>
    cases h
    rename_i hok
    simp only [dSortedA] at e
    split at e
    case isFalse => cases e
    rename_i h64
    cases e
    refine .inl ⟨cs, rfl, h64, fun ys p hp hsr hn => ?_⟩
    have hp' : ys.Perm ((cs.map fun n => [n]).map toS) := by rw [List.map_map]; exact hp
    rw [sortedS_eq hp' hsr, sort_one]
    refine after_lst (ds := (sortN cs).map fun n => D.str [n]) s a hn ?_ (by rw [List.length_map, sortN_length, sz_val]; omega)
    have := dns_strs (K := c.K) (mg := c.mg) (F := F) (cs := (sortN cs).map fun n => [n]) fun x hx => by
      obtain ⟨n, hn, rfl⟩ := List.mem_map.mp hx
      exact okS_one (hok.2 _ (mem_sortN.mp hn))
    rw [show (sortN cs).map (fun n => D.str [n]) = ((sortN cs).map fun n => [n]).map D.str by rw [List.map_map]; rfl]
    exact this
  | _ => exact .inr (k F H [x] [_] d Q s (.cons h .nil) e a)
/-! max, min of a list of numbers -/
def maxL : List Int → Option Int
  | [] => none
  | x :: r => some (r.foldl max x)
def minL : List Int → Option Int
  | [] => none
  | x :: r => some (r.foldl min x)
theorem foldl_max (r : List Int) : ∀ x : Int, (r.foldl max x = x ∨ r.foldl max x ∈ r) ∧ x ≤ r.foldl max x ∧ ∀ y ∈ r, y ≤ r.foldl max x := by
  induction r with
  | nil => intro x; exact ⟨.inl rfl, Int.le_refl _, fun _ h => nomatch h⟩
  | cons a r ih =>
    intro x
    obtain ⟨h1, h2, h3⟩ := ih (max x a)
    rw [List.foldl_cons]
    refine ⟨?_, by omega, fun y hy => ?_⟩
    · rcases h1 with h | h
      · rw [h]
        by_cases q : x ≤ a
        · right; rw [Int.max_eq_right q]; exact List.mem_cons_self
        · left; rw [Int.max_eq_left (by omega)]
      · exact .inr (List.mem_cons_of_mem _ h)
    · rcases List.mem_cons.mp hy with rfl | h
      · omega
      · exact h3 y h
theorem foldl_min (r : List Int) : ∀ x : Int, (r.foldl min x = x ∨ r.foldl min x ∈ r) ∧ r.foldl min x ≤ x ∧ ∀ y ∈ r, r.foldl min x ≤ y := by
  induction r with
  | nil => intro x; exact ⟨.inl rfl, Int.le_refl _, fun _ h => nomatch h⟩
  | cons a r ih =>
    intro x
    obtain ⟨h1, h2, h3⟩ := ih (min x a)
    rw [List.foldl_cons]
    refine ⟨?_, by omega, fun y hy => ?_⟩
    · rcases h1 with h | h
      · rw [h]
        by_cases q : x ≤ a
        · left; rw [Int.min_eq_left q]
        · right; rw [Int.min_eq_right (by omega)]; exact List.mem_cons_self
      · exact .inr (List.mem_cons_of_mem _ h)
    · rcases List.mem_cons.mp hy with rfl | h
      · omega
      · exact h3 y h
theorem maxL_spec {ns : List Int} {m : Int} (h : maxL ns = some m) : m ∈ ns ∧ ∀ y ∈ ns, y ≤ m := by
  cases ns with
  | nil => cases h
  | cons x r =>
    cases h
    obtain ⟨h1, h2, h3⟩ := foldl_max r x
    refine ⟨?_, fun y hy => ?_⟩
    · rcases h1 with q | q
      · rw [q]; exact List.mem_cons_self
      · exact List.mem_cons_of_mem _ q
    · rcases List.mem_cons.mp hy with rfl | q
      · exact h2
      · exact h3 y q
theorem minL_spec {ns : List Int} {m : Int} (h : minL ns = some m) : m ∈ ns ∧ ∀ y ∈ ns, m ≤ y := by
  cases ns with
  | nil => cases h
  | cons x r =>
    cases h
    obtain ⟨h1, h2, h3⟩ := foldl_min r x
    refine ⟨?_, fun y hy => ?_⟩
    · rcases h1 with q | q
      · rw [q]; exact List.mem_cons_self
      · exact List.mem_cons_of_mem _ q
    · rcases List.mem_cons.mp hy with rfl | q
      · exact h2
      · exact h3 y q
def dMaxL : D → Option D
  | .lst xs => ((asInts xs).bind maxL).map .int
  | _ => none
def dMinL : D → Option D
  | .lst xs => ((asInts xs).bind minL).map .int
  | _ => none
theorem b_max1 (hc : c.hot = false := by first | rfl | assumption) : BCl c (.builtin "max") (on1 dMaxL) := fun X W z => ⟨_, cr_max (z.calm hc), r1 fun F H x dx d Q s h e a => by
  cases h <;> simp only [dMaxL] at e <;> try cases e
  rename_i h1 r1 l1
  obtain ⟨m, hm, rfl⟩ := Option.map_eq_some_iff.mp e
  obtain ⟨ns, hb, hm⟩ := Option.bind_eq_some_iff.mp hm
  obtain ⟨rfl, _⟩ := ints_of r1 hb
  obtain ⟨k1, k2⟩ := maxL_spec hm
  refine ⟨_, ns, rfl, .inl (same_rd s h1), List.length_pos_of_mem k1, fun m' g1 g2 => ?_⟩
  have : m' = m := Int.le_antisymm (k2 _ g1) (g2 _ k1)
  rw [this]
  exact a.here s (.int _)⟩
theorem b_min1 (hc : c.hot = false := by first | rfl | assumption) : BCl c (.builtin "min") (on1 dMinL) := fun X W z => ⟨_, cr_min (z.calm hc), r1 fun F H x dx d Q s h e a => by
  cases h <;> simp only [dMinL] at e <;> try cases e
  rename_i h1 r1 l1
  obtain ⟨m, hm, rfl⟩ := Option.map_eq_some_iff.mp e
  obtain ⟨ns, hb, hm⟩ := Option.bind_eq_some_iff.mp hm
  obtain ⟨rfl, _⟩ := ints_of r1 hb
  obtain ⟨k1, k2⟩ := minL_spec hm
  refine ⟨_, ns, rfl, .inl (same_rd s h1), List.length_pos_of_mem k1, fun m' g1 g2 => ?_⟩
  have : m' = m := Int.le_antisymm (g2 _ k1) (k2 _ g1)
  rw [this]
  exact a.here s (.int _)⟩
/-! str of a number, list of a thing -/
def showI (i : Int) : Cs := (Str.ofString (toString i)).cps.toList
theorem toS_showI (i : Int) : toS (showI i) = Str.ofString (toString i) := by unfold toS showI; simp
def dStrI : D → Option D
  | .int i => if i.natAbs.log2 < 1920 ∧ okS (showI i) then some (.str (showI i)) else none
  | _ => none
theorem b_strI : BCl c (.type "str") (on1 dStrI) := fun X W z => ⟨_, call_str_int, r1 fun F H x dx d Q s h e a => by
  cases h <;> simp only [dStrI] at e <;> try cases e
  rename_i i
  split at e
  case isFalse => cases e
  rename_i h
  cases e
  refine ⟨i, rfl, h.1, ?_⟩
  have := a.here s (.str _ h.2)
  rw [toS_showI] at this
  exact this⟩
def dList : D → Option D
  | .lst xs => some (.lst xs)
  | .tup xs => some (.lst xs)
  | .str cs => some (.lst (cs.map fun n => .str [n]))
  | _ => none
theorem b_list (hc : c.hot = false := by first | rfl | assumption) : BCl c (.type "list") (on1 dList) := fun X W z => ⟨_, CallR.or call_list_of (call_list_str' (z.calm hc)), r1 fun F H x dx d Q s h e a => by
  cases h <;> simp only [dList] at e <;> try cases e
  · rename_i cs hok
    refine .inr ⟨cs, rfl, by rw [sz_eq]; exact hok.1, fun l hl => after_lst (ds := cs.map fun n => D.str [n]) s a hl ?_ (by rw [List.length_map]; exact hok.1)⟩
    have := dns_strs (K := c.K) (mg := c.mg) (F := F) (cs := cs.map fun n => [n]) fun x hx => by
      obtain ⟨n, hn, rfl⟩ := List.mem_map.mp hx
      exact okS_one (hok.2 _ hn)
    rw [show cs.map (fun n => D.str [n]) = (cs.map fun n => [n]).map D.str by rw [List.map_map]; rfl, show cs.map (fun n => V.str (toS [n])) = ((cs.map fun n => [n]).map toS).map V.str by rw [List.map_map, List.map_map]; rfl]
    exact this
  · rename_i h1 r1 l1
    exact .inl ⟨_, _, rfl, .inr (by rw [z.K]; exact same_t s h1), fun l hl => after_lst s a hl r1 l1⟩
  · rename_i h1 r1 l1
    exact .inl ⟨_, _, rfl, .inl (.inl (same_rd s h1)), fun l hl => after_lst s a hl r1 l1⟩⟩
/-! a < b < c as a test -/
theorem et_chain {op op' : CmpOp} {r r' : D → D → Option D} {a b d : Expr} {f g k : M D} {pos : Pos} (h : COp c op r) (h' : COp c op' r') (ha : ED c a f) (hb : ED c b g) (hd : ED c d k) (hl : lastMarks [op, op'] [b, d] = false := by rfl) :
    ET c (.Compare a [op, op'] [b, d] pos) (tbM (chM r r' f g k)) := fun G X W z => by
  obtain ⟨rV, o, ok⟩ := h X W z
  obtain ⟨rV', o', ok'⟩ := h' X W z
  refine pt_imp (pt_chain o o' (ha G X W z) (hb G X W z) (hd G X W z) hl) fun σ H Q h => tbM_test h fun {Q} ⟨F, ρ, R, q⟩ => ?_
  refine tG_bind R q fun F1 H1 ρ1 x dx s1 R1 rx q1 => ?_
  refine tG_bind R1 q1 fun F2 H2 ρ2 y dy s2 R2 ry q2 => ?_
  unfold bnd lift at q2
  cases e : r dx dy with
  | none => simp only [e] at q2; exact q2.elim
  | some dv =>
    simp only [e] at q2
    cases dv <;> try exact q2.elim
    rename_i kb
    refine ok F2 H2 x y dx dy _ _ R2.fh (rx.mono s2) ry e fun v3 F3 H3 ex rv => ?_
    cases rv
    refine ⟨kb, rfl, ?_⟩
    have R3 := R2.ext ex
    have q3 := Post.mono ex.ff q2
    cases kb with
    | false => rw [if_neg Bool.false_ne_true]; exact q3 _ F3 H3 (Same.refl _) R3 (.bl _)
    | true =>
      rw [if_pos rfl]
      refine tG_bind (f := fun w => lift (r' dy w)) R3 q3 fun F4 H4 ρ4 w dw s4 R4 rw4 q4 => ?_
      obtain ⟨d', e4, af⟩ := q4.lift R4
      exact ok' F4 H4 y w dy dw d' Q R4.fh (ry.mono (ex.ff.trans s4)) rw4 e4 af
end
/-! what simp knows -/
@[simp] theorem dSortedA_str (cs : Cs) : dSortedA (.str cs) = if cs.length < 64 then some (.lst ((sortN cs).map fun n => .str [n])) else none := nrfl rfl
@[simp] theorem dSortedA_lst (xs : List D) : dSortedA (.lst xs) = dSorted (.lst xs) := nrfl rfl
@[simp] theorem dList_lst (xs : List D) : dList (.lst xs) = some (.lst xs) := nrfl rfl
@[simp] theorem dList_tup (xs : List D) : dList (.tup xs) = some (.lst xs) := nrfl rfl
@[simp] theorem dList_str (cs : Cs) : dList (.str cs) = some (.lst (cs.map fun n => .str [n])) := nrfl rfl
@[simp] theorem dMaxL_map {α : Type} (f : α → Int) (xs : List α) : dMaxL (.lst (xs.map fun x => D.int (f x))) = (maxL (xs.map f)).map .int := by simp [dMaxL]
@[simp] theorem dMinL_map {α : Type} (f : α → Int) (xs : List α) : dMinL (.lst (xs.map fun x => D.int (f x))) = (minL (xs.map f)).map .int := by simp [dMinL]
theorem showI_small : ∀ k : Nat, k < 10 → showI (k : Int) = [48 + k] := by decide
theorem dStrI_small {k : Nat} (h : k < 10) : dStrI (.int (k : Int)) = some (.str [48 + k]) := by
  have h1 : ∀ k : Nat, k < 10 → (k : Int).natAbs.log2 < 1920 ∧ okS (showI (k : Int)) := by decide
  show (if (k : Int).natAbs.log2 < 1920 ∧ okS (showI (k : Int)) then some (D.str (showI (k : Int))) else none) = _
  rw [if_pos (h1 k h), showI_small k h]
end DL

namespace DL
open PySem L2
/-! ### comprehensions with two loops, where the frame has nothing of its own -/
def noOwn (ρ : En) : Bool := ρ.all fun s => match s with
  | .ow _ => false
  | _ => true
theorem noOwn_of {ρ : En} (h : noOwn ρ = true) (i : Nat) (d : D) : ρ[i]? ≠ some (.ow d) := fun e => by
  have := List.all_eq_true.mp h _ (List.mem_of_getElem? e)
  cases this
theorem noOwn_vs {ρ : En} (h : noOwn ρ = true) (vs : List Nat) : noOw ρ vs = true := by
  unfold noOw
  rw [List.all_eq_true]
  intro i _
  cases e : ρ[i]? with
  | none => rfl
  | some s => cases s with
    | ow d => exact absurd e (noOwn_of h i d)
    | _ => rfl
theorem noOwn_mk {ρ : En} (h : ∀ (i : Nat) (d : D), ρ[i]? ≠ some (.ow d)) : noOwn ρ = true := by
  unfold noOwn
  rw [List.all_eq_true]
  intro s hs
  obtain ⟨i, hi⟩ := List.mem_iff_getElem?.mp hs
  cases s with
  | ow d => exact absurd hi (h i d)
  | _ => rfl
theorem noOwn_wipe {ρ : En} {vs : List Nat} (h : noOwn ρ = true) : noOwn (wipeE ρ vs) = true := noOwn_mk fun i d e => by
  by_cases hi : i ∈ vs
  · rcases wipeE_in (ρ := ρ) hi with q | q <;> rw [q] at e <;> cases e
  · rw [wipeE_out hi] at e; exact noOwn_of h i d e
/-- a target that stores plain things -/
class PuN (t : Tg) : Prop where
  pn : ∀ d ρ ρ1, t d ρ = some ρ1 → noOwn ρ = true → noOwn ρ1 = true
theorem noOwn_set {ρ : En} {i : Nat} {d : D} (h : noOwn ρ = true) : noOwn (ρ.set i (.fz d)) = true := noOwn_mk fun j e q => by
  by_cases hj : i = j
  · subst hj
    by_cases hl : i < ρ.length
    · rw [List.getElem?_set_self hl] at q; cases q
    · rw [List.getElem?_eq_none (by rw [List.length_set]; omega)] at q; cases q
  · rw [List.getElem?_set_ne hj] at q; exact noOwn_of h j e q
instance (i : Nat) : PuN (put i) := ⟨fun d ρ ρ1 e h => by obtain ⟨_, rfl⟩ := put_some e; exact noOwn_set h⟩
instance (i j : Nat) : PuN (tgT 2 (tgC (put i) (tgC (put j) tgN))) := ⟨fun d ρ ρ1 e h => by
  obtain ⟨ds, rfl, e0⟩ := tgT_some e
  obtain ⟨d1, r, ρ2, rfl, e1, e9⟩ := tgC_some e0
  obtain ⟨d2, r2, ρ3, rfl, e2, e8⟩ := tgC_some e9
  obtain rfl := tgN_some e8
  obtain ⟨_, rfl⟩ := put_some e1
  obtain ⟨_, rfl⟩ := put_some e2
  exact noOwn_set (noOwn_set h)⟩
theorem putT_in {i : Nat} {vs : List Nat} (hi : i ∈ vs) : PuT vs (put i) := ⟨fun d ρ ρ1 h e => by
  obtain ⟨hl, rfl⟩ := put_some e
  exact ⟨noOw_set h, wipe_set hi⟩⟩
theorem putT2_in {i j : Nat} {vs : List Nat} (hi : i ∈ vs) (hj : j ∈ vs) : PuT vs (tgT 2 (tgC (put i) (tgC (put j) tgN))) := ⟨fun d ρ ρ1 h e => by
  obtain ⟨ds, rfl, e0⟩ := tgT_some e
  obtain ⟨d1, r, ρ2, rfl, e1, e9⟩ := tgC_some e0
  obtain ⟨d2, r2, ρ3, rfl, e2, e8⟩ := tgC_some e9
  obtain rfl := tgN_some e8
  obtain ⟨_, rfl⟩ := put_some e1
  obtain ⟨_, rfl⟩ := put_some e2
  exact ⟨noOw_set (noOw_set h), by rw [wipe_set hj, wipe_set hi]⟩⟩
instance (i j : Nat) : PuT [i, j] (put i) := putT_in (by simp)
instance (i j : Nat) : PuT [i, j] (put j) := putT_in (by simp)
instance (i j k : Nat) : PuT [i, j, k] (put i) := putT_in (by simp)
instance (i j k : Nat) : PuT [i, j, k] (put k) := putT_in (by simp)
instance (i j k : Nat) : PuT [i, j, k] (tgT 2 (tgC (put i) (tgC (put j) tgN))) := putT2_in (by simp) (by simp)
def lc2x (vs1 : List Nat) (t : Tg) (mt : M Bool) (src1 : M (List D)) (t1 : Tg) (mt1 : M Bool) (me : M D) (ρ : En) : List D → R (List D)
  | [] => .ok []
  | d :: r => match t d ρ with
    | none => .bad
    | some ρ1 => match mt ρ1 with
      | .ok true _ => (match src1 ρ1 with
        | .ok ds1 _ => (match lcx (fun d1 => onT (t1 d1 (wipeE ρ1 vs1)) fun ρ2 => (mt1 ρ2).toR) (fun d1 => onT (t1 d1 (wipeE ρ1 vs1)) fun ρ2 => (me ρ2).toR) ds1 with
          | .ok ys => (match lc2x vs1 t mt src1 t1 mt1 me ρ r with
            | .ok zs => .ok (ys ++ zs)
            | _ => .bad)
          | _ => .bad)
        | _ => .bad)
      | .ok false _ => lc2x vs1 t mt src1 t1 mt1 me ρ r
      | _ => .bad
def lc2M (src : M (List D)) (vs vs1 : List Nat) (t : Tg) (mt : M Bool) (src1 : M (List D)) (t1 : Tg) (mt1 : M Bool) (me : M D) : M D := bnd src fun ds ρ => if noOwn ρ = true then (match lc2x vs1 t mt src1 t1 mt1 me (wipeE ρ vs) ds with
  | .ok ys => if ys.length ≤ sz then .ok (.lst ys) ρ else .bad
  | _ => .bad) else .bad
section
variable {c : Stat}
theorem lcI {X : Cx} {W : WX} (z : Cz c X W) (hc : c.hot = false) {tg iter : Expr} {scope : Scope} {src : M (List D)} (hi : EI (c.blk scope) tg iter src) : ∀ (s : Shared) (H : Hp) (C : Addr) (cl : List (Str × Addr)) (fp : List Addr), PI (X.blk s H scope (compEnvC scope cl C X.env) fp) tg iter (tGx (Walks (c.blk scope)) (c.blk scope) (fun _ _ _ _ => False) src) := fun s H C cl fp =>
    ⟨fun pins s1 σ H1 Q I ⟨G', q⟩ => (hi G' _ _ (cz_blk z hc s H scope cl C fp)).run pins s1 σ H1 Q I q⟩
theorem Rel.pa0 {G : Ent} {F H : Hp} {σ : L2.St} {ρ : En} (R : Rel c.K c.mg c.xt G F H σ ρ) (h : noOwn ρ = true) : ∀ p, p ∉ G.pa := fun p hp => by
  obtain ⟨d, q⟩ := R.pw p hp
  exact noOwn_of h _ _ q
/-- behind a part: back in the loop's own entry -/
theorem Rel.out {G : Ent} {F H F4 H4 : Hp} {σ σ' : L2.St} {ρ ρ' : En} {D' : Addr} {accV : List V} (R : Rel c.K c.mg c.xt G F H σ ρ) (hn : noOwn ρ = true) (R4 : Rel c.K c.mg c.xt ⟨F, H, owns σ ρ⟩ F4 H4 σ' ρ') (f : F D' = none) (h : H D' = some (.lst accV)) :
    Rel c.K c.mg c.xt G F4 H4 σ' ρ' ∧ H4 D' = some (.lst accV) ∧ F4 D' = none ∧ Same F F4 := by
  refine ⟨R.unnest R4 fun p hp => absurd hp (R.pa0 hn p), R4.kept D' _ h (fun _ q => by cases q) fun p hp => ?_, ?_, R4.f0⟩
  · obtain ⟨d, q1, _⟩ := mem_owns.mp hp
    exact absurd q1 (noOwn_of hn _ _)
  · rw [R4.fn D' (by show H D' ≠ none; rw [h]; exact nofun)]
    exact f
theorem lc2_imp {G : Ent} {W : WX} {vs vs1 sl sl1 : List Nat} {src src1 : M (List D)} {t t1 : Tg} {mt mt1 : M Bool} {me : M D} {g g1 : TG} [ht : PuT vs t] [hn0 : PuN t] [hm : Pu mt] [hs1 : Pu src1] [ht1 : PuT vs1 t1] [hn1 : PuN t1] [hm1 : Pu mt1] [he : Pu me] (hsl : ∀ i ∈ sl, i ∈ vs) (hsl1 : ∀ i ∈ sl1, i ∈ vs1)
    (kg : ∀ G F H σ ρ ρ' x d Q, Rel c.K c.mg c.xt G F H σ ρ → Dn c.K c.mg F x d → t d ρ = some ρ' → (∀ σ', Rel c.K c.mg c.xt G F H σ' ρ' → SlotsBut sl σ σ' → Q σ' H) → g x σ H Q)
    (kg1 : ∀ G F H σ ρ ρ' x d Q, Rel c.K c.mg c.xt G F H σ ρ → Dn c.K c.mg F x d → t1 d ρ = some ρ' → (∀ σ', Rel c.K c.mg c.xt G F H σ' ρ' → SlotsBut sl1 σ σ' → Q σ' H) → g1 x σ H Q) {scope : Scope} {σ : L2.St} {H : Hp} {Q : VK} (h : tD c G W (lc2M src vs vs1 t mt src1 t1 mt1 me) σ H Q) :
    tLc2 (tI c G W src) g (tGx (fun _ (b a : Bool) => b = a) (c.blk scope) (fun _ _ _ _ => False) mt) (tGx (Walks (c.blk scope)) (c.blk scope) (fun _ _ _ _ => False) src1) g1 (tGx (fun _ (b a : Bool) => b = a) (c.blk scope) (fun _ _ _ _ => False) mt1) (tGx (Dn c.K c.mg) (c.blk scope) (fun _ _ _ _ => False) me) vs vs1 σ H Q := by
  obtain ⟨F, ρ, R, q⟩ := h
  refine tG_bind R q fun F1 H1 ρ1 J ds s1 R1 wk q1 => ?_
  intro D' hD
  by_cases hw : noOwn ρ1 = true
  case neg => simp only [hw] at q1; exact q1.elim
  simp only [hw, if_true] at q1
  cases e : lc2x vs1 t mt src1 t1 mt1 me (wipeE ρ1 vs) ds with
  | bad => simp only [e] at q1; exact q1.elim
  | err x => simp only [e] at q1; exact q1.elim
  | ok ys =>
  simp only [e] at q1
  by_cases hz : ys.length ≤ sz
  case neg => rw [if_neg hz] at q1; exact q1.elim
  rw [if_pos hz] at q1
  have fD : F1 D' = none := R1.fh.free hD
  have hD0 : G.H0 D' = none := R1.h0_none hD
  have R0 := R1.wipe (noOwn_vs hw vs)
  have hw0 : noOwn (wipeE ρ1 vs) = true := noOwn_wipe hw
  generalize hρ0 : wipeE ρ1 vs = ρ0 at R0 hw0 e
  have hwr : wipeE ρ0 vs = ρ0 := by rw [← hρ0, wipe_wipe]
  refine ⟨fun i n H' => ∃ F' accV acc zs, Same F1 F' ∧ Rel c.K c.mg c.xt G F' H' (L2.wipe σ vs) ρ0 ∧ F' D' = none ∧ H' D' = some (.lst accV) ∧ Dns c.K c.mg F' accV acc ∧ lc2x vs1 t mt src1 t1 mt1 me ρ0 (ds.drop i) = .ok zs ∧ acc ++ zs = ys ∧ n = ds.length - i ∧ i ≤ ds.length,
    ⟨ds.length, F1, [], [], ys, Same.refl _, R0.own fD hD0 (fun i d h => absurd h (noOwn_of hw0 i d)) (.none hD), fD, upd_same, .nil, e, rfl, by simp, Nat.zero_le _⟩, ?_⟩
  rintro i n H' ⟨F', accV, acc, zs, s', R', f', h', ra, e', ez, rfl, hi'⟩
  obtain ⟨go, stop, _⟩ := wk i F' H' s' R'.fh
  by_cases hlt : i < ds.length
  case neg =>
    left
    have ei : i = ds.length := by omega
    subst ei
    refine ⟨stop (Nat.le_refl _), ?_⟩
    rw [List.drop_length] at e'
    cases e'
    rw [List.append_nil] at ez
    subst ez
    have sF : Same F' (upd F' D' (.lst accV)) := fun a o q => by rw [upd_ne (ne_of_none q f')]; exact q
    have R2 : Rel c.K c.mg c.xt G (upd F' D' (.lst accV)) H' (L2.wipe σ vs) ρ0 := by
      refine ⟨R'.f0.trans sF, fun a o q => ?_, R'.kept, R'.par, fun j d h => ?_, fun j d h => ?_, R'.ne, R'.len, R'.pw, fun b hb => ?_, R'.tbs, R'.tb.updF (.lst h'), xcMono' sF R'.xc⟩
      · by_cases ha : a = D'
        · subst ha; rw [upd_same] at q; cases q; exact h'
        · rw [upd_ne ha] at q; exact R'.fh a o q
      · obtain ⟨v, h1, h2⟩ := R'.fz j d h
        exact ⟨v, h1, h2.mono sF⟩
      · exact absurd h (noOwn_of hw0 j d)
      · have : b ≠ D' := fun zz => by subst zz; exact hb hD0
        rw [upd_ne this]; exact R'.fn b hb
    have R3 := R1.back (noOwn_vs hw vs) (s'.trans sF) R2
    rw [← hρ0, back_wipe] at R3
    exact q1 (.ref D') _ H' (s'.trans sF) R3 (.lst (.inl upd_same) (ra.mono sF) hz)
  right
  have hd : ds[i]? = some ds[i] := List.getElem?_eq_getElem hlt
  obtain ⟨hgo, hy⟩ := go _ hd
  refine ⟨hgo, fun H2 => ∃ F2 accV acc zs, Same F1 F2 ∧ Rel c.K c.mg c.xt G F2 H2 (L2.wipe σ vs) ρ0 ∧ F2 D' = none ∧ H2 D' = some (.lst accV) ∧ Dns c.K c.mg F2 accV acc ∧ lc2x vs1 t mt src1 t1 mt1 me ρ0 (ds.drop (i + 1)) = .ok zs ∧ acc ++ zs = ys, ?_, fun x H2 y => ?_⟩
  · rintro H2 ⟨F2, aV, ac, zs, q2, q3, q4, q5, q6, q7, q8⟩
    exact ⟨ds.length - (i + 1), by omega, F2, aV, ac, zs, q2, q3, q4, q5, q6, q7, q8, rfl, hlt⟩
  obtain ⟨F2, ex, rx⟩ := hy x H2 y
  have R2 := R'.ext ex
  have f2 : F2 D' = none := by rw [ex.nn D' (by rw [h']; exact nofun)]; exact f'
  have h2 : H2 D' = some (.lst accV) := ex.hh _ _ h'
  rw [List.drop_eq_getElem_cons hlt] at e'
  unfold lc2x at e'
  cases et : t ds[i] ρ0 with
  | none => simp only [et] at e'; cases e'
  | some ρ2 =>
  simp only [et] at e'
  have hw2 : noOwn ρ2 = true := hn0.pn _ _ _ et hw0
  have hwb : wipeE ρ2 vs = ρ0 := by rw [(ht.pu _ _ _ (noOwn_vs hw0 vs) et).2, hwr]
  refine kg _ F2 H2 (L2.wipe σ vs) ρ0 ρ2 x _ _ R2.nest rx et fun σ3 R3 b3 => ⟨wipe_but hsl b3, ?_⟩
  -- the block's names gone
  have up : ∀ {F4 H4 : Hp}, Rel c.K c.mg c.xt G F4 H4 σ3 ρ2 → Rel c.K c.mg c.xt G F4 H4 (L2.wipe σ vs) ρ0 := fun {F4 H4} R4 => by
    have R5 := R4.wipe (noOwn_vs hw2 vs)
    rw [wipe_but hsl b3, hwb] at R5
    exact R5
  refine ⟨⟨F2, H2, owns (L2.wipe σ vs) ρ0⟩, F2, ρ2, R3, ?_⟩
  rcases hm.pu ρ2 with ⟨b, em⟩ | ⟨x', em⟩ | em
  rotate_left
  · simp only [em] at e'; cases e'
  · simp only [em] at e'; cases e'
  rw [em]
  simp only [em] at e'
  rintro b' F4 H4 s4 R4 rfl
  obtain ⟨R4', k1, k2, k3⟩ := R2.out hw0 R4 f2 h2
  cases b' with
  | false =>
    rw [if_neg Bool.false_ne_true]
    simp only at e'
    exact ⟨F4, accV, acc, zs, (s'.trans ex.ff).trans k3, up R4', k2, k1, ra.mono (ex.ff.trans k3), e', ez⟩
  | true =>
    rw [if_pos rfl]
    simp only at e'
    refine ⟨⟨F4, H4, owns σ3 ρ2⟩, F4, ρ2, R4'.nest, ?_⟩
    rcases hs1.pu ρ2 with ⟨ds1, es⟩ | ⟨x', es⟩ | es
    rotate_left
    · simp only [es] at e'; cases e'
    · simp only [es] at e'; cases e'
    rw [es]
    simp only [es] at e'
    rintro J1 F5 H5 s5 R5 wk1
    obtain ⟨R5', k4, k5, k6⟩ := R4'.out hw2 R5 k2 k1
    -- the inner list
    generalize hT : (fun d1 => onT (t1 d1 (wipeE ρ2 vs1)) fun ρ2 => (mt1 ρ2).toR) = T at e'
    generalize hE : (fun d1 => onT (t1 d1 (wipeE ρ2 vs1)) fun ρ2 => (me ρ2).toR) = E at e'
    rcases lcx_fine (t := T) (e := E) ds1 with ⟨zi, ei⟩ | ei
    case inr => simp only [ei] at e'; cases e'
    simp only [ei] at e'
    cases er : lc2x vs1 t mt src1 t1 mt1 me ρ0 (ds.drop (i + 1)) with
    | bad => simp only [er] at e'; cases e'
    | err x => simp only [er] at e'; cases e'
    | ok zr =>
    simp only [er] at e'
    cases e'
    have hw3 : noOwn (wipeE ρ2 vs1) = true := noOwn_wipe hw2
    refine ⟨fun j k H' => ∃ F' accV' acc' zj, Same F5 F' ∧ Rel c.K c.mg c.xt G F' H' σ3 ρ2 ∧ F' D' = none ∧ H' D' = some (.lst accV') ∧ Dns c.K c.mg F' accV' acc' ∧ lcx T E (ds1.drop j) = .ok zj ∧ acc' ++ zj = acc ++ zi ∧ k = ds1.length - j ∧ j ≤ ds1.length,
      ⟨ds1.length, F5, accV, acc, zi, Same.refl _, R5', k5, k4, ra.mono ((ex.ff.trans k3).trans k6), ei, rfl, by simp, Nat.zero_le _⟩, ?_⟩
    rintro j k H' ⟨F', accV', acc', zj, s', R', f', h', ra', ej, ezj, rfl, hj'⟩
    obtain ⟨go1, stop1, _⟩ := wk1 j F' H' s' R'.fh
    have hacl : acc'.length ≤ sz := by
      have := congrArg List.length ezj
      have := congrArg List.length ez
      simp at *
      omega
    by_cases hlt1 : j < ds1.length
    case neg =>
      left
      have ej' : j = ds1.length := by omega
      subst ej'
      refine ⟨stop1 (Nat.le_refl _), ?_⟩
      rw [List.drop_length] at ej
      cases ej
      rw [List.append_nil] at ezj
      subst ezj
      exact ⟨F', accV', acc ++ zi, zr, ((((by assumption : Same F1 _).trans ex.ff).trans k3).trans k6).trans s', up R', f', h', ra', rfl, by rw [List.append_assoc]; exact ez⟩
    right
    have hd1 : ds1[j]? = some ds1[j] := List.getElem?_eq_getElem hlt1
    obtain ⟨hgo1, hy1⟩ := go1 _ hd1
    refine ⟨hgo1, fun H2 => ∃ F2 accV' acc' zj, Same F5 F2 ∧ Rel c.K c.mg c.xt G F2 H2 σ3 ρ2 ∧ F2 D' = none ∧ H2 D' = some (.lst accV') ∧ Dns c.K c.mg F2 accV' acc' ∧ lcx T E (ds1.drop (j + 1)) = .ok zj ∧ acc' ++ zj = acc ++ zi, ?_, fun x1 H6 y1 => ?_⟩
    · rintro H2 ⟨F2, aV, ac, zj, q2, q3, q4, q5, q6, q7, q8⟩
      exact ⟨ds1.length - (j + 1), by omega, F2, aV, ac, zj, q2, q3, q4, q5, q6, q7, q8, rfl, hlt1⟩
    obtain ⟨F6, ex6, rx6⟩ := hy1 x1 H6 y1
    have R6 := R'.ext ex6
    have f6 : F6 D' = none := by rw [ex6.nn D' (by rw [h']; exact nofun)]; exact f'
    have h6 : H6 D' = some (.lst accV') := ex6.hh _ _ h'
    rw [List.drop_eq_getElem_cons hlt1] at ej
    unfold lcx at ej
    have eT : T ds1[j] = onT (t1 ds1[j] (wipeE ρ2 vs1)) fun ρ2 => (mt1 ρ2).toR := by rw [← hT]
    have eE : E ds1[j] = onT (t1 ds1[j] (wipeE ρ2 vs1)) fun ρ2 => (me ρ2).toR := by rw [← hE]
    cases et1 : t1 ds1[j] (wipeE ρ2 vs1) with
    | none => rw [et1] at eT; rw [eT] at ej; cases ej
    | some ρ7 =>
    rw [et1, onT_some] at eT eE
    have hw7 : noOwn ρ7 = true := hn1.pn _ _ _ et1 hw3
    have R6w := R6.wipe (noOwn_vs hw2 vs1)
    have hz1 : wipeE ρ7 vs1 = wipeE ρ2 vs1 := by rw [(ht1.pu _ _ _ (noOwn_vs hw3 vs1) et1).2, wipe_wipe]
    refine kg1 _ F6 H6 (L2.wipe σ3 vs1) (wipeE ρ2 vs1) ρ7 x1 _ _ R6w.nest rx6 et1 fun σ7 R7 b7 => ⟨wipe_but hsl1 b7, ?_⟩
    -- the inner names as they were
    have up1 : ∀ {F8 H8 : Hp}, Same F6 F8 → Rel c.K c.mg c.xt G F8 H8 σ7 ρ7 → Rel c.K c.mg c.xt G F8 H8 σ3 ρ2 := fun {F8 H8} s8 R8 => by
      have R9 := R8.wipe (noOwn_vs hw7 vs1)
      rw [wipe_but hsl1 b7, hz1] at R9
      have := R6.back (noOwn_vs hw2 vs1) s8 R9
      rw [back_wipe] at this
      exact this
    refine ⟨⟨F6, H6, owns (L2.wipe σ3 vs1) (wipeE ρ2 vs1)⟩, F6, ρ7, R7, ?_⟩
    rcases hm1.pu ρ7 with ⟨b, em1⟩ | ⟨x', em1⟩ | em1
    rotate_left
    · rw [em1] at eT; rw [eT] at ej; cases ej
    · rw [em1] at eT; rw [eT] at ej; cases ej
    rw [em1] at eT ⊢
    rw [eT] at ej
    rintro b' F8 H8 s8 R8 rfl
    obtain ⟨R8', p1, p2, p3⟩ := R6w.out hw3 R8 f6 h6
    cases b' with
    | false =>
      rw [if_neg Bool.false_ne_true]
      exact ⟨F8, accV', acc', zj, (s'.trans ex6.ff).trans p3, up1 p3 R8', p2, p1, ra'.mono (ex6.ff.trans p3), ej, ezj⟩
    | true =>
      rw [if_pos rfl]
      refine ⟨⟨F8, H8, owns σ7 ρ7⟩, F8, ρ7, R8'.nest, ?_⟩
      rcases he.pu ρ7 with ⟨yd, ee⟩ | ⟨x', ee⟩ | ee
      rotate_left
      · rw [ee] at eE; simp only [Out.toR_ok, eE] at ej; cases ej
      · rw [ee] at eE; simp only [Out.toR_ok, eE] at ej; cases ej
      rw [ee] at eE ⊢
      simp only [Out.toR_ok, eE] at ej
      intro yv F9 H9 s9 R9 ry
      obtain ⟨R9', p4, p5, p6⟩ := R8'.out hw7 R9 p2 p1
      cases er2 : lcx T E (ds1.drop (j + 1)) with
      | bad => simp only [er2] at ej; cases ej
      | err x => simp only [er2] at ej; cases ej
      | ok zj2 =>
      simp only [er2] at ej
      cases ej
      have hacl2 : acc'.length < sz := by
        have := congrArg List.length ezj
        have := congrArg List.length ez
        simp at *
        omega
      have hacc := ra'.length
      refine ⟨accV', p4, by rw [sz_eq]; omega, F9, accV' ++ [yv], acc' ++ [yd], zj2, (((s'.trans ex6.ff).trans p3).trans p6), (up1 (p3.trans p6) R9').own p5 hD0 (fun i d h => absurd h (noOwn_of hw2 i d)) (.lst p4), p5, upd_same, (ra'.mono ((ex6.ff.trans p3).trans p6)).snoc ry, rfl, by simpa using ezj⟩
end
end DL

namespace DL
open PySem L2
section
variable {c : Stat}
/-! ### x, y = a, b by way of a pair -/
theorem SlAt.new {G : Ent} {F H : Hp} {σ : L2.St} {ρ : En} {v : V} {s : Sl} {p : Addr} {o : HO} (h : SlAt c G F H σ ρ v s) (hp : H p = none) : SlAt c G F (upd H p o) σ ρ v s := by
  cases s with
  | un => exact h
  | xc _ => exact h
  | fz d => exact h
  | ow d =>
    obtain ⟨a, rfl, ow, no⟩ := h
    have hne : a ≠ p := fun e => ow.at_.some (by rw [e]; exact hp)
    exact ⟨a, rfl, ⟨ow.nf, ow.nh, ow.at_.mono (Same.refl _) fun u q => by rw [upd_ne hne]; exact q⟩, no⟩
theorem pg_lc {i : Nat} {x : Str} {pos : Pos} {X : Cx} {W : WX} (z : Cz c X W) (h : Lc c i x) : PG X (.Name x pos) (gName i) := by
  refine pg_name (by rw [z.N]; exact z.nd) (by rw [z.N]; exact h.1) ?_ ?_
  · show L2.Loc X.env.scope x
    rw [z.sc]; exact h.2.imp (fun k => k) (fun k => k.1)
  · rcases h.2 with k | k
    · exact .inr (by rw [z.sc]; exact k)
    · exact .inl (z.fnc x k.2)
theorem es_parT {i j : Nat} {x y : Str} {a b : Expr} {f g : M Sl} {px py pt pt2 pos : Pos} {kt k2 : Nat} (hx : Lc c i x) (hy : Lc c j y) (ha : EV c a f) (hb : EV c b g)
    (hw : ∀ X W, Cz c X W → swappedStores [.Tuple [.Name x px, .Name y py] kt pt] (.Tuple [a, b] k2 pt2) X.env = pure none) (h1 : ∀ env, swapsWithSole [.Tuple [.Name x px, .Name y py] kt pt] (.Tuple [a, b] k2 pt2) pos.line env = pure false := by intro _; rfl)
    (hs : ∀ env, starEach [a, b] env = [(false, eval a env), (false, eval b env)] := by intro _; rfl) (hs2 : ∀ env, starEach [b] env = [(false, eval b env)] := by intro _; rfl) (hc : c.hot = false := by first | rfl | assumption) : ES c (.Assign [.Tuple [.Name x px, .Name y py] kt pt] (.Tuple [a, b] k2 pt2) pos) (parV c.np i j f g) := fun G X W p z => by
  have pb : PE X b (fun σ H Q => ∃ G', tV c G' W g σ H Q) := ⟨fun pins s σ H Q I ⟨G', q⟩ => (hb G' X W z).run pins s σ H Q I q⟩
  refine ps_imp (ps_asg (pe_tup (pa_cons (ha G X W z) (pa_cons pb pa_nil (by rw [hs2]; rfl)) (by rw [hs, hs2]))) (pg_tup (z.calm hc) (pgs_cons (pg_lc z hx) (pgs_cons (pg_lc z hy) pgs_nil rfl) rfl) rfl rfl) (h1 _) (hw X W z) rfl) fun Z σ H ⟨F, ρ, R, q⟩ => ?_
  refine tV_bindS R q fun F1 H1 ρ1 v s s1 R1 rv q1 => ?_
  refine ⟨_, F1, ρ1, R1.nest, ?_⟩
  unfold bnd at q1
  cases e : g ρ1 with
  | bad => rw [e] at q1; exact q1
  | err x ρ' => rw [e] at q1; exact fun F2 H2 cls d s2 r2 x2 => q1 σ F2 H2 cls d s2 (R1.unnest r2 fun _ _ => rfl) x2
  | ok t ρ' =>
  rw [e] at q1
  intro w F2 H2 s2 R2 rw2
  have R3 := R1.unnest R2 fun _ _ => rfl
  have rv3 : SlAt c G F2 H2 σ ρ' v s := by
    cases s with
    | un => exact rv.elim
    | xc _ => exact rv.elim
    | fz d => exact rv.mono s2
    | ow d =>
      obtain ⟨a', rfl, ow, no⟩ := rv
      have hne := ow.at_.some
      have nOwn : ∀ q ∈ owns σ ρ1, q.2 ≠ a' := fun ⟨k, b'⟩ hm zz => by
        obtain ⟨d', q1', q2'⟩ := mem_owns.mp hm
        have zz : b' = a' := zz
        subst zz
        exact no k d' q1' q2'
      refine ⟨a', rfl, ⟨?_, ow.nh, ow.at_.mono' s2 fun o ht ho => R2.kept a' o ho ht nOwn⟩, fun k e' hk hq => ?_⟩
      · rw [R2.fn a' hne]; exact ow.nf
      · obtain ⟨b', h1', h2'⟩ := R2.ow k e' hk
        rw [hq] at h1'; cases h1'
        rcases h2'.nh with zz | ⟨q', qm, zz⟩
        · exact hne zz
        · exact nOwn q' qm zz
  have rw3 : SlAt c G F2 H2 σ ρ' w t := by
    cases t with
    | un => exact rw2.elim
    | xc _ => exact rw2.elim
    | fz d => exact rw2
    | ow d =>
      obtain ⟨b', rfl, ow, no⟩ := rw2
      refine ⟨b', rfl, ⟨ow.nf, ?_, ow.at_⟩, no⟩
      rcases ow.nh with zz | ⟨⟨k, y'⟩, qm, zz⟩
      · exact .inl (R1.h0_none zz)
      · have zz : y' = b' := zz
        subst zz
        obtain ⟨d', q1', q2'⟩ := mem_owns.mp qm
        obtain ⟨y2, q3', q4'⟩ := R1.ow k d' q1'
        rw [q2'] at q3'; cases q3'
        exact q4'.nh
  refine ⟨by show 2 ≤ sizeLine; rw [sz_eq]; decide, fun pp hpp => ?_⟩
  have R3' : Rel c.K c.mg c.xt G F2 (upd H2 pp (.tup [v, w])) σ ρ' := R3.own (R3.fh.free hpp) (R3.h0_none hpp) (pl := .none hpp) fun k d hk hq => by
    obtain ⟨a', h1', h2'⟩ := R3.ow k d hk
    rw [hq] at h1'; cases h1'
    exact h2'.at_.some hpp
  have rv3' := rv3.new (o := .tup [v, w]) hpp
  have rw3' := rw3.new (o := .tup [v, w]) hpp
  refine ⟨pp, [v, w], rfl, .inl (.inl upd_same), rfl, v, [w], rfl, w, [], rfl, rfl, ?_⟩
  dsimp only at q1
  cases e1 : putS c.np i s ρ' with
  | none => simp only [e1] at q1; exact q1.elim
  | some ρ2 =>
  simp only [e1] at q1
  cases e2 : putS c.np j t ρ2 with
  | none => simp only [e2] at q1; exact q1.elim
  | some ρ3 =>
  simp only [e2] at q1
  have R4 := R3'.putS p rv3' e1
  refine q1 _ F2 (upd H2 pp (.tup [v, w])) s2 (R4.putS p ?_ e2)
  obtain ⟨rfl, hl⟩ := putS_eq e1
  cases t with
  | un => exact rw3'.elim
  | xc _ => exact rw3'.elim
  | fz d => exact rw3'
  | ow d =>
    obtain ⟨b', rfl, ow, no⟩ := rw3'
    refine ⟨b', rfl, ow, fun k e' hk hq => ?_⟩
    by_cases hki : k = i
    · subst hki
      rw [List.getElem?_set_self hl] at hk
      cases hk
      have hσl : k < σ.length := by rw [R3.len]; exact hl
      rw [List.getElem?_set_self hσl] at hq
      obtain ⟨a', rfl, owa, noa⟩ := rv
      cases hq
      have hne := owa.at_.some
      have ⟨b2, hb2, owb, nob⟩ := rw2
      cases hb2
      rcases owb.nh with zz | ⟨⟨l, y'⟩, qm, zz⟩
      · exact hne zz
      · obtain ⟨d', q1', q2'⟩ := mem_owns.mp qm
        refine noa l d' q1' ?_
        rw [q2']
        exact congrArg (fun t => some (some (V.ref t))) zz
    · rw [List.getElem?_set_ne (Ne.symm hki)] at hk hq
      exact no k e' hk hq
theorem xparT (i j : Nat) {x y : Str} {a b : Expr} {f g : M Sl} {px py pt pt2 pos : Pos} {kt k2 : Nat} (ha : EV c a f) (hb : EV c b g) (hi : c.N[i]? = some x := by kernel_rfl) (hj : c.N[j]? = some y := by kernel_rfl) (hx : lcB c.sc c.raw x = true := by kernel_rfl) (hy : lcB c.sc c.raw y = true := by kernel_rfl)
    (hw : swappedStores [.Tuple [.Name x px, .Name y py] kt pt] (.Tuple [a, b] k2 pt2) (envS c.sc) = pure none := by kernel_rfl) (h1 : ∀ env, swapsWithSole [.Tuple [.Name x px, .Name y py] kt pt] (.Tuple [a, b] k2 pt2) pos.line env = pure false := by intro _; rfl)
    (hs : ∀ env, starEach [a, b] env = [(false, eval a env), (false, eval b env)] := by intro _; rfl) (hs2 : ∀ env, starEach [b] env = [(false, eval b env)] := by intro _; rfl) (hc : c.hot = false := by first | rfl | assumption) : ES c (.Assign [.Tuple [.Name x px, .Name y py] kt pt] (.Tuple [a, b] k2 pt2) pos) (parV c.np i j f g) :=
  es_parT (lc_of hi hx) (lc_of hj hy) ha hb (fun X W z => by rw [sw_env _ _ z.sc]; exact hw) h1 hs hs2
/-! ### comprehensions with two loops -/
theorem xlc2 (own : List (Str × Nat)) (vs vs1 : List Nat) {elt tg iter tg1 iter1 : Expr} {ifs ifs1 : List Expr} {scope : Scope} {sl sl1 : List Nat} {pos : Pos} {src src1 : M (List D)} {t t1 : Tg} {mt mt1 : M Bool} {me : M D} [PuT vs t] [PuN t] [Pu mt] [Pu src1] [PuT vs1 t1] [PuN t1] [Pu mt1] [Pu me]
    (hi : EI c tg iter src) (hg : EG (c.blk scope) tg sl t) (ht : ETs (c.blk scope) ifs mt) (hi1 : EI (c.blk scope) tg1 iter1 src1) (hg1 : EG (c.blk scope) tg1 sl1 t1) (ht1 : ETs (c.blk scope) ifs1 mt1) (he : ED (c.blk scope) elt me)
    (ok : blkC c.N c.sc scope own = true := by kernel_rfl) (hvs : own.map (·.2) = vs := by rfl) (hsl : (sl.all fun i => (own.map (·.2)).contains i) = true := by rfl) (hsl1 : (sl1.all fun i => vs1.contains i) = true := by rfl) (hv : (vs1.all fun i => (own.map (·.2)).contains i) = true := by rfl) (hs : ∀ env x, foldedSetIterable iter env x = pure x := by intro _ _; rfl) (hs1 : ∀ env x, foldedSetIterable iter1 env x = pure x := by intro _ _; rfl) (hc : c.hot = false := by first | rfl | assumption) :
    ED c (.ListComp elt [⟨tg, iter, ifs, 0⟩, ⟨tg1, iter1, ifs1, 0⟩] scope pos) (lc2M src vs vs1 t mt src1 t1 mt1 me) := fun G X W z => by
  subst hvs
  obtain ⟨g, pg, kg⟩ := hg
  obtain ⟨g1, pg1, kg1⟩ := hg1
  exact pe_imp (pe_lc2 (own := own) (vs1 := vs1) (z.calm hc) (by rw [z.N]; exact z.nd) (hi G X W z) (by rw [z.N, z.sc]; exact blkOk_by ok) (fun i h => List.contains_iff_mem.mp (List.all_eq_true.mp hv i h)) (fun s H C cl fp => pg _ _ (cz_blk z hc s H scope cl C fp)) (fun s H C cl fp => lcT z hc ht s H C cl fp) (fun s H C cl fp => lcI z hc hi1 s H C cl fp) (fun s H C cl fp => pg1 _ _ (cz_blk z hc s H scope cl C fp)) (fun s H C cl fp => lcT z hc ht1 s H C cl fp) (fun s H C cl fp => lcE z hc he s H C cl fp) (hs _) hs1)
    fun σ H Q h => lc2_imp (c := c) (scope := scope) (fun i h => List.contains_iff_mem.mp (List.all_eq_true.mp hsl i h)) (fun i h => List.contains_iff_mem.mp (List.all_eq_true.mp hsl1 i h)) kg kg1 h
theorem xsetLc2 (i : Nat) (own : List (Str × Nat)) (vs vs1 : List Nat) {y : Str} {py spos : Pos} {elt tg iter tg1 iter1 : Expr} {ifs ifs1 : List Expr} {scope : Scope} {sl sl1 : List Nat} {pos : Pos} {src src1 : M (List D)} {t t1 : Tg} {mt mt1 : M Bool} {me : M D} [PuT vs t] [PuN t] [Pu mt] [Pu src1] [PuT vs1 t1] [PuN t1] [Pu mt1] [Pu me]
    (hi : EI c tg iter src) (hg : EG (c.blk scope) tg sl t) (ht : ETs (c.blk scope) ifs mt) (hi1 : EI (c.blk scope) tg1 iter1 src1) (hg1 : EG (c.blk scope) tg1 sl1 t1) (ht1 : ETs (c.blk scope) ifs1 mt1) (he : ED (c.blk scope) elt me)
    (hy : c.N[i]? = some y := by kernel_rfl) (hyl : c.sc.names.lookup y = some .local := by kernel_rfl) (hl : (py.line == pos.line) = true := by rfl) (hk : c.sc.kind = .function := by rfl) (hsc : (scope.names.any fun (n, k) => n == y && (k == .local || k == .cell)) = false := by kernel_rfl)
    (ok : blkC c.N c.sc scope own = true := by kernel_rfl) (hvs : own.map (·.2) = vs := by rfl) (hsl : (sl.all fun i => (own.map (·.2)).contains i) = true := by rfl) (hsl1 : (sl1.all fun i => vs1.contains i) = true := by rfl) (hv : (vs1.all fun i => (own.map (·.2)).contains i) = true := by rfl) (hs : ∀ env x, foldedSetIterable iter env x = pure x := by intro _ _; rfl) (hs1 : ∀ env x, foldedSetIterable iter1 env x = pure x := by intro _ _; rfl) (hc : c.hot = false := by first | rfl | assumption) :
    ES c (.Assign [.Name y py] (.ListComp elt [⟨tg, iter, ifs, 0⟩, ⟨tg1, iter1, ifs1, 0⟩] scope pos) spos) (asgM (put i) (lc2M src vs vs1 t mt src1 t1 mt1 me)) := fun G X W p z => by
  subst hvs
  obtain ⟨g, pg, kg⟩ := hg
  obtain ⟨g1, pg1, kg1⟩ := hg1
  refine ps_imp (ps_setLc2 (own := own) (vs1 := vs1) (z.calm hc) (by rw [z.N]; exact z.nd) (by rw [z.N]; exact hy) (by rw [z.sc]; exact hyl) (sw_true (by rw [z.sc]; exact hk) (by rw [z.sc]; exact hyl) hl hsc) (hi G X W z) (by rw [z.N, z.sc]; exact blkOk_by ok) (fun i h => List.contains_iff_mem.mp (List.all_eq_true.mp hv i h)) (fun s H C cl fp => pg _ _ (cz_blk z hc s H scope cl C fp)) (fun s H C cl fp => lcT z hc ht s H C cl fp) (fun s H C cl fp => lcI z hc hi1 s H C cl fp) (fun s H C cl fp => pg1 _ _ (cz_blk z hc s H scope cl C fp)) (fun s H C cl fp => lcT z hc ht1 s H C cl fp) (fun s H C cl fp => lcE z hc he s H C cl fp) (hs _) hs1) fun Z σ H ⟨F, ρ, R, q⟩ => ?_
  refine lc2_imp (c := c) (scope := scope) (fun i h => List.contains_iff_mem.mp (List.all_eq_true.mp hsl i h)) (fun i h => List.contains_iff_mem.mp (List.all_eq_true.mp hsl1 i h)) kg kg1 (tG_bindS R q fun F1 H1 ρ1 x dx s1 R1 rx q1 => ?_)
  cases e : put i dx ρ1 with
  | none => simp only [e] at q1; exact q1.elim
  | some ρ2 => simp only [e] at q1; exact q1 _ F1 H1 (Same.refl _) (R1.put rx e)
end
/-! what simp knows of them -/
def lc2t {τ : Type} (e : τ → R (List D)) : List τ → R (List D)
  | [] => .ok []
  | x :: r => match e x with
    | .ok ys => (match lc2t e r with
      | .ok zs => .ok (ys ++ zs)
      | _ => .bad)
    | _ => .bad
theorem lc2t_fine {τ : Type} (e : τ → R (List D)) (xs : List τ) : (∃ ys, lc2t e xs = .ok ys) ∨ lc2t e xs = .bad := by
  induction xs with
  | nil => exact .inl ⟨[], rfl⟩
  | cons x r ih =>
    unfold lc2t
    rcases ih with ⟨ys, h⟩ | h
    · rw [h]; cases e x with
      | ok zs => exact .inl ⟨_, rfl⟩
      | _ => exact .inr rfl
    · rw [h]; cases e x with
      | ok zs => exact .inr rfl
      | _ => exact .inr rfl
def noErr {α : Type} (r : R α) : R α := match r with
  | .ok a => .ok a
  | _ => .bad
@[simp] theorem noErr_ok {α : Type} (a : α) : noErr (R.ok a) = .ok a := nrfl rfl
@[simp] theorem noErr_bad {α : Type} : noErr (R.bad : R α) = .bad := nrfl rfl
@[simp] theorem noErr_ite {α : Type} (p : Prop) [Decidable p] (x y : R α) : noErr (if p then x else y) = if p then noErr x else noErr y := by split <;> rfl
theorem lc2x_eq {vs1 : List Nat} {t : Tg} {mt : M Bool} {src1 : M (List D)} {t1 : Tg} {mt1 : M Bool} {me : M D} {ρ : En} : ∀ ds : List D, lc2x vs1 t mt src1 t1 mt1 me ρ ds = lc2t (fun d => onT (t d ρ) fun ρ1 => (noErr (mt ρ1).toR).bind fun b => if b = true then (noErr (src1 ρ1).toR).bind fun ds1 => lcx (fun d1 => onT (t1 d1 (wipeE ρ1 vs1)) fun ρ2 => (mt1 ρ2).toR) (fun d1 => onT (t1 d1 (wipeE ρ1 vs1)) fun ρ2 => (me ρ2).toR) ds1 else .ok []) ds
  | [] => rfl
  | d :: r => by
    unfold lc2x lc2t
    rw [lc2x_eq r]
    generalize hz : lc2t _ r = z
    have hf := lc2t_fine (fun d => onT (t d ρ) fun ρ1 => (noErr (mt ρ1).toR).bind fun b => if b = true then (noErr (src1 ρ1).toR).bind fun ds1 => lcx (fun d1 => onT (t1 d1 (wipeE ρ1 vs1)) fun ρ2 => (mt1 ρ2).toR) (fun d1 => onT (t1 d1 (wipeE ρ1 vs1)) fun ρ2 => (me ρ2).toR) ds1 else .ok []) r
    rw [hz] at hf
    clear hz
    cases t d ρ with
    | none => rfl
    | some ρ1 =>
      rw [onT_some]
      dsimp only
      cases mt ρ1 with
      | bad => rfl
      | err x ρ' => rfl
      | ok b ρ' =>
        cases b with
        | false => rcases hf with ⟨ys, rfl⟩ | rfl <;> rfl
        | true =>
          simp only [Out.toR_ok, noErr_ok, R.bind_ok, if_true]
          cases src1 ρ1 with
          | bad => rfl
          | err x ρ' => rfl
          | ok ds1 ρ' =>
            simp only [Out.toR_ok, noErr_ok, R.bind_ok] <;> rfl
@[simp] theorem at_lc2M (src : M (List D)) (vs vs1 : List Nat) (t : Tg) (mt : M Bool) (src1 : M (List D)) (t1 : Tg) (mt1 : M Bool) (me : M D) (ρ : En) : lc2M src vs vs1 t mt src1 t1 mt1 me ρ = (src ρ).b fun ds ρ1 => if noOwn ρ1 = true then (lc2t (fun d => onT (t d (wipeE ρ1 vs)) fun ρ2 => (noErr (mt ρ2).toR).bind fun b => if b = true then (noErr (src1 ρ2).toR).bind fun ds1 => lcx (fun d1 => onT (t1 d1 (wipeE ρ2 vs1)) fun ρ3 => (mt1 ρ3).toR) (fun d1 => onT (t1 d1 (wipeE ρ2 vs1)) fun ρ3 => (me ρ3).toR) ds1 else .ok []) ds).k ρ1 fun ys => if ys.length ≤ sz then .ok (.lst ys) ρ1 else .bad else .bad := by
  unfold lc2M
  rw [at_bnd]; congr 1; funext ds ρ1
  split
  · rw [lc2x_eq]
    generalize hz : lc2t _ ds = z
    have key := @lc2t_fine
    rcases key _ ds with ⟨ys, h⟩ | h
    · rw [h] at hz; subst hz; rfl
    · rw [h] at hz; subst hz; rfl
  · rfl
instance (src : M (List D)) (vs vs1 : List Nat) (t : Tg) (mt : M Bool) (src1 : M (List D)) (t1 : Tg) (mt1 : M Bool) (me : M D) [hs : Pu src] : Pu (lc2M src vs vs1 t mt src1 t1 mt1 me) := ⟨fun ρ => by rw [at_lc2M]; exact pu_b (hs.pu ρ) fun x => pu_if (pu_k fun d => pu_if (pu_ok _ ρ) (pu_bad ρ)) (pu_bad ρ)⟩
@[simp] theorem lc2t_map {τ υ : Type} (g : υ → τ) (e : τ → R (List D)) : ∀ xs : List υ, lc2t e (xs.map g) = lc2t (fun x => e (g x)) xs
  | [] => rfl
  | x :: r => by
    simp only [List.map_cons]
    unfold lc2t
    rw [lc2t_map g e r]
@[simp] theorem lc2t_ok {τ : Type} (e : τ → List D) : ∀ xs : List τ, lc2t (fun x => .ok (e x)) xs = .ok (xs.flatMap e)
  | [] => rfl
  | x :: r => by
    unfold lc2t
    rw [lc2t_ok e r]
    simp
theorem lc2t_of {τ : Type} {e : τ → R (List D)} (f : τ → List D) {xs : List τ} (h : ∀ x ∈ xs, e x = .ok (f x)) : lc2t e xs = .ok (xs.flatMap f) := by
  induction xs with
  | nil => rfl
  | cons x r ih =>
    unfold lc2t
    rw [h x List.mem_cons_self, ih fun y hy => h y (List.mem_cons_of_mem _ hy)]
    simp
def owS : Sl → Bool
  | .ow _ => false
  | _ => true
@[simp] theorem owS_un : owS .un = true := nrfl rfl
@[simp] theorem owS_fz (d : D) : owS (.fz d) = true := nrfl rfl
@[simp] theorem owS_ow (d : D) : owS (.ow d) = false := nrfl rfl
@[simp] theorem noOwn_nil : noOwn [] = true := nrfl rfl
@[simp] theorem noOwn_cons (s : Sl) (ρ : En) : noOwn (s :: ρ) = (owS s && noOwn ρ) := by
  unfold noOwn owS
  cases s <;> rfl
end DL

namespace DL
open PySem L2
/-! ### what repr writes is a text -/
def Tx (n : Nat) (s : Str) : Prop := s.cps.toList.length ≤ n ∧ ∀ c ∈ s.cps.toList, c < 0x110000
theorem Tx.mono {n m : Nat} {s : Str} (h : Tx n s) (hm : n ≤ m) : Tx m s := ⟨Nat.le_trans h.1 hm, h.2⟩
theorem Tx.ofS (s : String) {n : Nat} (h : s.toList.length ≤ n) : Tx n (Str.ofString s) := by
  rw [Str.ofString_eq_toList]
  refine ⟨by simpa using h, fun c hc => ?_⟩
  simp only [List.toList_toArray, List.mem_map] at hc
  obtain ⟨ch, _, rfl⟩ := hc
  have := ch.valid
  show ch.val.toNat < _
  rcases this with q | ⟨_, q⟩
  · exact Nat.lt_trans q (by decide)
  · exact q
theorem Tx.app {n m : Nat} {a b : Str} (h : Tx n a) (k : Tx m b) : Tx (n + m) (a ++ b) := by
  have e : (a ++ b).cps.toList = a.cps.toList ++ b.cps.toList := by
    show (a.cps ++ b.cps).toList = _
    simp
  refine ⟨by rw [e, List.length_append]; have := h.1; have := k.1; omega, fun c hc => ?_⟩
  rw [e] at hc
  rcases List.mem_append.mp hc with q | q
  · exact h.2 c q
  · exact k.2 c q
theorem reprChar_small {q c : Nat} (hq : q < 0x110000) (hc : c < 0x110000) : ∀ n ∈ Builtin.Str.reprChar q c, n < 0x110000 := by
  have hex : ∀ w, ∀ n ∈ List.replicate (w - ((Nat.toDigits 16 c).map Char.toNat).length) 48 ++ (Nat.toDigits 16 c).map Char.toNat, n < 0x110000 := fun w n hn => by
    rcases List.mem_append.mp hn with h | h
    · rw [(List.mem_replicate.mp h).2]; decide
    · obtain ⟨ch, _, rfl⟩ := List.mem_map.mp h
      have := ch.valid
      show ch.val.toNat < _
      rcases this with q | ⟨_, q⟩
      · exact Nat.lt_trans q (by decide)
      · exact q
  intro n hn
  unfold Builtin.Str.reprChar at hn
  dsimp only at hn
  split at hn
  · simp at hn; rcases hn with rfl | rfl
    · decide
    · exact hc
  split at hn
  · simp at hn; rcases hn with rfl | rfl <;> decide
  split at hn
  · simp at hn; rcases hn with rfl | rfl <;> decide
  split at hn
  · simp at hn; rcases hn with rfl | rfl <;> decide
  split at hn
  · simp at hn; subst hn; exact hc
  split at hn
  · rcases List.mem_append.mp hn with h | h
    · simp at h; rcases h with rfl | rfl <;> decide
    · exact hex 2 n h
  split at hn
  · rcases List.mem_append.mp hn with h | h
    · simp at h; rcases h with rfl | rfl <;> decide
    · exact hex 4 n h
  · rcases List.mem_append.mp hn with h | h
    · simp at h; rcases h with rfl | rfl <;> decide
    · exact hex 8 n h
theorem foldl_repr_small {q : Nat} (hq : q < 0x110000) : ∀ (l : List Nat) (acc : Array Nat), (∀ c ∈ l, c < 0x110000) → (∀ n ∈ acc.toList, n < 0x110000) → ∀ n ∈ (l.foldl (fun out c => out ++ (Builtin.Str.reprChar q c).toArray) acc).toList, n < 0x110000
  | [], acc, _, h => h
  | c :: r, acc, hl, h => by
    rw [List.foldl_cons]
    refine foldl_repr_small hq r _ (fun d hd => hl d (List.mem_cons_of_mem _ hd)) fun n hn => ?_
    rw [Array.toList_append, List.toList_toArray] at hn
    rcases List.mem_append.mp hn with k | k
    · exact h n k
    · exact reprChar_small hq (hl c List.mem_cons_self) n k
theorem tx_repr {cs : Cs} (h : ∀ c ∈ cs, c < 0x110000) : Tx (10 * cs.length + 2) (reprText (toS cs)) := by
  have hq : reprQuote (toS cs) < 0x110000 := by unfold reprQuote; split <;> decide
  refine ⟨?_, ?_⟩
  · have := StrLaws.reprText_len (toS cs) (fun c hc => by
      have := h c (by simpa [toS] using hc)
      exact Nat.lt_trans this (by decide))
    rw [toS_length] at this
    show (reprText (toS cs)).cps.toList.length ≤ _
    rw [Array.length_toList]; exact this
  · intro c hc
    unfold reprText at hc
    rw [Array.toList_push] at hc
    rcases List.mem_append.mp hc with k | k
    · rw [← Array.foldl_toList] at k
      refine foldl_repr_small hq _ _ (fun c hc => h c (by simpa [toS] using hc)) (fun n hn => ?_) c k
      simp at hn; rw [hn]; exact hq
    · simp at k; rw [k]; exact hq
mutual
def wt : D → Nat
  | .non => 4 | .bl _ => 5 | .int i => (toString i).toList.length | .str cs => 10 * cs.length + 2
  | .tup xs => 4 + wts xs | .lst xs => 4 + wts xs
  | .dct _ => 0 | .ins _ _ => 0 | .gl _ => 0 | .ty _ => 0
def wts : List D → Nat
  | [] => 0
  | x :: xs => wt x + 2 + wts xs
end
mutual
def fine : D → Bool
  | .non => true | .bl _ => true | .int i => decide (i.natAbs.log2 < 1920) | .str cs => cs.all fun c => decide (c < 0x110000)
  | .tup xs => fines xs | .lst xs => fines xs
  | .dct _ => false | .ins _ _ => false | .gl _ => false | .ty _ => false
def fines : List D → Bool
  | [] => true
  | x :: xs => fine x && fines xs
end
theorem tx_from : ∀ (ts : List Str) (ns : List Nat) (k : Nat) (acc : Str) (n : Nat), Tx n acc → ts.length = ns.length → (∀ i (h : i < ts.length) (h' : i < ns.length), Tx ns[i] ts[i]) → Tx (n + (ns.map (· + 2)).sum) (textFrom k acc ts)
  | [], [], k, acc, n, h, _, _ => by simpa [textFrom] using h
  | t :: ts, m :: ns, k, acc, n, h, hl, hi => by
    have h0 : Tx m t := hi 0 (by simp) (by simp)
    have hsep : Tx 2 (Str.ofString (if k > 0 then ", " else "")) := Tx.ofS _ (by split <;> decide)
    have h1 := (h.app hsep).app h0
    have ih := tx_from ts ns (k + 1) _ _ h1 (by simpa using hl) fun i a b => by
      have := hi (i + 1) (by simpa using a) (by simpa using b)
      simpa using this
    unfold textFrom
    refine ih.mono ?_
    simp only [List.map_cons, List.sum_cons]
    omega
theorem tx_join : ∀ (ts : List Str) (ns : List Nat), ts.length = ns.length → (∀ i (h : i < ts.length) (h' : i < ns.length), Tx ns[i] ts[i]) → Tx ((ns.map (· + 2)).sum) (Str.join (Str.ofString ", ") ts)
  | [], [], _, _ => ⟨by simp [Str.join, Str.empty], by simp [Str.join, Str.empty]⟩
  | [t], [m], _, hi => by
    have h0 : Tx m t := hi 0 (by simp) (by simp)
    show Tx _ t
    exact h0.mono (by simp)
  | t :: u :: ts, m :: k :: ns, hl, hi => by
    have h0 : Tx m t := hi 0 (by simp) (by simp)
    have ih := tx_join (u :: ts) (k :: ns) (by simpa using hl) fun i a b => by
      have := hi (i + 1) (by simpa using a) (by simpa using b)
      simpa using this
    have hsep : Tx 2 (Str.ofString ", ") := Tx.ofS _ (by decide)
    show Tx _ (t ++ Str.ofString ", " ++ Str.join (Str.ofString ", ") (u :: ts))
    refine ((h0.app hsep).app ih).mono ?_
    simp only [List.map_cons, List.sum_cons]
    omega

theorem wts_sum : ∀ xs : List D, wts xs = ((xs.map wt).map (· + 2)).sum
  | [] => by simp [wts]
  | x :: r => by simp [wts, wts_sum r]
theorem shownAll_len : ∀ xs : List D, (PyData.shownAll (pys xs)).length = xs.length
  | [] => by simp [pys, PyData.shownAll]
  | x :: r => by simp [pys, PyData.shownAll, shownAll_len r]
mutual
theorem tx_shown : ∀ d : D, isP d = true → fine d = true → Tx (wt d) (py d).shown
  | .non, _, _ => by simp only [py, PyData.shown, wt]; exact Tx.ofS _ (by decide)
  | .bl b, _, _ => by
    simp only [py, PyData.shown, wt]
    cases b
    · exact Tx.ofS _ (by decide)
    · exact Tx.ofS _ (by decide)
  | .int i, _, _ => by simp only [py, PyData.shown, wt]; exact Tx.ofS _ (Nat.le_refl _)
  | .str cs, _, h => by
    simp only [py, PyData.shown, wt]
    refine tx_repr fun c hc => ?_
    have := h
    simp only [fine, List.all_eq_true, decide_eq_true_eq] at this
    exact this c hc
  | .lst xs, h, k => by
    simp only [py, PyData.shown, wt]
    have h1 := tx_all xs (by simpa [isP] using h) (by simpa [fine] using k)
    have h2 : Tx 1 (Str.ofString "[") := Tx.ofS _ (by decide)
    have h3 : Tx 1 (Str.ofString "]") := Tx.ofS _ (by decide)
    have h4 := tx_from (PyData.shownAll (pys xs)) (xs.map wt) 0 _ _ h2 (by rw [shownAll_len, List.length_map]) h1
    refine (h4.app h3).mono ?_
    rw [wts_sum]; omega
  | .tup xs, h, k => by
    simp only [py, PyData.shown, wt]
    have h1 := tx_all xs (by simpa [isP] using h) (by simpa [fine] using k)
    have h2 : Tx 1 (Str.ofString "(") := Tx.ofS _ (by decide)
    have h3 : Tx 2 (Str.ofString (if (PyData.shownAll (pys xs)).length == 1 then ",)" else ")")) := Tx.ofS _ (by split <;> decide)
    have h4 := tx_join (PyData.shownAll (pys xs)) (xs.map wt) (by rw [shownAll_len, List.length_map]) h1
    refine ((h2.app h4).app h3).mono ?_
    rw [wts_sum]; omega
  | .dct _, h, _ => by simp [isP] at h
  | .ins _ _, h, _ => by simp [isP] at h
  | .gl _, h, _ => by simp [isP] at h
  | .ty _, h, _ => by simp [isP] at h
theorem tx_all : ∀ xs : List D, isPs xs = true → fines xs = true → ∀ i (h : i < (PyData.shownAll (pys xs)).length) (h' : i < (xs.map wt).length), Tx (xs.map wt)[i] (PyData.shownAll (pys xs))[i]
  | [], _, _, i, _, h' => by simp at h'
  | x :: r, h, k, i, h1, h2 => by
    have h' : isP x = true ∧ isPs r = true := by simpa [isPs] using h
    have k' : fine x = true ∧ fines r = true := by simpa [fines] using k
    have e1 := tx_shown x h'.1 k'.1
    have e2 := tx_all r h'.2 k'.2
    cases i with
    | zero => simpa [pys, PyData.shownAll] using e1
    | succ i =>
      have := e2 i (by simpa [pys, PyData.shownAll] using h1) (by simpa using h2)
      simpa [pys, PyData.shownAll] using this
end
mutual
theorem showable_fine : ∀ d : D, isP d = true → fine d = true → (py d).showable = true
  | .non, _, _ => by simp [py, PyData.showable]
  | .bl b, _, _ => by simp [py, PyData.showable]
  | .int i, _, h => by simpa [py, PyData.showable, fine] using h
  | .str cs, _, _ => by simp [py, PyData.showable]
  | .lst xs, h, k => by simp only [py, PyData.showable]; exact showable_fines xs (by simpa [isP] using h) (by simpa [fine] using k)
  | .tup xs, h, k => by simp only [py, PyData.showable]; exact showable_fines xs (by simpa [isP] using h) (by simpa [fine] using k)
  | .dct _, h, _ => by simp [isP] at h
  | .ins _ _, h, _ => by simp [isP] at h
  | .gl _, h, _ => by simp [isP] at h
  | .ty _, h, _ => by simp [isP] at h
theorem showable_fines : ∀ xs : List D, isPs xs = true → fines xs = true → PyData.showableAll (pys xs) = true
  | [], _, _ => by simp [pys, PyData.showableAll]
  | x :: r, h, k => by
    have h' : isP x = true ∧ isPs r = true := by simpa [isPs] using h
    have k' : fine x = true ∧ fines r = true := by simpa [fines] using k
    simp only [pys, PyData.showableAll, showable_fine x h'.1 k'.1, showable_fines r h'.2 k'.2, Bool.and_self]
end
theorem rep_ok {d : D} (h1 : isP d = true) (h2 : dep d ≤ 60) (h3 : fine d = true) (h4 : wt d ≤ 16777216) : dRepr d = some (.str (shw d)) := by
  have ht := tx_shown d h1 h3
  unfold dRepr
  rw [if_pos]
  unfold okRep
  have h5 : okS (shw d) := ⟨Nat.le_trans ht.1 (by rw [sz_val]; exact h4), ht.2⟩
  rw [h1, decide_eq_true h2, showable_fine d h1 h3, decide_eq_true h5]
  rfl
/-! bounds for lists of one kind -/
theorem fines_all : ∀ xs : List D, fines xs = xs.all fine
  | [] => by simp [fines]
  | x :: r => by simp [fines, fines_all r]
@[simp] theorem fine_lst (xs : List D) : fine (.lst xs) = xs.all fine := by simp [fine, fines_all]
@[simp] theorem fine_tup (xs : List D) : fine (.tup xs) = xs.all fine := by simp [fine, fines_all]
@[simp] theorem fine_bl (b : Bool) : fine (.bl b) = true := by simp [fine]
@[simp] theorem fine_non : fine .non = true := by simp [fine]
@[simp] theorem fine_str (cs : Cs) : fine (.str cs) = cs.all fun c => decide (c < 0x110000) := by simp [fine]
theorem wts_le {k : Nat} : ∀ {xs : List D}, (∀ x ∈ xs, wt x ≤ k) → wts xs ≤ xs.length * (k + 2)
  | [], _ => by simp [wts]
  | x :: r, h => by
    have h1 := h x List.mem_cons_self
    have h2 := wts_le (xs := r) fun y hy => h y (List.mem_cons_of_mem _ hy)
    simp only [wts, List.length_cons, Nat.succ_mul]
    omega
theorem wt_lst {k n : Nat} {xs : List D} (h : ∀ x ∈ xs, wt x ≤ k) (hn : xs.length ≤ n) : wt (.lst xs) ≤ 4 + n * (k + 2) := by
  have h1 := wts_le h
  have h2 := Nat.mul_le_mul_right (k + 2) hn
  simp only [wt]; omega
theorem wt_tup {k n : Nat} {xs : List D} (h : ∀ x ∈ xs, wt x ≤ k) (hn : xs.length ≤ n) : wt (.tup xs) ≤ 4 + n * (k + 2) := by
  have h1 := wts_le h
  have h2 := Nat.mul_le_mul_right (k + 2) hn
  simp only [wt]; omega
theorem dep_lst {k : Nat} {xs : List D} (h : ∀ x ∈ xs, dep x ≤ k) : dep (.lst xs) ≤ k + 1 := by
  have := deps_le h
  simp only [dep]; omega
theorem dep_tup {k : Nat} {xs : List D} (h : ∀ x ∈ xs, dep x ≤ k) : dep (.tup xs) ≤ k + 1 := by
  have := deps_le h
  simp only [dep]; omega
/-- small data that can be written -/
structure Rp (k n : Nat) (d : D) : Prop where
  p : isP d = true
  f : fine d = true
  e : dep d ≤ k
  w : wt d ≤ n
theorem Rp.mono {k n k' n' : Nat} {d : D} (h : Rp k n d) (hk : k ≤ k') (hn : n ≤ n') : Rp k' n' d := ⟨h.p, h.f, Nat.le_trans h.e hk, Nat.le_trans h.w hn⟩
theorem Rp.lst {k n m : Nat} {xs : List D} (h : ∀ x ∈ xs, Rp k n x) (hm : xs.length ≤ m) : Rp (k + 1) (4 + m * (n + 2)) (.lst xs) :=
  ⟨by rw [isP_lst, allP, List.all_eq_true]; exact fun x hx => (h x hx).p, by rw [fine_lst, List.all_eq_true]; exact fun x hx => (h x hx).f, dep_lst fun x hx => (h x hx).e, wt_lst (fun x hx => (h x hx).w) hm⟩
theorem Rp.tup {k n m : Nat} {xs : List D} (h : ∀ x ∈ xs, Rp k n x) (hm : xs.length ≤ m) : Rp (k + 1) (4 + m * (n + 2)) (.tup xs) :=
  ⟨by rw [isP_tup, allP, List.all_eq_true]; exact fun x hx => (h x hx).p, by rw [fine_tup, List.all_eq_true]; exact fun x hx => (h x hx).f, dep_tup fun x hx => (h x hx).e, wt_tup (fun x hx => (h x hx).w) hm⟩
theorem Rp.str {m : Nat} {cs : Cs} (h : ∀ c ∈ cs, c < 0x110000) (hm : cs.length ≤ m) : Rp 0 (10 * m + 2) (.str cs) :=
  ⟨by simp, by rw [fine_str, List.all_eq_true]; exact fun c hc => decide_eq_true (h c hc), by simp, by simp only [wt]; omega⟩
theorem Rp.bl (b : Bool) : Rp 0 5 (.bl b) := ⟨by simp, by simp, by simp, by simp [wt]⟩
theorem Rp.non : Rp 0 4 .non := ⟨by simp, by simp, by simp, by simp [wt]⟩
theorem Rp.rep {k n : Nat} {d : D} (h : Rp k n d) (hk : k ≤ 60) (hn : n ≤ 16777216) : dRepr d = some (.str (shw d)) := rep_ok h.p (Nat.le_trans h.e hk) h.f (Nat.le_trans h.w hn)
/-! more of what simp knows -/
@[simp high] theorem dEq_nat (a b : Nat) : dEq (.int (a : Int)) (.int (b : Int)) = some (.bl (decide (a = b))) := by
  rw [dEq_int]; congr 2; simp only [decide_eq_decide]; omega
@[simp high] theorem dNe_nat (a b : Nat) : dNe (.int (a : Int)) (.int (b : Int)) = some (.bl (!decide (a = b))) := by
  rw [dNe_int]; congr 3; simp only [decide_eq_decide]; omega
@[simp high] theorem dLt_nat (a b : Nat) : dLt (.int (a : Int)) (.int (b : Int)) = some (.bl (decide (a < b))) := by
  rw [dLt_int]; congr 2; simp only [decide_eq_decide]; omega
@[simp high] theorem dLe_nat (a b : Nat) : dLe (.int (a : Int)) (.int (b : Int)) = some (.bl (decide (a ≤ b))) := by
  rw [dLe_int]; congr 2; simp only [decide_eq_decide]; omega
@[simp high] theorem dGt_nat (a b : Nat) : dGt (.int (a : Int)) (.int (b : Int)) = some (.bl (decide (b < a))) := by
  rw [dGt_int]; congr 2; simp only [decide_eq_decide]; omega
@[simp high] theorem dGe_nat (a b : Nat) : dGe (.int (a : Int)) (.int (b : Int)) = some (.bl (decide (b ≤ a))) := by
  rw [dGe_int]; congr 2; simp only [decide_eq_decide]; omega
@[simp] theorem ite_ok_bl (p : Prop) [Decidable p] (a b : Bool) : (if p then R.ok (D.bl a) else R.ok (D.bl b)) = R.ok (D.bl (if p then a else b)) := by split <;> rfl
@[simp] theorem ite_okB (p : Prop) [Decidable p] (a b : Bool) : (if p then R.ok a else R.ok b) = R.ok (if p then a else b) := by split <;> rfl
@[simp] theorem dEq_nil (xs : List D) : dEq (.lst xs) (.lst []) = if allP xs = true then some (.bl xs.isEmpty) else none := by
  unfold dEq
  have : dep (.lst []) = 1 := by simp [dep, deps]
  have e : deq (.lst xs) (.lst []) = xs.isEmpty := by cases xs <;> simp
  have h1 : min (dep (.lst xs)) 1 ≤ 64 := by omega
  rw [this, e, decide_eq_true h1, isP_lst, isP_lst]
  simp
end DL

namespace DL
open PySem PySem.Spec PyProof.Rows L2 PySem.Froz
section
variable {P : Program} {w : World} {A : Around} {E : Value → Shared → Prop} {s : Shared}
theorem call_set_text {x : Str} {tx : Tok} (ks : List Str) {Q : Value → Shared → Prop} (hh : A.handled = none) (hks : ks = x.cps.toList.map fun n => (⟨#[n]⟩ : Str)) (hb : ks.length + 2 < scanBound)
    (h : ∀ (h' : Heap) (tk : Nat) (D : SD), h'.get? s.heap.objs.size = some (sObj "set" D) → TxR P w D (seen ks []) → (∀ b o, s.heap.get? b = some o → h'.get? b = some o) → Q (.ref s.heap.objs.size) { s with heap := h', toks := tk }) :
    wpAny (model P w) A (call (.type "set") [.str x tx]) Q E s := by
  have hisz : x.cps.size = ks.length := by rw [hks]; simp
  obtain ⟨c, tl, hmro⟩ := PySem.F.called_set.mro
  have hmade := PySem.F.called_set.made; have hsub := PySem.F.called_set.sub
  refine wpAny_call (codeAny_of_tree ?_)
  show wpAny _ _ (callAny (.type "set") _) _ _ _
  refine wpAny_pure ⟨Code.quiet_builtin _ (by decide +kernel), codeAny_builtin PySem.F.entry_type_call ?_⟩
  rw [Around.under_plain (weight_type_call_type "set" [.str x tx] []) rfl]
  have h1 := PySem.F.called_set.notType; have h2 := PySem.F.called_set.canCreate
  have hct := PySem.F.typeCall_set_1 (.str x tx)
  repeat (any_goals (first | assumption | wp_step))
  refine codeAny_mono (code_set_led1 (.str x tx) (E := E) (Q₁ := fun obj s₁ => obj = .ref s.heap.objs.size ∧ s₁ = { s with heap := s.heap.push (set0 w) }) ⟨rfl, rfl⟩) fun r s₁ hr => ?_
  cases r with
  | error e => exact hr
  | ok fl =>
    cases fl with
    | ret obj =>
      obtain ⟨rfl, rfl⟩ := hr
      have hS : (s.heap.push (set0 w)).get? s.heap.objs.size = some (set0 w) := Heap.get?_push_size _ rfl
      have hT : Shared.TypeIs { s with heap := s.heap.push (set0 w) } (.ref s.heap.objs.size) "set" := ⟨_, hS, rfl⟩
      have hli := PySem.F.called_set.init.lookup
      have hbi := PySem.F.called_set.init.bind (.ref s.heap.objs.size)
      repeat (any_goals (first | assumption | wp_step))
      refine codeAny_mono (codeAny_call_builtin (R := wants (fun r s₂ => r = .none ∧ ∃ h' tk D, s₂ = { s with heap := h', toks := tk } ∧ h'.get? s.heap.objs.size = some (sObj "set" D) ∧ TxR P w D (seen ks []) ∧ (∀ b o, s.heap.get? b = some o → h'.get? b = some o)) E)
        PySem.F.called_set.init.plain PySem.F.entry_set_init (check_set_init_1 hT ?_)) fun r₂ s₂ hr₂ => ?_
      · have hsls := PySem.F.sub_str_set
        have hslf : isSubtype (.type "str") (.type "frozenset") = pure false := by rw [isSubtype_type]; kernel_rfl
        have hne : (Value.type "str" == Value.type "dict") = false := by decide
        unfold Builtin.«set.__init__» noKeywords Builtin.Frozenset.updateFrom
        generalize hPI : pyIter = PI
        wp_walk
        subst hPI
        refine wpAny_pyIter_str fun o St W hst => (wpAny_bind (wpAny_runValue ?_))
        have hh3 : A.in1.in1.in1.handled = none := by simp [hh]
        have hz1 : (s.heap.push (set0 w)).objs.size = s.heap.objs.size + 1 := Heap.size_push ..
        have hSf : s.heap.objs.size ∉ [(s.heap.push (set0 w)).objs.size] := by
          rw [hz1]; simp only [List.mem_cons, List.not_mem_nil, or_false]; exact Nat.ne_of_lt (Nat.lt_succ_self _)
        have hval : ∀ (i : Nat) (v : Value), SignAt x i v → ∃ k t, ks[i]? = some k ∧ v = .str k t := fun i v ⟨c, u, h1, h2⟩ => by
          refine ⟨⟨#[c]⟩, u, ?_, h2⟩
          rw [hks, List.getElem?_map, Array.getElem?_toList, h1]; rfl
        refine upd_strs ((W _ hh3).toS) s.heap.objs.size hSf ks hisz hval (x.cps.size - 0) 0 _ [] (#[], 0, .fresh 0 0 (!w.params.followText "set-order")) (by omega) (Nat.zero_le _)
          hst (Heap.get?_push_of_some _ hS) txr0 (by rw [hisz]; simp; omega) fun s' D' mv ho F => ?_
        obtain ⟨h', g2, d', tk', os'⟩ := s'
        obtain rfl : g2 = s.gens := mv.gens
        obtain rfl : d' = s.drawn := mv.drawn
        obtain rfl : os' = s.os := mv.os
        show wpAny _ _ _ _ _ _
        refine wpAny_pure ?_
        show wpAny _ _ (PySem.ret Value.none) _ _ _
        refine wpAny_pure ⟨rfl, h', tk', D', rfl, ho, F, fun b o e => ?_⟩
        have hb0 : b < s.heap.objs.size := Heap.lt_size e
        refine mv.heap b o ?_ (Heap.get?_push_of_some _ (Heap.get?_push_of_some _ e))
        simp only [List.mem_cons, List.not_mem_nil, or_false, not_or]
        rw [hz1]; exact ⟨Nat.ne_of_lt hb0, Nat.ne_of_lt (Nat.lt_succ_of_lt hb0)⟩
      · cases r₂ with
        | error e => exact hr₂
        | ok fl₂ =>
          cases fl₂ with
          | ret r =>
            obtain ⟨rfl, h', tk, D', rfl, hS', hF', hk'⟩ := hr₂
            repeat (any_goals (first | assumption | wp_step))
            exact h _ _ _ hS' hF' hk'
          | _ => exact hr₂.elim
    | _ => exact hr.elim
theorem call_set_tup {l : Addr} {items : Array Value} (ks : List Str) {Q : Value → Shared → Prop} (hh : A.handled = none) (hl : s.heap.IsTuple l items) (hit : StrsAre items.toList ks) (hb : ks.length + 2 < scanBound)
    (h : ∀ (h' : Heap) (tk : Nat) (D : SD), h'.get? s.heap.objs.size = some (sObj "set" D) → TxR P w D (seen ks []) → (∀ b o, s.heap.get? b = some o → h'.get? b = some o) → Q (.ref s.heap.objs.size) { s with heap := h', toks := tk }) :
    wpAny (model P w) A (call (.type "set") [.ref l]) Q E s := by
  have hisz : items.size = ks.length := by
    have q := StrsAre.len_eq hit
    rw [Array.length_toList] at q
    exact q
  obtain ⟨c, tl, hmro⟩ := PySem.F.called_set.mro
  have hmade := PySem.F.called_set.made; have hsub := PySem.F.called_set.sub
  refine wpAny_call (codeAny_of_tree ?_)
  show wpAny _ _ (callAny (.type "set") _) _ _ _
  refine wpAny_pure ⟨Code.quiet_builtin _ (by decide +kernel), codeAny_builtin PySem.F.entry_type_call ?_⟩
  rw [Around.under_plain (weight_type_call_type "set" [.ref l] []) rfl]
  have h1 := PySem.F.called_set.notType; have h2 := PySem.F.called_set.canCreate
  have hct := PySem.F.typeCall_set_1 (.ref l)
  repeat (any_goals (first | assumption | wp_step))
  refine codeAny_mono (code_set_led1 (.ref l) (E := E) (Q₁ := fun obj s₁ => obj = .ref s.heap.objs.size ∧ s₁ = { s with heap := s.heap.push (set0 w) }) ⟨rfl, rfl⟩) fun r s₁ hr => ?_
  cases r with
  | error e => exact hr
  | ok fl =>
    cases fl with
    | ret obj =>
      obtain ⟨rfl, rfl⟩ := hr
      have hS : (s.heap.push (set0 w)).get? s.heap.objs.size = some (set0 w) := Heap.get?_push_size _ rfl
      have hT : Shared.TypeIs { s with heap := s.heap.push (set0 w) } (.ref s.heap.objs.size) "set" := ⟨_, hS, rfl⟩
      have hli := PySem.F.called_set.init.lookup
      have hbi := PySem.F.called_set.init.bind (.ref s.heap.objs.size)
      repeat (any_goals (first | assumption | wp_step))
      refine codeAny_mono (codeAny_call_builtin (R := wants (fun r s₂ => r = .none ∧ ∃ h' tk D, s₂ = { s with heap := h', toks := tk } ∧ h'.get? s.heap.objs.size = some (sObj "set" D) ∧ TxR P w D (seen ks []) ∧ (∀ b o, s.heap.get? b = some o → h'.get? b = some o)) E)
        PySem.F.called_set.init.plain PySem.F.entry_set_init (check_set_init_1 hT ?_)) fun r₂ s₂ hr₂ => ?_
      · have hsls := PySem.F.sub_tuple_set
        have hslf : isSubtype (.type "tuple") (.type "frozenset") = pure false := by rw [isSubtype_type]; kernel_rfl
        have hne : (Value.type "tuple" == Value.type "dict") = false := by decide
        have hl1 : (s.heap.push (set0 w)).IsTuple l items := hl.at fun o e => Heap.get?_push_of_some _ e
        have hTy : Shared.TypeIs { s with heap := s.heap.push (set0 w) } (.ref l) "tuple" := hl1.typeIs
        unfold Builtin.«set.__init__» noKeywords Builtin.Frozenset.updateFrom
        generalize hPI : pyIter = PI
        wp_walk
        subst hPI
        refine wpAny_pyIter_tuple hl1 (wpAny_bind (wpAny_runValue ?_))
        have hlS : l < s.heap.objs.size := by obtain ⟨o, ho, _⟩ := hl; exact Heap.lt_size ho
        have hh3 : A.in1.in1.in1.handled = none := by simp [hh]
        have hz1 : (s.heap.push (set0 w)).objs.size = s.heap.objs.size + 1 := Heap.size_push ..
        have hneI : l ≠ (s.heap.push (set0 w)).objs.size := by rw [hz1]; exact Nat.ne_of_lt (Nat.lt_succ_of_lt hlS)
        have hSf : s.heap.objs.size ∉ [(s.heap.push (set0 w)).objs.size, l] := by
          rw [hz1]; simp only [List.mem_cons, List.not_mem_nil, or_false, not_or]; exact ⟨Nat.ne_of_lt (Nat.lt_succ_self _), Nat.ne_of_gt hlS⟩
        have hval : ∀ (i : Nat) (v : Value), items[i]? = some v → ∃ k t, ks[i]? = some k ∧ v = .str k t := fun i v hv => by
          have hi : i < ks.length := by rw [← hisz]; exact (Array.getElem?_eq_some_iff.mp hv).1
          obtain ⟨t, e⟩ := SS.strs_at hit i v (by rw [Array.getElem?_toList]; exact hv)
          refine ⟨ks[i], t, List.getElem?_eq_getElem hi, ?_⟩
          rw [e, List.getD_eq_getElem?_getD, List.getElem?_eq_getElem hi] <;> rfl
        refine upd_strs ((Walks.tuple hh3 _ l hneI items).toS) s.heap.objs.size hSf ks hisz hval (items.size - 0) 0 _ [] (#[], 0, .fresh 0 0 (!w.params.followText "set-order")) (by omega) (Nat.zero_le _)
          ⟨⟨_, Heap.get?_push_size _ rfl, rfl, rfl⟩, hl1.at fun o e => Heap.get?_push_of_some _ e⟩ (Heap.get?_push_of_some _ hS) txr0 (by rw [hisz]; simp; omega) fun s' D' mv ho F => ?_
        obtain ⟨h', g2, d', tk', os'⟩ := s'
        obtain rfl : g2 = s.gens := mv.gens
        obtain rfl : d' = s.drawn := mv.drawn
        obtain rfl : os' = s.os := mv.os
        show wpAny _ _ _ _ _ _
        refine wpAny_pure ?_
        show wpAny _ _ (PySem.ret Value.none) _ _ _
        refine wpAny_pure ⟨rfl, h', tk', D', rfl, ho, F, fun b o e => ?_⟩
        have hb0 : b < s.heap.objs.size := Heap.lt_size e
        refine mv.heap b o ?_ (Heap.get?_push_of_some _ (Heap.get?_push_of_some _ e))
        simp only [List.mem_cons, List.not_mem_nil, or_false, not_or]
        rw [hz1]; exact ⟨Nat.ne_of_lt hb0, Nat.ne_of_lt (Nat.lt_succ_of_lt hb0)⟩
      · cases r₂ with
        | error e => exact hr₂
        | ok fl₂ =>
          cases fl₂ with
          | ret r =>
            obtain ⟨rfl, h', tk, D', rfl, hS', hF', hk'⟩ := hr₂
            repeat (any_goals (first | assumption | wp_step))
            exact h _ _ _ hS' hF' hk'
          | _ => exact hr₂.elim
    | _ => exact hr.elim
end
end DL

namespace DL
open PySem PySem.Spec PyProof.Rows L2 PySem.Froz
section
variable {X : Cx}
def rSetText (X : Cx) : List V → Hp → VK → Prop := fun xs H Q => ∃ cs : Cs, xs = [.str (toS cs)] ∧ cs.length < 4000 ∧ ∀ a, H a = none → Q (.ref a) (upd H a (TxO X.prog X.w a (seen (cs.map fun n => toS [n]) [])))
theorem call_setText (hc : X.calm = true) : CallR X (.type "set") (rSetText X) := by
  intro pins s σ H xs us Q I r ⟨cs, ex, hn, q⟩
  subst ex
  obtain ⟨u, rfl, t, rfl⟩ := vals1 r
  refine call_set_text (cs.map fun n => toS [n]) (I.ok.hd hc) (by simp [toS]) (by rw [List.length_map]; unfold scanBound; omega) fun h' tk D h1 h2 h3 => ?_
  exact ⟨.ref s.heap.objs.size, _, I.laid (t' := tk) h3 (Nat.le_refl _) (txo_ok h1 h2), rfl, q _ (I.hok.fresh (Nat.le_refl _))⟩
def rSetTup (X : Cx) : List V → Hp → VK → Prop := fun xs H Q => ∃ p ks, xs = [.ref p] ∧ SqT X.K H p (ks.map V.str) ∧ ks.length < 4000 ∧ ∀ a, H a = none → Q (.ref a) (upd H a (TxO X.prog X.w a (seen ks [])))
theorem call_setTup (hc : X.calm = true) : CallR X (.type "set") (rSetTup X) := by
  intro pins s σ H xs us Q I r ⟨p, ks, ex, hq, hn, q⟩
  subst ex
  obtain ⟨u, rfl, rx⟩ := vals1 r
  cases rx
  obtain ⟨its, rv, pl, hz⟩ := I.tuple hq
  refine call_set_tup ks (I.ok.hd hc) pl (by rw [List.toList_toArray]; exact rv.strs) (by unfold scanBound; omega) fun h' tk D h1 h2 h3 => ?_
  exact ⟨.ref s.heap.objs.size, _, I.laid (t' := tk) h3 (Nat.le_refl _) (txo_ok h1 h2), rfl, q _ (I.hok.fresh (Nat.le_refl _))⟩
end
section
variable {X : Cx}
def rSetOfL (X : Cx) : List V → Hp → VK → Prop := fun xs H Q => ∃ p ks, xs = [.ref p] ∧ SqL X.K H p (ks.map V.str) ∧ ks.length < 4000 ∧ ∀ a, H a = none → Q (.ref a) (upd H a (TxO X.prog X.w a (seen ks [])))
theorem call_setL (hc : X.calm = true) : CallR X (.type "set") (rSetOfL X) := by
  intro pins s σ H xs us Q I r ⟨p, ks, ex, hq, hn, q⟩
  subst ex
  obtain ⟨u, rfl, rx⟩ := vals1 r
  cases rx
  obtain ⟨its, rv, pl, hz⟩ := I.list hq
  refine call_set_strs ks (I.ok.hd hc) pl.isList (by rw [List.toList_toArray]; exact rv.strs) (by unfold scanBound; omega) fun h' tk D h1 h2 h3 => ?_
  exact ⟨.ref s.heap.objs.size, _, I.laid (t' := tk) h3 (Nat.le_refl _) (txo_ok h1 h2), rfl, q _ (I.hok.fresh (Nat.le_refl _))⟩
end
def asTexts : D → Option (List Cs)
  | .lst xs => asStrs xs
  | .tup xs => asStrs xs
  | .str cs => some (cs.map fun n => [n])
  | _ => none
def dSortedSetA (x : D) : Option D := (asTexts x).bind fun ss => if ss.length < 4000 ∧ (dd ss []).length < 64 then some (.lst ((sortS (dd ss [])).map .str)) else none
section
variable {c : Stat}
theorem xsortedSetA {e : Expr} {f : M D} {p p2 pos pos2 : Pos} (hm : c.mg "sorted" = none) (hm2 : c.mg "set" = none) (he : ED c e f) (hg : c.sc.names.lookup ("sorted" : Str) = some .globalImplicit := by kernel_rfl) (hg2 : c.sc.names.lookup ("set" : Str) = some .globalImplicit := by kernel_rfl)
    (h1 : ∀ env, starEach [e] env = [(false, eval e env)] := by intro _; rfl) (h2 : ∀ env, starEach [.Call (.Name "set" p2) [e] [] pos2] env = [(false, eval (.Call (.Name "set" p2) [e] [] pos2) env)] := by intro _; rfl) (hc : c.hot = false := by first | rfl | assumption) :
    ED c (.Call (.Name "sorted" p) [.Call (.Name "set" p2) [e] [] pos2] [] pos) (op1 dSortedSetA f) := fun G X W z => by
  have gl : ∀ {x : Str}, Gn c x → Gl X x := fun h => Gn.gl h z
  have ps := pe_callTy (p := p2) (pos := pos2) (CallR.or (call_setL (z.calm hc)) (CallR.or (call_setTup (z.calm hc)) (call_setText (z.calm hc)))) (gl hg2) (by rw [z.mg]; exact hm2) bt_set (pa_cons (he G X W z) pa_nil (h1 _)) (by decide) (by decide) (h1 _) rfl
  refine pe_imp (pe_callB (cr_sortedTx (z.calm hc)) (gl hg) (by rw [z.mg]; exact hm) bt_sorted (pa_cons ps pa_nil (h2 _)) (by decide) (by decide) (h2 _) rfl) fun σ H Q ⟨F, ρ, R, q⟩ => ?_
  refine tG_bind R q fun F1 H1 ρ1 x dx s1 R1 rx q1 => ?_
  obtain ⟨d, e, af⟩ := q1.lift R1
  -- what the set holds, then its sorted list
  have fin : ∀ (ss : List Cs), (∀ x ∈ ss, okS x) → (dd ss []).length < 64 → After c F1 H1 (.lst ((sortS (dd ss [])).map .str)) Q → ∀ a, H1 a = none → rSortedTx X [.ref a] (upd H1 a (TxO X.prog X.w a (seen (ss.map toS) []))) Q := fun ss hk hdl af a ha => by
    have hd : seen (ss.map toS) [] = (dd ss []).map toS := seen_toS ss []
    refine ⟨a, _, rfl, upd_same, seen_nodup _ _ List.nodup_nil, by rw [hd, List.length_map]; exact hdl, fun ys pp hp hs hn => ?_⟩
    rw [hd] at hp
    rw [sortedS_eq hp hs]
    have hpa : pp ≠ a := fun e => by subst e; rw [upd_same] at hn; cases hn
    have hn1 : H1 pp = none := by rw [upd_ne hpa] at hn; exact hn
    have fa : F1 a = none := R1.fh.free ha
    have fp : F1 pp = none := R1.fh.free hn1
    refine af (.ref pp) (upd F1 pp (.lst (((sortS (dd ss [])).map toS).map V.str))) _ ⟨fun b o q => ?_, fun b o q => ?_, fun b o q => ?_, fun b hb => ?_⟩ ?_
    · rw [upd_ne (ne_of_none q fp)]; exact q
    · by_cases hb : b = pp
      · subst hb; rw [upd_same] at q ⊢; exact q
      · rw [upd_ne hb] at q ⊢
        rw [upd_ne (ne_of_none q fa)]; exact R1.fh b o q
    · rw [upd_ne (ne_of_none q hn1), upd_ne (ne_of_none q ha)]; exact q
    · have : b ≠ pp := fun e => by subst e; exact hb hn1
      rw [upd_ne this]
    · refine dn_lst fp (dns_strs fun x hx => ?_) ?_
      · have := sortS_mem.mp hx
        rw [dd_mem] at this
        rcases this with h | h
        · exact hk x h
        · cases h
      · rw [List.length_map, sortS_len]; have : (64 : Nat) ≤ sz := by decide
        omega
  unfold dSortedSetA at e
  obtain ⟨ss, e1, e2⟩ := Option.bind_eq_some_iff.mp e
  split at e2
  case isFalse => cases e2
  rename_i h64
  cases e2
  cases rx <;> simp only [asTexts] at e1 <;> try cases e1
  · rename_i cs hok
    refine .inr (.inr ⟨cs, rfl, by simpa using h64.1, fun a ha => ?_⟩)
    have := fin (cs.map fun n => [n]) (fun x hx => by
      obtain ⟨n, hn, rfl⟩ := List.mem_map.mp hx
      exact okS_one (hok.2 _ hn)) h64.2 af a ha
    rw [List.map_map] at this
    exact this
  · rename_i hl rl ll
    obtain ⟨rfl, rfl, hk⟩ := strs_of rl e1
    exact .inr (.inl ⟨_, ss.map toS, rfl, by rw [z.K]; exact same_t R1.fh hl, by rw [List.length_map]; exact h64.1, fun a ha => fin ss hk h64.2 af a ha⟩)
  · rename_i hl rl ll
    obtain ⟨rfl, rfl, hk⟩ := strs_of rl e1
    exact .inl ⟨_, ss.map toS, rfl, .inl (same_rd R1.fh hl), by rw [List.length_map]; exact h64.1, fun a ha => fin ss hk h64.2 af a ha⟩
end
/-! what simp knows -/
theorem dd_eqN (c : Cs) : dd (c.map fun n => [n]) [] = (c.foldl (fun l a => if a ∈ l then l else a :: l) []).map fun n => [n] := by
  have := dd_one c []
  simpa using this
theorem setA_text {cs : Cs} (h : cs.length < 64) : dSortedSetA (.str cs) = some (.lst ((setN cs).map fun n => D.str [n])) := by
  have hl := dd_len (cs.map fun n => [n]) []
  simp only [List.length_map, List.length_nil, Nat.add_zero] at hl
  have h2 : (cs.map fun n => [n]).length < 4000 ∧ (dd (cs.map fun n => [n]) []).length < 64 := ⟨by rw [List.length_map]; omega, by omega⟩
  show (if (cs.map fun n => [n]).length < 4000 ∧ (dd (cs.map fun n => [n]) []).length < 64 then some (D.lst ((sortS (dd (cs.map fun n => [n]) [])).map .str)) else none) = _
  rw [if_pos h2, dd_eqN, sort_one, List.map_map]
  rfl
/-- the texts of a list, each once, in order -/
def setS (l : List Cs) : List Cs := sortS (dd l [])
theorem mem_setS {l : List Cs} {x : Cs} : x ∈ setS l ↔ x ∈ l := by unfold setS; rw [sortS_mem, dd_mem]; simp
theorem dd_nodup' : ∀ (r l : List Cs), l.Nodup → (dd r l).Nodup
  | [], l, h => h
  | k :: r, l, h => by
    unfold dd
    by_cases q : k ∈ l
    · rw [if_pos q]; exact dd_nodup' r l h
    · rw [if_neg q]; exact dd_nodup' r (k :: l) (List.nodup_cons.mpr ⟨q, h⟩)
theorem setS_nodup (l : List Cs) : (setS l).Nodup := (isort_perm leS (dd l [])).nodup_iff.mpr (dd_nodup' l [] List.nodup_nil)
theorem setS_len (l : List Cs) : (setS l).length = (dd l []).length := sortS_len _
theorem setA_lst {l : List Cs} (h : l.length < 4000) (h2 : (setS l).length < 64) : dSortedSetA (.lst (l.map D.str)) = some (.lst ((setS l).map D.str)) := by
  rw [setS_len] at h2
  unfold dSortedSetA asTexts
  simp only [strs_map, Option.bind_some]
  rw [if_pos ⟨h, h2⟩]; rfl
theorem setA_tup {l : List Cs} (h : l.length < 4000) (h2 : (setS l).length < 64) : dSortedSetA (.tup (l.map D.str)) = some (.lst ((setS l).map D.str)) := by
  rw [setS_len] at h2
  unfold dSortedSetA asTexts
  simp only [strs_map, Option.bind_some]
  rw [if_pos ⟨h, h2⟩]; rfl
end DL

namespace DL
open PySem L2
section
variable {c : Stat}
/-! ### x, y, z = a, b, d -/
def par3F (i j l : Nat) : List D → M Fl := fun ds ρ => match ds with
  | [a, b, d] => (match put i a ρ with
    | some ρ1 => (match put j b ρ1 with
      | some ρ2 => (match put l d ρ2 with
        | some ρ3 => .ok .nx ρ3
        | none => .bad)
      | none => .bad)
    | none => .bad)
  | _ => .bad
def par3M (i j l : Nat) (f : M (List D)) : M Fl := bnd f (par3F i j l)
theorem par3_at {G : Ent} {W : WX} {F H : Hp} {σ : L2.St} {ρ : En} {Z : Ends} {i j l : Nat} {vs : List V} {ds : List D} (R : Rel c.K c.mg c.xt G F H σ ρ) (rv : Dns c.K c.mg F vs ds)
    (q : PostS c G W F (par3F i j l ds ρ) Z) : ∃ u v w, vs = [u, v, w] ∧ Z.nx (((σ.set i (some u)).set j (some v)).set l (some w)) H := by
  match vs, ds, rv, q with
  | [u, v, w], [a, b, d], .cons ra (.cons rb (.cons rd .nil)), q =>
    refine ⟨u, v, w, rfl, ?_⟩
    dsimp only [par3F] at q
    cases e1 : put i a ρ with
    | none => rw [e1] at q; exact q.elim
    | some ρ1 =>
    rw [e1] at q
    dsimp only at q
    cases e2 : put j b ρ1 with
    | none => rw [e2] at q; exact q.elim
    | some ρ2 =>
    rw [e2] at q
    dsimp only at q
    cases e3 : put l d ρ2 with
    | none => rw [e3] at q; exact q.elim
    | some ρ3 =>
    rw [e3] at q
    exact q _ F H (Same.refl _) (((R.put ra e1).put rb e2).put rd e3)
  | [], [], .nil, q => exact q.elim
  | [_], [_], .cons _ .nil, q => exact q.elim
  | [_, _], [_, _], .cons _ (.cons _ .nil), q => exact q.elim
  | _ :: _ :: _ :: _ :: _, _ :: _ :: _ :: _ :: _, .cons _ (.cons _ (.cons _ (.cons _ _))), q => exact q.elim
theorem xpar3 (i j l : Nat) {x y z : Str} {a b d : Expr} {f : M (List D)} {px py pz pt pt2 pos : Pos} {kt k2 : Nat} (ha : EA c [a, b, d] f) (hi : c.N[i]? = some x := by kernel_rfl) (hj : c.N[j]? = some y := by kernel_rfl) (hl : c.N[l]? = some z := by kernel_rfl) (hij : (i == j) = false := by rfl) (hil : (i == l) = false := by rfl) (hjl : (j == l) = false := by rfl)
    (hx : c.sc.names.lookup x = some .local := by kernel_rfl) (hy : c.sc.names.lookup y = some .local := by kernel_rfl) (hz : c.sc.names.lookup z = some .local := by kernel_rfl)
    (hw : swappedStores [.Tuple [.Name x px, .Name y py, .Name z pz] kt pt] (.Tuple [a, b, d] k2 pt2) (envS c.sc) = pure (some [x, y, z]) := by kernel_rfl) (h1 : ∀ env, swapsWithSole [.Tuple [.Name x px, .Name y py, .Name z pz] kt pt] (.Tuple [a, b, d] k2 pt2) pos.line env = pure false := by intro _; rfl) (hc : c.hot = false := by first | rfl | assumption) :
    ES c (.Assign [.Tuple [.Name x px, .Name y py, .Name z pz] kt pt] (.Tuple [a, b, d] k2 pt2) pos) (par3M i j l f) := fun G X W p zz => by
  refine ps_imp (ps_par3 (zz.calm hc) (by rw [zz.N]; exact zz.nd) (by rw [zz.N]; exact hi) (by rw [zz.N]; exact hj) (by rw [zz.N]; exact hl) (by simpa using hij) (by simpa using hil) (by simpa using hjl) (by rw [zz.sc]; exact hx) (by rw [zz.sc]; exact hy) (by rw [zz.sc]; exact hz) (ha G X W zz) (by rw [sw_env _ _ zz.sc]; exact hw) (h1 _)) fun Z σ H ⟨F, ρ, R, q⟩ => ?_
  exact tG_bindS R q fun F1 H1 ρ1 vs ds s1 R1 rv q1 => par3_at R1 rv q1
theorem xpar3T (i j l : Nat) {x y z : Str} {a b d : Expr} {f : M (List D)} {px py pz pt pt2 pos : Pos} {kt k2 : Nat} (ha : EA c [a, b, d] f) (hi : c.N[i]? = some x := by kernel_rfl) (hj : c.N[j]? = some y := by kernel_rfl) (hl : c.N[l]? = some z := by kernel_rfl)
    (hx : lcB c.sc c.raw x = true := by kernel_rfl) (hy : lcB c.sc c.raw y = true := by kernel_rfl) (hz : lcB c.sc c.raw z = true := by kernel_rfl)
    (hw : swappedStores [.Tuple [.Name x px, .Name y py, .Name z pz] kt pt] (.Tuple [a, b, d] k2 pt2) (envS c.sc) = pure none := by kernel_rfl) (h1 : ∀ env, swapsWithSole [.Tuple [.Name x px, .Name y py, .Name z pz] kt pt] (.Tuple [a, b, d] k2 pt2) pos.line env = pure false := by intro _; rfl) (hc : c.hot = false := by first | rfl | assumption) :
    ES c (.Assign [.Tuple [.Name x px, .Name y py, .Name z pz] kt pt] (.Tuple [a, b, d] k2 pt2) pos) (par3M i j l f) := fun G X W p zz => by
  refine ps_imp (ps_asg (pe_tup (ha G X W zz)) (pg_tup (zz.calm hc) (pgs_cons (pg_lc zz (lc_of hi hx)) (pgs_cons (pg_lc zz (lc_of hj hy)) (pgs_cons (pg_lc zz (lc_of hl hz)) pgs_nil rfl) rfl) rfl) rfl rfl) (h1 _) (by rw [sw_env _ _ zz.sc]; exact hw) rfl) fun Z σ H ⟨F, ρ, R, q⟩ => ?_
  refine tG_bindS R q fun F1 H1 ρ1 vs ds s1 R1 rv q1 => ?_
  have hlen : vs.length = 3 := by
    obtain ⟨u, v, w, e, _⟩ := par3_at R1 rv q1
    rw [e]; rfl
  refine ⟨by rw [hlen, sz_eq]; decide, fun pp hpp => ?_⟩
  have R2 : Rel c.K c.mg c.xt G F1 (upd H1 pp (.tup vs)) σ ρ1 := R1.own (R1.fh.free hpp) (R1.h0_none hpp) (pl := .none hpp) fun k d hk hq => by
    obtain ⟨a', h1', h2'⟩ := R1.ow k d hk
    rw [hq] at h1'; cases h1'
    exact h2'.at_.some hpp
  obtain ⟨u, v, w, e, q2⟩ := par3_at R2 rv q1
  subst e
  exact ⟨pp, [u, v, w], rfl, .inl (.inl upd_same), rfl, u, [v, w], rfl, v, [w], rfl, w, [], rfl, rfl, q2⟩
end
def par3O (i j l : Nat) (ds : List D) (ρ : En) : Option En := match ds with
  | [a, b, d] => ((put i a ρ).bind (put j b)).bind (put l d)
  | _ => none
@[simp] theorem par3O_ok (i j l : Nat) (a b d : D) (ρ : En) : par3O i j l [a, b, d] ρ = ((put i a ρ).bind (put j b)).bind (put l d) := nrfl rfl
@[simp] theorem at_par3M (i j l : Nat) (f : M (List D)) (ρ : En) : par3M i j l f ρ = (f ρ).b fun ds ρ1 => asgO (par3O i j l ds ρ1) := by
  unfold par3M
  rw [at_bnd]; congr 1; funext ds ρ1
  match ds with
  | [a, b, d] =>
    dsimp only [par3O, par3F]
    cases put i a ρ1 with
    | none => rfl
    | some ρ2 =>
      dsimp only [Option.bind_some]
      cases put j b ρ2 with
      | none => rfl
      | some ρ3 =>
        dsimp only [Option.bind_some]
        cases put l d ρ3 <;> rfl
  | [] => rfl
  | [_] => rfl
  | [_, _] => rfl
  | _ :: _ :: _ :: _ :: _ => rfl
end DL

namespace DL
open PySem L2 PyProof.Rows
/-! ### len(o), o of a class with its own __len__ -/
section
variable {c : Stat}
def rLenI (C : Addr) (sp : Sp) : List V → Hp → VK → Prop := fun xs H Q => ∃ a dx fs, xs = [.ref a] ∧ H a = some (.ins C dx fs) ∧ sp [.ref a] H (fun v H1 => ∃ n : Int, v = .int n ∧ 0 ≤ n ∧ n < 2 ^ 62 ∧ Q (.int n) H1) E0
theorem call_lenI {X : Cx} {k : Nat} {C f : Addr} {fd : FuncData} {ps : List Str} {sp : Sp} (kc : Cls X.K C) (mt : Meth X.K C (Str.ofString "__len__") f) (F : FnG X.prog X.w X.K X.mg X.base k f fd ps sp) (hr : Room (k + 1) X.A) (hgd : X.A.guards = some []) (hb : Binds X.K fd ps []) : CallR X (.builtin "len") (rLenI C sp) := by
  intro pins s σ H xs us Q I r ⟨a, dx, fs, ey, ea, q⟩
  subst ey
  obtain ⟨u, rfl, rx⟩ := vals1 r
  cases rx
  obtain ⟨mA, O, _⟩ := ins_get I.hok ea
  obtain ⟨od, J, _⟩ := O.look
  obtain ⟨m, Fr⟩ := I.fr
  have hl := F.len _ _ _ _ q
  have b := hb s [.ref a] I.kIn (by rw [List.append_nil]; simpa using hl)
  rw [List.append_nil] at b
  refine PySem.W.len_K Fr I.mod.kin J mt.at_ mt.fn (wpAny_call (codeAny_mono (F.run X.A.in1 X.stack s H ⟨[.ref a], []⟩ [.ref a] [.ref a] _ E0 hr.in1 hgd I.env0.in1 b (.cons rfl .nil) q) fun r s' hq => ?_))
  have z := CR.end_ (X := X.nox) (I.wish _) (fun pins H s e s' I c => (passL (X := X.nox) pins σ H s e s' I c)) hq
  cases r with
  | error er => exact z.elim
  | ok fl =>
    cases fl with
    | ret u =>
      obtain ⟨v, H', I3, rv, n, rfl, h0, h1, q3⟩ := I.after hq
      obtain ⟨t, rfl⟩ := rv
      refine ⟨⟨h0, by omega⟩, ?_⟩
      exact ⟨.int n, H', I3.tok _, ⟨_, rfl⟩, q3⟩
    | next => exact False.elim hq
    | brk => exact False.elim hq
    | cont => exact False.elim hq
def lenI (cl : String) (g : List D → OutF) (o : M D) : M D := bnd o fun x ρ => if isIns cl x then (match g [x] with
  | .ok (.int n) _ => if 0 ≤ n ∧ n < 1000000 then .ok (.int n) ρ else .bad
  | _ => .bad) else .bad
theorem xlenI {k : Nat} {cl : String} {g : List D → OutF} {o : Expr} {fo : M D} {p pos : Pos} (me : MetD c.toBase k cl "__len__" [] g) (hm : c.mg "len" = none) (ho : ED c o fo) (hk : Nat.ble (k + 1) c.k = true := by rfl) (hg : c.sc.names.lookup ("len" : Str) = some .globalImplicit := by kernel_rfl)
    (h1 : ∀ env, starEach [o] env = [(false, eval o env)] := by intro _; rfl) (hc : c.hot = false := by first | rfl | assumption) : ED c (.Call (.Name "len" p) [o] [] pos) (lenI cl g fo) := fun G X W z => by
  obtain ⟨C, f, fd, ps, kc, mt, F, bi⟩ := me.ex
  have F' : FnG X.prog X.w X.K X.mg X.base k f fd ps (spF c.toBase [] g) := by rw [z.P, z.w, z.K, z.mg, z.base]; exact F
  have oo : CallR X (.builtin "len") (rLenI C (spF c.toBase [] g)) := call_lenI (by rw [z.K]; exact kc.c) (by rw [z.K]; exact mt) F' ((z.cold hc).mono (Nat.le_of_ble_eq_true hk)) z.gd (by rw [z.K]; exact bi)
  refine pe_imp (pe_callB oo (Gn.gl hg z) (by rw [z.mg]; exact hm) bt_len (pa_cons (ho G X W z) pa_nil (h1 _)) (by decide) (by decide) (h1 _) rfl) fun σ H Q ⟨F0, ρ, R, q⟩ => ?_
  refine tG_bind R q fun F1 H1 ρ1 x dx s1 R1 rx q1 => ?_
  split at q1
  case isFalse => exact q1.elim
  rename_i hc
  obtain ⟨ad, C', dx', vs', fs', rfl, rfl, g1, hh, r1⟩ := isIns_of hc rx
  have := kc.same g1
  subst this
  refine ⟨_, _, _, rfl, R1.fh _ _ hh, F1, [.ins cl fs'], R1.fh, args_pure (.cons rx .nil) R1.tb, ?_⟩
  cases e : g [.ins cl fs'] with
  | bad => simp only [e] at q1; exact q1
  | oko d es => simp only [e] at q1; exact q1.elim
  | err x es => simp only [e] at q1; exact q1.elim
  | ok d es =>
    simp only [e] at q1
    cases d <;> try exact q1.elim
    rename_i n
    dsimp only at q1
    split at q1
    case isFalse => exact q1.elim
    rename_i hn
    intro v F' H' f rv
    cases rv
    exact ⟨_, rfl, hn.1, by omega, q1 _ F' H' f.ff (R1.fin f) (.int _)⟩
end
def rL : OutF → R D
  | .ok (.int n) _ => if 0 ≤ n ∧ n < 1000000 then .ok (.int n) else .bad
  | _ => .bad
theorem rL_nat {n : Nat} (h : n < 1000000) (es : List D) : rL (.ok (.int (n : Int)) es) = .ok (.int (n : Int)) := by
  show (if 0 ≤ (n : Int) ∧ (n : Int) < 1000000 then R.ok (D.int (n : Int)) else .bad) = _
  rw [if_pos ⟨by omega, by omega⟩]
@[simp] theorem at_lenI (cl : String) (g : List D → OutF) (o : M D) (ρ : En) : lenI cl g o ρ = (o ρ).b fun x ρ1 => if isIns cl x then (rL (g [x])).k ρ1 fun d => .ok d ρ1 else .bad := by
  unfold lenI
  rw [at_bnd]; congr 1; funext x ρ1
  split
  · cases g [x] with
    | ok d es =>
      cases d with
      | int n => dsimp only [rL]; split <;> rfl
      | _ => rfl
    | _ => rfl
  · rfl
instance (cl : String) (g : List D → OutF) (o : M D) [h : Pu o] : Pu (lenI cl g o) := ⟨fun ρ => by rw [at_lenI]; exact pu_b (h.pu ρ) fun x => pu_if (pu_k fun d => pu_ok _ ρ) (pu_bad ρ)⟩
end DL

namespace DL
open PySem L2 PyProof.Rows
/-! ### x = [..], x the frame's own -/
section
variable {c : Stat}
def ownC : D → M Sl
  | .lst ys => ret (.ow (.lst ys))
  | _ => fun _ => .bad
def lcV (src : M (List D)) (vs : List Nat) (t : Tg) (mt : M Bool) (me : M D) : M Sl := bnd (lcM src vs t mt me) ownC
def lcO (vs : List Nat) (t : Tg) (mt : M Bool) (me : M D) (ds : List D) : M Sl := fun ρ => if noOw ρ vs then (match lcL vs t mt me ds [] (wipeE ρ vs) with
  | .ok ys ρ' => .ok (.ow (.lst ys)) (back ρ ρ' vs)
  | _ => .bad) else .bad
theorem lcV_eq {src : M (List D)} {vs : List Nat} {t : Tg} {mt : M Bool} {me : M D} : lcV src vs t mt me = bnd src fun ds => lcO vs t mt me ds := by
  funext ρ
  unfold lcV lcM bnd
  cases e : src ρ with
  | bad => simp only [e]
  | err x ρ' => simp only [e]
  | ok ds ρ' =>
    simp only [e, lcO]
    by_cases hw : noOw ρ' vs = true
    · simp only [hw, if_true]
      cases e2 : lcL vs t mt me ds [] (wipeE ρ' vs) with
      | bad => simp only [e2]
      | err x ρ2 => simp only [e2]
      | ok ys ρ2 => simp only [e2]; rfl
    · simp only [hw]; rfl
theorem lcV_imp {G : Ent} {W : WX} {vs sl : List Nat} {src : M (List D)} {t : Tg} {mt : M Bool} {me : M D} {g : TG} (hsl : ∀ i ∈ sl, i ∈ vs)
    (kg : ∀ G F H σ ρ ρ' x d Q, Rel c.K c.mg c.xt G F H σ ρ → Dn c.K c.mg F x d → t d ρ = some ρ' → (∀ σ', Rel c.K c.mg c.xt G F H σ' ρ' → SlotsBut sl σ σ' → Q σ' H) → g x σ H Q) {scope : Scope} {σ : L2.St} {H : Hp} {Q : VK} (h : tV c G W (lcV src vs t mt me) σ H Q) :
    tLc (tI c G W src) g (tGx (fun _ (b a : Bool) => b = a) (c.blk scope) (fun _ _ _ _ => False) mt) (tGx (Dn c.K c.mg) (c.blk scope) (fun _ _ _ _ => False) me) vs σ H Q := by
  obtain ⟨F, ρ, R, q⟩ := h
  rw [show lcV src vs t mt me = bnd src fun ds => lcO vs t mt me ds from lcV_eq] at q
  refine tG_bindV R q fun F1 H1 ρ1 J ds s1 R1 wk q1 => ?_
  unfold lcO at q1
  intro D' hD
  by_cases hw : noOw ρ1 vs = true
  case neg => simp only [hw] at q1; exact q1.elim
  simp only [hw, if_true] at q1
  cases e : lcL vs t mt me ds [] (wipeE ρ1 vs) with
  | bad => simp only [e] at q1; exact q1.elim
  | err x ρ' => simp only [e] at q1; exact q1.elim
  | ok ys ρf =>
  simp only [e] at q1
  have fD : F1 D' = none := R1.fh.free hD
  have hD0 : G.H0 D' = none := R1.h0_none hD
  have nD : ∀ (i : Nat) (d : D), (wipeE ρ1 vs)[i]? = some (.ow d) → (L2.wipe σ vs)[i]? ≠ some (some (.ref D')) := fun i d h q => by
    obtain ⟨a, h1, h2⟩ := (R1.wipe hw).ow i d h
    rw [q] at h1
    cases h1
    exact h2.at_.some hD
  have hz : ds.length ≤ sz := (wk 0 F1 H1 (Same.refl _) R1.fh).2.2
  refine ⟨fun i n H' => ∃ F' ρ' accV acc, Same F1 F' ∧ Rel c.K c.mg c.xt G F' H' (L2.wipe σ vs) ρ' ∧ F' D' = none ∧ H' D' = some (.lst accV) ∧ Dns c.K c.mg F' accV acc ∧ (∀ (j : Nat) (d : D), ρ'[j]? = some (.ow d) → (L2.wipe σ vs)[j]? ≠ some (some (.ref D'))) ∧
    acc.length ≤ i ∧ lcL vs t mt me (ds.drop i) acc ρ' = .ok ys ρf ∧ n = ds.length - i ∧ i ≤ ds.length,
    ⟨ds.length, F1, wipeE ρ1 vs, [], [], Same.refl _, (R1.wipe hw).own fD hD0 nD (.none hD), fD, upd_same, .nil, nD, Nat.le_refl _, e, by simp, Nat.zero_le _⟩, ?_⟩
  rintro i n H' ⟨F', ρ', accV, acc, s', R', f', h', ra, n', hl, e', rfl, hi'⟩
  obtain ⟨go, stop, _⟩ := wk i F' H' s' R'.fh
  by_cases hlt : i < ds.length
  case neg =>
    left
    have ei : i = ds.length := by omega
    subst ei
    refine ⟨stop (Nat.le_refl _), ?_⟩
    rw [List.drop_length] at e'
    cases e'
    have hl1 : ρ1.length = ρf.length := by rw [← R1.len, ← R'.len, wipe_length]
    refine q1 (.ref D') F' H' s' (R1.back hw s' R') ⟨D', rfl, ⟨f', .inl hD0, accV, h', ra⟩, fun i d q => ?_⟩
    by_cases hi : i ∈ vs
    · rw [back_in hl1 hi] at q
      exact absurd q (noOw_of hw hi d)
    · rw [back_out hi] at q
      have := n' i d q
      rwa [wipe_out hi] at this
  right
  have hd : ds[i]? = some ds[i] := List.getElem?_eq_getElem hlt
  obtain ⟨hgo, hy⟩ := go _ hd
  refine ⟨hgo, fun H2 => ∃ F2 ρ2 accV acc, Same F1 F2 ∧ Rel c.K c.mg c.xt G F2 H2 (L2.wipe σ vs) ρ2 ∧ F2 D' = none ∧ H2 D' = some (.lst accV) ∧ Dns c.K c.mg F2 accV acc ∧ (∀ (j : Nat) (d : D), ρ2[j]? = some (.ow d) → (L2.wipe σ vs)[j]? ≠ some (some (.ref D'))) ∧
    acc.length ≤ i + 1 ∧ lcL vs t mt me (ds.drop (i + 1)) acc ρ2 = .ok ys ρf, ?_, fun x H2 y => ?_⟩
  · rintro H2 ⟨F2, ρ2, aV, ac, q2, q3, q4, q5, q6, q7, q8, q9⟩
    exact ⟨ds.length - (i + 1), by omega, F2, ρ2, aV, ac, q2, q3, q4, q5, q6, q7, q8, q9, rfl, hlt⟩
  obtain ⟨F2, ex, rx⟩ := hy x H2 y
  have R2 := R'.ext ex
  have f2 : F2 D' = none := by rw [ex.nn D' (by rw [h']; exact nofun)]; exact f'
  have h2 : H2 D' = some (.lst accV) := ex.hh _ _ h'
  rw [List.drop_eq_getElem_cons hlt] at e'
  unfold lcL at e'
  cases et : t ds[i] ρ' with
  | none => simp only [et] at e'; cases e'
  | some ρ2 =>
  simp only [et] at e'
  -- the turn's own entry
  have Rn := R2.nest
  refine kg _ F2 H2 (L2.wipe σ vs) ρ' ρ2 x _ _ Rn rx et fun σ3 R3 b3 => ⟨wipe_but hsl b3, ?_⟩
  have nOwn : ∀ p ∈ owns (L2.wipe σ vs) ρ', p.2 ≠ D' := fun ⟨j, a⟩ hm zz => by
    obtain ⟨d, q1, q2⟩ := mem_owns.mp hm
    have zz : a = D' := zz
    subst zz
    exact n' j d q1 q2
  have lf : ∀ {F4 H4 : Hp} {ρ4 : En}, Rel c.K c.mg c.xt ⟨F2, H2, owns (L2.wipe σ vs) ρ'⟩ F4 H4 σ3 ρ4 → H4 D' = some (.lst accV) ∧ F4 D' = none ∧ Same F2 F4 := fun {F4 H4 ρ4} R4 => by
    refine ⟨R4.kept D' _ h2 (fun _ q => by cases q) nOwn, ?_, R4.f0⟩
    rw [R4.fn D' (by show H2 D' ≠ none; rw [h2]; exact nofun)]
    exact f2
  have nD4 : ∀ {F4 H4 : Hp} {ρ4 : En}, Rel c.K c.mg c.xt ⟨F2, H2, owns (L2.wipe σ vs) ρ'⟩ F4 H4 σ3 ρ4 → ∀ (j : Nat) (d : D), ρ4[j]? = some (.ow d) → σ3[j]? ≠ some (some (.ref D')) := fun {F4 H4 ρ4} R4 j d hj q => by
    obtain ⟨a, h1, h3⟩ := R4.ow j d hj
    rw [q] at h1
    cases h1
    rcases h3.nh with zz | ⟨p, pm, zz⟩
    · have zz : H2 D' = none := zz
      rw [h2] at zz; cases zz
    · exact nOwn p pm zz
  -- back in the loop's own entry, the block's names gone
  have up : ∀ {F4 H4 : Hp} {ρ4 : En}, Rel c.K c.mg c.xt ⟨F2, H2, owns (L2.wipe σ vs) ρ'⟩ F4 H4 σ3 ρ4 → noOw ρ4 vs = true → Rel c.K c.mg c.xt G F4 H4 (L2.wipe σ vs) (wipeE ρ4 vs) ∧ ∀ (j : Nat) (d : D), (wipeE ρ4 vs)[j]? = some (.ow d) → (L2.wipe σ vs)[j]? ≠ some (some (.ref D')) := fun {F4 H4 ρ4} R4 hw4 => by
    have b4 := wipe_but hsl b3
    have R5 := R4.wipe hw4
    rw [b4] at R5
    refine ⟨R2.unnest R5 fun _ _ => rfl, fun j d hj q => ?_⟩
    by_cases hjv : j ∈ vs
    · rcases wipeE_in (ρ := ρ4) hjv with zz | zz <;> rw [zz] at hj <;> cases hj
    · rw [wipeE_out hjv] at hj
      refine nD4 R4 j d hj ?_
      rw [b3.2 j fun zz => hjv (hsl j zz)]
      exact q
  refine ⟨⟨F2, H2, owns (L2.wipe σ vs) ρ'⟩, F2, ρ2, R3, ?_⟩
  cases em : mt ρ2 with
  | bad => simp only [em] at e'; cases e'
  | err x ρ3 => simp only [em] at e'; cases e'
  | ok b ρ3 =>
  simp only [em] at e'
  rintro b' F4 H4 s4 R4 rfl
  obtain ⟨k1, k2, k3⟩ := lf R4
  cases b' with
  | false =>
    rw [if_neg Bool.false_ne_true]
    simp only at e'
    by_cases hw4 : noOw ρ3 vs = true
    case neg => rw [if_neg hw4] at e'; cases e'
    rw [if_pos hw4] at e'
    obtain ⟨R5, n5⟩ := up R4 hw4
    exact ⟨F4, wipeE ρ3 vs, accV, acc, (s'.trans ex.ff).trans k3, R5, k2, k1, ra.mono (ex.ff.trans k3), n5, by omega, e'⟩
  | true =>
    rw [if_pos rfl]
    simp only at e'
    refine ⟨⟨F2, H2, owns (L2.wipe σ vs) ρ'⟩, F4, ρ3, R4, ?_⟩
    cases ee : me ρ3 with
    | bad => simp only [ee] at e'; cases e'
    | err x ρ4 => simp only [ee] at e'; cases e'
    | ok yd ρ4 =>
    simp only [ee] at e'
    intro yv F5 H5 s5 R5 ry
    obtain ⟨k4, k5, k6⟩ := lf R5
    by_cases hw5 : noOw ρ4 vs = true
    case neg => rw [if_neg hw5] at e'; cases e'
    rw [if_pos hw5] at e'
    obtain ⟨R6, n6⟩ := up R5 hw5
    have hacc := ra.length
    refine ⟨accV, k4, by rw [sz_eq]; omega, F5, wipeE ρ4 vs, accV ++ [yv], acc ++ [yd], (s'.trans ex.ff).trans k6, R6.own k5 hD0 n6 (.lst k4), k5, upd_same, (ra.mono (ex.ff.trans k6)).snoc ry, n6, by simp; omega, e'⟩
theorem es_setLcV {i : Nat} {y : Str} {py spos : Pos} {elt tg iter : Expr} {ifs : List Expr} {scope : Scope} {own : List (Str × Nat)} {sl : List Nat} {pos : Pos} {src : M (List D)} {t : Tg} {mt : M Bool} {me : M D} (hy : c.N[i]? = some y) (hyl : c.sc.names.lookup y = some .local) (hl : (py.line == pos.line) = true) (hk : c.sc.kind = .function)
    (hsc : (scope.names.any fun (n, k) => n == y && (k == .local || k == .cell)) = false) (hi : EI c tg iter src) (ok : blkC c.N c.sc scope own = true)
    (hg : EG (c.blk scope) tg sl t) (ht : ETs (c.blk scope) ifs mt) (he : ED (c.blk scope) elt me) (hsl : ∀ i ∈ sl, i ∈ own.map (·.2)) (hs : ∀ env x, foldedSetIterable iter env x = pure x := by intro _ _; rfl) (hc : c.hot = false := by first | rfl | assumption) :
    ES c (.Assign [.Name y py] (.ListComp elt [⟨tg, iter, ifs, 0⟩] scope pos) spos) (asgV c.np i (lcV src (own.map (·.2)) t mt me)) := fun G X W p z => by
  obtain ⟨g, pg, kg⟩ := hg
  refine ps_imp (ps_setLc (own := own) (z.calm hc) (by rw [z.N]; exact z.nd) (by rw [z.N]; exact hy) (by rw [z.sc]; exact hyl) (sw_true (by rw [z.sc]; exact hk) (by rw [z.sc]; exact hyl) hl hsc) (hi G X W z) (by rw [z.N, z.sc]; exact blkOk_by ok) (fun s H C cl fp => pg _ _ (cz_blk z hc s H scope cl C fp)) (fun s H C cl fp => lcT z hc ht s H C cl fp) (fun s H C cl fp => lcE z hc he s H C cl fp) (hs _)) fun Z σ H ⟨F, ρ, R, q⟩ => ?_
  refine lcV_imp (c := c) (scope := scope) hsl kg (tV_bindS R q fun F1 H1 ρ1 v s s1 R1 rv q1 => ?_)
  cases e1 : putS c.np i s ρ1 with
  | none => simp only [e1] at q1; exact q1.elim
  | some ρ' => simp only [e1] at q1; exact q1 _ F1 H1 (Same.refl _) (R1.putS p rv e1)
theorem xsetLcV (i : Nat) (own : List (Str × Nat)) {y : Str} {py spos : Pos} {elt tg iter : Expr} {ifs : List Expr} {scope : Scope} {sl : List Nat} {pos : Pos} {src : M (List D)} {t : Tg} {mt : M Bool} {me : M D} (hi : EI c tg iter src) (hg : EG (c.blk scope) tg sl t) (ht : ETs (c.blk scope) ifs mt) (he : ED (c.blk scope) elt me)
    (hy : c.N[i]? = some y := by kernel_rfl) (hyl : c.sc.names.lookup y = some .local := by kernel_rfl) (hl : (py.line == pos.line) = true := by rfl) (hk : c.sc.kind = .function := by rfl) (hsc : (scope.names.any fun (n, k) => n == y && (k == .local || k == .cell)) = false := by kernel_rfl) (ok : blkC c.N c.sc scope own = true := by kernel_rfl) (hsl : (sl.all fun i => (own.map (·.2)).contains i) = true := by rfl) (hs : ∀ env x, foldedSetIterable iter env x = pure x := by intro _ _; rfl) (hc : c.hot = false := by first | rfl | assumption) :
    ES c (.Assign [.Name y py] (.ListComp elt [⟨tg, iter, ifs, 0⟩] scope pos) spos) (asgV c.np i (lcV src (own.map (·.2)) t mt me)) := es_setLcV hy hyl hl hk hsc hi ok hg ht he (fun i h => List.contains_iff_mem.mp (List.all_eq_true.mp hsl i h)) hs
@[simp] theorem ownC_lst (ys : List D) : ownC (.lst ys) = ret (.ow (.lst ys)) := nrfl rfl
end
end DL

namespace DL
open PySem PySem.Spec PyProof.Rows L2 PySem.Froz PySem.W
theorem kv_keys : ∀ {kvs : List (Key × V)} {vs : List (Key × Value)}, KV kvs vs → kvs.map (·.1) = vs.map (·.1) := fun {kvs vs} h => by
  unfold KV at h
  induction h with
  | nil => rfl
  | cons a _ ih => rw [List.map_cons, List.map_cons, ih, a.1]
/-! ### sorted of a dict that stays as it is, its keys texts -/
section
variable {P : Program} {w : World} {A : Around} {E : Value → Shared → Prop} {s : Shared}
theorem collect_dict {T : String} {r d : Addr} {n : Nat} {N : Nat → Value → Prop} {OK : Heap → Prop} {R : List Value → Shared → Prop} (K : KdlSrc P w T r d n N OK) (hh : A.handled = none) (hok : OK s.heap) (hn : n ≤ sizeLine)
    (h : ∀ (h' : Heap) (tk : Nat) (acc : Array Value), (∀ b o, s.heap.get? b = some o → h'.get? b = some o) → ItemsOf N acc n → R acc.toList { s with heap := h', toks := tk }) : wpAny (model P w) A (collect (.ref r)) R E s := by
  obtain ⟨hr, hd⟩ := K.there _ hok
  unfold collect
  refine wpAny_bind (wpAny_runValue (codeAny_builtin PySem.F.entry_proto_collect ?_))
  rw [Around.under_plainId PySem.F.plain_proto_collect _]
  show wpAny _ A.in1 (newList [] >>= fun l => again (.builtin "list.__iadd__" ⟨[l, .ref r], []⟩)) _ _ s
  refine wpAny_bind (wpAny_newObj_type ?_)
  refine wpAny_pure ⟨plainId_quiet PySem.F.plain_list_iadd _, codeAny_builtin PySem.F.entry_list_iadd ?_⟩
  rw [Around.under_plainId PySem.F.plain_list_iadd _]
  have hS₁ : (s.heap.push { cls := .type "list", data := .seq ([] : List Value).toArray }).get? s.heap.objs.size = some { cls := .type "list", data := .seq #[] } := Heap.get?_push_size _ rfl
  show wpAny _ A.in1 (Builtin.List.listExtendWith (.ref s.heap.objs.size) (.ref r) (.ref s.heap.objs.size)) _ _ _
  have key := kdl_extend (A := A) (s := { s with heap := s.heap.push { cls := .type "list", data := .seq ([] : List Value).toArray } })
    (R := fun (q : Result) (s' : Shared) => ∃ (h' : Heap) (tk : Nat) (acc' : Array Value) (c' : Nat), q = .ok (.ret (.ref s.heap.objs.size)) ∧ s' = { s with heap := h', toks := tk } ∧
      (∀ b o, s.heap.get? b = some o → h'.get? b = some o) ∧ h'.get? s.heap.objs.size = some { cls := .type "list", dict := none, data := .seq acc' c', slots := #[] } ∧ ItemsOf N acc' n)
    K hh (K.keep _ _ hok fun b _ o e => Heap.get?_push_of_some _ e) s.heap.objs.size (Nat.ne_of_gt hr) (Nat.ne_of_gt hd) (.ref s.heap.objs.size) 0 hS₁
    (fun h' tk acc' c' hk hS' hacc => ⟨h', tk, acc', c', rfl, rfl, fun b o e => hk b o (Nat.ne_of_lt (Heap.lt_size e)) (Heap.get?_push_of_some _ e), hS', hacc⟩) hn
  refine wpAny_mono key (fun fin s' x => ?_) fun e s' x => ?_
  · cases fin with
    | done f =>
      obtain ⟨h', tk, acc', c', e, rfl, hk, hS', hacc⟩ := x
      cases e
      show wpAny _ A (load s.heap.objs.size >>= _) _ _ _
      refine wpAny_bind (wpAny_load hS' (wpAny_pure ?_))
      exact h h' tk acc' hk hacc
    | again c₁ =>
      refine ⟨x.1, codeAny_mono x.2 fun q s₂ y => ?_⟩
      obtain ⟨h', tk, acc', c', rfl, rfl, hk, hS', hacc⟩ := y
      show wpAny _ A (load s.heap.objs.size >>= _) _ _ _
      refine wpAny_bind (wpAny_load hS' (wpAny_pure ?_))
      exact h h' tk acc' hk hacc
  · obtain ⟨_, _, _, _, e', _⟩ := x
    cases e'
theorem sorted_dict {d : Addr} {vs : List (Key × Value)} {ep : Nat} {xs : List Str} {Q : Value → Shared → Prop} (hh : A.handled = none) (lo : (d == sysModules) = false) (hm0 : s.heap.DictAt (mixKind P w) d vs ep) (hx : vs.map (·.1) = xs.map Sum.inr) (h64 : xs.length < 64)
    (hQ : ∀ s' p (out : Array Value) (c : Nat) (ys : List Str), (∀ b o, s.heap.get? b = some o → s'.heap.get? b = some o) → s'.gens = s.gens → s'.os = s.os → s.heap.get? p = none → (∀ H : Hp, HOk P w H s.heap → H p = none) →
      s'.heap.get? p = some (seqObj "list" out c) → StrsAre out.toList ys → ys.Perm xs → sortedS ys = true → Q (.ref p) s') :
    wpAny (model P w) A (call (.builtin "sorted") [.ref d]) Q E s := by
  have hvx : vs.length = xs.length := by have := congrArg List.length hx; simpa using this
  refine Calls.call_function_entry kind_sorted plain_sorted entry_sorted (args_sorted1 _) ?_
  unfold Builtin.«sorted»
  refine wpAny_bind (m := checkCount "sorted" 1 1 _) (wpAny_pure ?_)
  refine wpAny_bind (collect_dict (A := A.in1) (kdl_dict (knd := mixKind P w) (kvs := vs) (ep := ep) lo) hh hm0 (by rw [sizeLine_eq]; omega) fun h1 tk1 acc k1 it => ?_)
  have g1 : ({ s with heap := h1, toks := tk1 } : Shared).gens = s.gens := rfl
  have o1 : ({ s with heap := h1, toks := tk1 } : Shared).os = s.os := rfl
  have k1 : ∀ b o, s.heap.get? b = some o → ({ s with heap := h1, toks := tk1 } : Shared).heap.get? b = some o := k1
  generalize ({ s with heap := h1, toks := tk1 } : Shared) = s1 at g1 o1 k1
  have hvl : acc.toList.length = xs.length := by rw [Array.length_toList, it.1, hvx]
  have key : ∀ (j : Nat) v, acc.toList[j]? = some v → ∃ c u, xs[j]? = some c ∧ v = .str c u := fun j v hj => by
    obtain ⟨k, x, h1, h2⟩ := it.2 j v (by rw [← Array.getElem?_toList]; exact hj)
    have e1 : (vs.map (·.1))[j]? = some k := by rw [List.getElem?_map, h1]; rfl
    rw [hx, List.getElem?_map] at e1
    obtain ⟨c, hc, rfl⟩ := Option.map_eq_some_iff.mp e1
    obtain ⟨u, e⟩ := Value.isStrOf_shape (x := c) (v := v) h2
    exact ⟨c, u, hc, e⟩
  have hI : StrsAre acc.toList (acc.toList.map vStr) := strs_are fun v hv => by
    obtain ⟨j, hj⟩ := List.mem_iff_getElem?.mp hv
    obtain ⟨c, u, _, h2⟩ := key j v hj
    exact ⟨_, u, h2⟩
  have hm : acc.toList.map vStr = xs := by
    apply List.ext_getElem?
    intro j
    rw [List.getElem?_map]
    cases e : acc.toList[j]? with
    | none =>
      have := List.getElem?_eq_none_iff.mp e
      rw [List.getElem?_eq_none (by omega)]
      rfl
    | some v =>
      obtain ⟨c, u, h1, h2⟩ := key j v e
      rw [h1, h2]; rfl
  refine wpAny_bind (wpAny_newList ?_ (by rw [hvl, sizeLine_eq]; omega))
  have hoL : (s1.heap.push (seqObj "list" acc.toList.toArray 0)).get? s1.heap.objs.size = some (seqObj "list" acc.toList.toArray 0) := Heap.get?_push_size _ rfl
  refine wpAny_bind (wpAny_holding (wpAny_call_entry slot_list_sort ⟨_, hoL, rfl⟩ entry_list_sort (list_sort_treeK strKind_oneLt hoL hI.keysOf (fun v₁ v₂ rest e => keyKind_strs (by rw [← e]; exact hI)) (by rw [hvl]; exact h64) fun st' hp hs => ⟨_, rfl, ?_⟩) (args_list_sort _)))
  obtain ⟨ys, g2, g3, g4⟩ := sorted_out_str hI hp hs
  obtain ⟨c, hc⟩ := sortedHeap_at (vs := acc.toList) (out := (arrOf st').map (·.2)) hoL
  have hnone : s.heap.get? s1.heap.objs.size = none := by
    cases e : s.heap.get? s1.heap.objs.size with
    | none => rfl
    | some o => exact absurd (Heap.lt_size (k1 _ _ e)) (Nat.lt_irrefl _)
  refine wpAny_pure ⟨_, rfl, hQ _ s1.heap.objs.size _ c ys (fun b u e => ?_) g1 o1 hnone (fun H x => (x.kept k1).fresh (Nat.le_refl _)) hc g2 (by rw [← hm]; exact g3) g4⟩
  have q := k1 b u e
  have hlt := Heap.lt_size q
  show (sortedHeap (s1.heap.push (seqObj "list" acc.toList.toArray 0)) s1.heap.objs.size acc.toList _).get? b = some u
  rw [sortedHeap_old (Nat.ne_of_lt hlt) (by rw [size_push']; exact Nat.lt_succ_of_lt hlt)]
  exact Heap.get?_push_of_some _ q
end
section
variable {X : Cx}
def rSortedDict : List V → Hp → VK → Prop := fun xs H Q => ∃ (d : Addr) (o : Obj) (kvs : List (Key × V)) (ss : List Str), xs = [.ref d] ∧ H d = some (.frz o (.dK kvs)) ∧ kvs.map (·.1) = ss.map Sum.inr ∧ ss.length < 64 ∧ ∀ (ys : List Str) p, ys.Perm ss → sortedS ys = true → H p = none → Q (.ref p) (upd H p (.lst (ys.map V.str)))
theorem cr_sortedDict (hc : X.calm = true) : CallR X (.builtin "sorted") rSortedDict := by
  intro pins s σ H vs us Q I r ⟨d, o, kvs, ss, ex, hd, hk, h64, q⟩
  subst ex
  obtain ⟨u, rfl, rx⟩ := vals1 r
  cases rx
  obtain ⟨hs, hgd, hx, es', ep', vs, hdt, hsz, kv, hm⟩ := I.frzK hd
  refine sorted_dict (I.ok.hd hc) hs hm (by rw [← kv_keys kv]; exact hk) h64 fun s' p out c ys k g o hp hfr hg hi hperm hsr => ?_
  have hlen : (ys.map V.str).length ≤ sizeLine := by rw [List.length_map, hperm.length_eq, sizeLine_eq]; omega
  have hn : H p = none := hfr H I.hok
  have J : Inv X pins σ (upd H p (.lst (ys.map V.str))) { s with heap := s'.heap, gens := s'.gens, drawn := s'.drawn, toks := s'.toks } :=
    I.call (ch := []) (Un.laidN k hp hn) (I.hok.laidN k hn ⟨hlen, out.toList, c, vals_of_strs hi, hg⟩) (by rw [g]; exact I.bare) (fun _ z => nomatch z)
  have e : s' = { s with heap := s'.heap, gens := s'.gens, drawn := s'.drawn, toks := s'.toks } := by
    obtain ⟨_, _, _, _, _⟩ := s'
    obtain ⟨_, _, _, _, _⟩ := s
    cases o
    rfl
  rw [e]
  exact ⟨.ref p, _, J, rfl, q ys p hperm hsr hn⟩
end
section
variable {c : Stat}
def keyStrs : List (DK × D) → Option (List Cs)
  | [] => some []
  | (.s x, _) :: r => (keyStrs r).map (x :: ·)
  | (.i _, _) :: _ => none
theorem dkv_strs {K : PySem.W.Frag} {mg : Str → Option Value} {F : Hp} : ∀ {kvs : List (Key × V)} {kds : List (DK × D)} {ss : List Cs}, Dkv K mg F kvs kds → keyStrs kds = some ss → kvs.map (·.1) = (ss.map toS).map Sum.inr ∧ (∀ x ∈ ss, okS x) ∧ ss.length = kds.length
  | _, _, ss, .nil, h => by cases h; exact ⟨rfl, (fun _ q => nomatch q), rfl⟩
  | _, _, ss, @Dkv.cons _ _ _ (.s x) _ _ _ _ ok _ r, h => by
    obtain ⟨t, ht, rfl⟩ := Option.map_eq_some_iff.mp h
    obtain ⟨h1, h2, h3⟩ := dkv_strs r ht
    refine ⟨?_, fun y hy => ?_, by simp [h3]⟩
    · rw [List.map_cons, h1]; rfl
    · rcases List.mem_cons.mp hy with rfl | q
      · exact ok
      · exact h2 y q
  | _, _, ss, @Dkv.cons _ _ _ (.i x) _ _ _ _ ok _ r, h => by cases h
def dSortedB : D → Option D
  | .dct kds => match keyStrs kds with
    | some ss => if ss.length < 64 then some (.lst ((sortS ss).map .str)) else none
    | none => none
  | x => dSortedA x
theorem b_sortedB (hc : c.hot = false := by first | rfl | assumption) : BCl c (.builtin "sorted") (on1 dSortedB) := fun X W z => by
  obtain ⟨rV, o, k⟩ := b_sortedA (c := c) hc X W z
  refine ⟨_, CallR.or (cr_sortedDict (z.calm hc)) o, r1 fun F H x dx d Q s h e a => ?_⟩
  cases dx with
  | dct kds =>
    cases h
    rename_i h1 r1 l1
    simp only [dSortedB] at e
    split at e
    case h_2 => cases e
    rename_i ss hs
    split at e
    case isFalse => cases e
    rename_i h64
    cases e
    obtain ⟨q1, q2, q3⟩ := dkv_strs r1 hs
    refine .inl ⟨_, _, _, ss.map toS, rfl, s _ _ h1, q1, by simpa using h64, fun ys p hp hsr hn => ?_⟩
    rw [sortedS_eq hp hsr]
    exact after_lst s a hn (dns_strs fun c hc => q2 c (sortS_mem.mp hc)) (by rw [List.length_map, sortS_len, q3]; exact l1)
  | _ => exact .inr (k F H [x] [_] d Q s (.cons h .nil) e a)
end
instance (a : M D) [h : Pu a] : Pu (keysS a) := ⟨fun ρ => pu_b (h.pu ρ) fun x => pu_lift _ ρ⟩
@[simp] theorem dSortedB_str (x : Cs) : dSortedB (.str x) = dSortedA (.str x) := nrfl rfl
@[simp] theorem dSortedB_lst (x : List D) : dSortedB (.lst x) = dSortedA (.lst x) := nrfl rfl
theorem keyStrs_map {α : Type} (f : α → Cs) (v : α → D) : ∀ xs : List α, keyStrs (xs.map fun x => (DK.s (f x), v x)) = some (xs.map f)
  | [] => rfl
  | x :: r => by rw [List.map_cons, keyStrs, keyStrs_map f v r]; rfl
end DL

namespace DL
open PySem L2 PyProof.Rows
section
variable {c : Stat}
/-! ### is True, is not True -/
def dIsB : D → D → Option D
  | .bl a, .bl b => some (.bl (decide (a = b)))
  | _, _ => none
def dIsNotB : D → D → Option D
  | .bl a, .bl b => some (.bl (!decide (a = b)))
  | _, _ => none
theorem c_isB : COp c .Is dIsB := fun X W z => ⟨_, op_is_bl, fun F H x y dx dy d Q e hx hy h a => by
  cases dx <;> cases dy <;> simp [dIsB] at h
  cases hx; cases hy
  subst h
  exact ⟨_, _, rfl, rfl, a.here e (.bl _)⟩⟩
theorem c_isnotB : COp c .IsNot dIsNotB := fun X W z => ⟨_, op_isnot_bl, fun F H x y dx dy d Q e hx hy h a => by
  cases dx <;> cases dy <;> simp [dIsNotB] at h
  cases hx; cases hy
  subst h
  exact ⟨_, _, rfl, rfl, a.here e (.bl _)⟩⟩
@[simp] theorem dIsB_bl (a b : Bool) : dIsB (.bl a) (.bl b) = some (.bl (decide (a = b))) := nrfl rfl
@[simp] theorem dIsNotB_bl (a b : Bool) : dIsNotB (.bl a) (.bl b) = some (.bl (!decide (a = b))) := nrfl rfl
end
end DL

/-! printed by gen.py: the readings of the defs and their derivations -/
namespace LW
open PySem L2 DL
def top (i : Nat) : Stmt := PySem.Challenge.pw_nevermixed_k09_whole_covers_by_knots.main.body.getD i (.Pass ⟨0, 0, 0, 0⟩)
def isiCls : List String := ["Line"]
def S_abcdefghijklmnopqrstuvwx : Cs := [97, 98, 99, 100, 101, 102, 103, 104, 105, 106, 107, 108, 109, 110, 111, 112, 113, 114, 115, 116, 117, 118, 119, 120, 121, 122]
def S_01234567 : Cs := [48, 49, 50, 51, 52, 53, 54, 55]
def S_abcdefmnxyz : Cs := [97, 98, 99, 100, 101, 102, 109, 110, 120, 121, 122]
def S_034567 : Cs := [48, 51, 52, 53, 54, 55]
def S_01234 : Cs := [48, 49, 50, 51, 52]
abbrev sf_jar : Stmt := top 36
abbrev sf_check_line : Stmt := top 20
abbrev sf_lots_of : Stmt := top 24
abbrev sf_Line_letters : Stmt := inClass (top 18) 3
abbrev sf_is_apart : Stmt := top 26
abbrev sf_is_letter : Stmt := top 13
abbrev sf_sets_of : Stmt := top 29
abbrev sf_is_knot : Stmt := top 25
abbrev sf_near : Stmt := top 44
abbrev sf_lots : Stmt := top 45
abbrev sf_are_looks : Stmt := top 14
abbrev sf_dip : Stmt := top 37
abbrev sf_is_cover : Stmt := top 49
abbrev sf_apart_lots : Stmt := top 47
abbrev sf_knot_lots : Stmt := top 46
abbrev sf_is_pair : Stmt := top 15
abbrev sf_glyphs : Stmt := top 40
abbrev sf_pick : Stmt := top 38
abbrev sf_figs : Stmt := top 39
abbrev sf_fewest : Stmt := top 48
abbrev sf_Line__ucontains__ : Stmt := inClass (top 18) 7
abbrev sf_check_signs : Stmt := top 16
abbrev sf_plain_line : Stmt := top 41
abbrev sf_ring_line : Stmt := top 42
abbrev sf_any_line : Stmt := top 43
abbrev sf_Line__uinit__ : Stmt := inClass (top 18) 0
abbrev sf_check_sign : Stmt := top 19
abbrev sf_Line_looks_of : Stmt := inClass (top 18) 10
abbrev sf_share_look : Stmt := top 22
abbrev sf_mixed_table : Stmt := top 23
abbrev sf_all_apart : Stmt := top 28
abbrev sf_all_knots : Stmt := top 27
abbrev sf_most_apart : Stmt := top 32
abbrev sf_least_cover : Stmt := top 30
abbrev sf_cover : Stmt := top 31
abbrev sf_fewest_knots : Stmt := top 33
abbrev sf_is_whole : Stmt := top 34
abbrev sf_right : Stmt := top 50
abbrev sf_law : Stmt := top 51
def Nf_jar : List Str := ["_law_script", "_law_k", "_law_churned", "_law_cell", "_law_own", "_law_digits"]
def Pf_jar : List Str := ["_law_script", "_law_k"]
def b0f_jar : M Fl := wipM [3] (asgM (put 2) (op2 dMod (opL (on1 dInt) (argc (op2 dAdd (op2 dMul (v 2) (cn (.int 733))) (v 3)) args0)) (cn (.int 1000000009))))
def l0f_jar : M Fl := preM [3] (forM (seqS (slM (v 0) (ret none) (opt (cn (.int 4))))) (put 3) b0f_jar)
def mf_jar : M Fl := (seqM (asgM (put 2) (op2 dAdd (op2 dMul (op2 dMul (cn (.int 7369)) (op2 dAdd (v 1) (cn (.int 5)))) (op2 dAdd (v 1) (cn (.int 2)))) (op2 dMul (cn (.int 29)) (opL dLen (argc (v 0) args0)))))
    (seqM l0f_jar
    (seqM (asgM (put 4) (ifE (tbM (op2 dLt (v 1) (opL dLen (argc (v 0) args0)))) (op2 dIx (v 0) (v 1)) (cn (.int 0))))
    (seqM (asgM (put 5) (ifE (orT (tbM (op2 dLt (v 4) (cn (.int 0)))) (tbM (op2 dGe (v 4) (op2 dPow (cn (.int 10)) (cn (.int 18)))))) (opL (on1 dAbs) (argc (v 4) args0)) (cn (.int 0))))
    (retV (owL (argc (v 5) (argc (op2 dMod (opL (on1 dInt) (argc (op2 dAdd (op2 dAdd (op2 dMul (v 2) (cn (.int 8117))) (op2 dMul (v 4) (cn (.int 64013)))) (op2 dMul (cn (.int 105019)) (op2 dAdd (v 1) (cn (.int 1))))) args0)) (cn (.int 2147483563))) (argc (cn (.int 0)) args0)))))))))
def gf_jar : List D → OutF := fnM 2 6 [] mf_jar
def Nf_check_line : List Str := ["value"]
def Pf_check_line : List Str := ["value"]
def mf_check_line : M Fl := (ifM (notT (trM (opL (dIsi isiCls) (argc (v 0) (argc (cn (.gl "Line")) args0))))) (fun _ => .bad) passM)
def gf_check_line : List D → OutF := fnM 1 1 [] mf_check_line
def Nf_lots_of : List Str := ["letters", "found", "sign", "lot"]
def Pf_lots_of : List Str := ["letters"]
def b0f_lots_of : M Fl := wipM [2] (asgM (put 1) (op2 dAdd (v 1) (lcM (seqS (v 1)) [3] (put 3) (ret true) (op2 dAdd (v 3) (v 2)))))
def l0f_lots_of : M Fl := preM [2] (forM (seqS (opL (on1 dSortedA) (argc (v 0) args0))) (put 2) b0f_lots_of)
def mf_lots_of : M Fl := (seqM (asgM (put 1) (opL mkL (argc (cn (.str [])) args0)))
    (seqM l0f_lots_of
    (retM (v 1))))
def gf_lots_of : List D → OutF := fnM 1 4 [] mf_lots_of
def Nf_Line_letters : List Str := ["self", "each"]
def Pf_Line_letters : List Str := ["self"]
def mf_Line_letters : M Fl := (retM (opMt isStr dJoin (cn (.str [])) (argc (lcM (seqS (op1 (dAttr "Line" "lot") (v 0))) [1] (put 1) (ret true) (op2 dIx (v 1) (cn (.int 0)))) args0)))
def gf_Line_letters : List D → OutF := fnM 1 2 [] mf_Line_letters
def Nf_is_apart : List Str := ["table", "lot", "sign", "other"]
def Pf_is_apart : List Str := ["table", "lot"]
def mf_is_apart : M Fl := (retM (notV (opL (on1 dAny) (argc (lc2M (seqS (v 1)) [2, 3] [3] (put 2) (ret true) (seqS (v 1)) (put 3) (tbM (op2 dNe (v 3) (v 2))) (op2 dIn (v 3) (op2 dIx (v 0) (v 2)))) args0))))
def gf_is_apart : List D → OutF := fnM 2 4 [] mf_is_apart
def Nf_is_letter : List Str := ["value"]
def Pf_is_letter : List Str := ["value"]
def mf_is_letter : M Fl := (retM (andV (opL (dIsi isiCls) (argc (v 0) (argc (cn (.ty "str")) args0))) (andV (op2 dEq (opL dLen (argc (v 0) args0)) (cn (.int 1))) (op2 dIn (v 0) (cn (.str S_abcdefghijklmnopqrstuvwx))))))
def gf_is_letter : List D → OutF := fnM 1 1 [] mf_is_letter
def Nf_sets_of : List Str := ["things", "size", "found", "thing", "lot"]
def Pf_sets_of : List Str := ["things", "size"]
def b0f_sets_of : M Fl := wipM [3] (asgM (put 2) (op2 dAdd (v 2) (lcM (seqS (v 2)) [4] (put 4) (tbM (op2 dLt (opL dLen (argc (v 4) args0)) (v 1))) (op2 dAdd (v 4) (opL mkT (argc (v 3) args0))))))
def l0f_sets_of : M Fl := preM [3] (forM (seqS (v 0)) (put 3) b0f_sets_of)
def mf_sets_of : M Fl := (seqM (asgM (put 2) (opL mkL (argc (opL mkT args0) args0)))
    (seqM l0f_sets_of
    (retM (lcM (seqS (v 2)) [4] (put 4) (tbM (op2 dEq (opL dLen (argc (v 4) args0)) (v 1))) (v 4)))))
def gf_sets_of : List D → OutF := fnM 2 5 [] mf_sets_of
def Nf_is_knot : List Str := ["table", "lot", "sign", "other"]
def Pf_is_knot : List Str := ["table", "lot"]
def mf_is_knot : M Fl := (retM (opL (on1 dAll) (argc (lc2M (seqS (v 1)) [2, 3] [3] (put 2) (ret true) (seqS (v 1)) (put 3) (ret true) (op2 dIn (v 3) (op2 dIx (v 0) (v 2)))) args0)))
def gf_is_knot : List D → OutF := fnM 2 4 [] mf_is_knot
def Nf_near : List Str := ["_law_pairs_here", "_law_found", "_law_glyph", "_law_own", "_law_each", "_law_figure"]
def Pf_near : List Str := ["_law_pairs_here"]
def b0f_near : M Fl := wipM [2, 3] (stO 1 (lcM (seqS (v 0)) [4] (put 4) (tbM (op2 dNe (lcM (seqS (op2 dIx (v 4) (cn (.int 1)))) [5] (put 5) (tbM (op2 dIn (v 5) (v 3))) (v 5)) (opL mkL args0))) (op2 dIx (v 4) (cn (.int 0)))) (v 2))
def l0f_near : M Fl := preM [2, 3] (forM (seqS (v 0)) (tgT 2 (tgC (put 2) (tgC (put 3) tgN))) b0f_near)
def mf_near : M Fl := (seqM (asgV 1 1 (ret (.ow (.dct []))))
    (seqM l0f_near
    (frzM 1 (retM (v 1)))))
def gf_near : List D → OutF := fnM 1 6 [] mf_near
def Nf_lots : List Str := ["_law_pairs_here", "_law_found", "_law_glyph", "_law_each", "_law_lot"]
def Pf_lots : List Str := ["_law_pairs_here"]
def b0f_lots : M Fl := wipM [2] (asgM (put 1) (op2 dAdd (v 1) (lcM (seqS (v 1)) [4] (put 4) (ret true) (op2 dAdd (v 4) (v 2)))))
def l0f_lots : M Fl := preM [2] (forM (seqS (opL (on1 dSortedA) (argc (lcM (seqS (v 0)) [3] (put 3) (ret true) (op2 dIx (v 3) (cn (.int 0)))) args0))) (put 2) b0f_lots)
def mf_lots : M Fl := (seqM (asgM (put 1) (opL mkL (argc (cn (.str [])) args0)))
    (seqM l0f_lots
    (retM (slM (v 1) (opt (cn (.int 1))) (ret none)))))
def gf_lots : List D → OutF := fnM 1 5 [] mf_lots
def Nf_are_looks : List Str := ["value", "figure", "k"]
def Pf_are_looks : List Str := ["value"]
def mf_are_looks : M Fl := (seqM (ifM (orT (notT (trM (opL (dIsi isiCls) (argc (v 0) (argc (cn (.ty "str")) args0))))) (orT (tbM (op2 dEq (v 0) (cn (.str [])))) (notT (trM (opL (on1 dAll) (argc (lcM (seqS (v 0)) [1] (put 1) (ret true) (op2 dIn (v 1) (cn (.str S_01234567)))) args0)))))) (retM (cn (.bl false))) passM)
    (retM (opL (on1 dAll) (argc (lcM (srcL dRng1 (argc (op2 dSub (opL dLen (argc (v 0) args0)) (cn (.int 1))) args0)) [2] (put 2) (ret true) (op2 dLt (op2 dIx (v 0) (v 2)) (op2 dIx (v 0) (op2 dAdd (v 2) (cn (.int 1)))))) args0))))
def gf_are_looks : List D → OutF := fnM 1 3 [] mf_are_looks
def Nf_dip : List Str := ["_law_jar_here", "_law_wide", "_law_digit", "_law_seed"]
def Pf_dip : List Str := ["_law_jar_here", "_law_wide"]
def mf_dip : M Fl := (seqM (stO 0 (op2 dAdd (ixO 0 (cn (.int 2))) (cn (.int 1))) (cn (.int 2)))
    (seqM (ifM (tbM (op2 dGt (ixO 0 (cn (.int 0))) (cn (.int 0)))) (seqM (asgM (put 2) (op2 dMod (opL (on1 dInt) (argc (ixO 0 (cn (.int 0))) args0)) (v 1)))
    (seqM (stO 0 (op2 dFdv (opL (on1 dInt) (argc (ixO 0 (cn (.int 0))) args0)) (v 1)) (cn (.int 0)))
    (retM (v 2)))) passM)
    (seqM (asgM (put 3) (opL (on1 dInt) (argc (ixO 0 (cn (.int 1))) args0)))
    (seqM (stO 0 (op2 dMod (opL (on1 dInt) (argc (op2 dAdd (op2 dAdd (op2 dMul (v 3) (cn (.int 40692))) (op2 dMul (ixO 0 (cn (.int 2))) (cn (.int 52021)))) (cn (.int 31))) args0)) (cn (.int 2147483399))) (cn (.int 1)))
    (retM (op2 dMod (opL (on1 dInt) (argc (op2 dFdv (ixO 0 (cn (.int 1))) (cn (.int 2048))) args0)) (v 1)))))))
def gf_dip : List D → OutF := fnM 2 4 [0] mf_dip
def Nf_is_cover : List Str := ["_law_pairs_here", "_law_value", "_law_near_here", "_law_every", "_law_lot", "_law_glyph", "_law_each"]
def Pf_is_cover : List Str := ["_law_pairs_here", "_law_value"]
def b0f_is_cover : M Fl := wipM [5] (ifM (tbM (op2 dNe (lcM (seqS (v 4)) [6] (put 6) (tbM (op2 dNotIn (v 6) (op2 dIx (v 2) (v 5)))) (v 6)) (opL mkL args0))) (retM (cn (.bl false))) passM)
def l0f_is_cover : M Fl := preM [5] (forM (seqS (v 4)) (put 5) b0f_is_cover)
def b2f_is_cover : M Fl := wipM [4, 5] (seqM (ifM (tbM (op2 dNotIn (v 4) (v 3))) (retM (cn (.bl false))) passM)
    l0f_is_cover)
def l2f_is_cover : M Fl := preM [4, 5] (forM (seqS (v 1)) (put 4) b2f_is_cover)
def mf_is_cover : M Fl := (seqM (parV 2 2 3 (fzV (cal gf_near (argc (v 0) args0))) (fzV (cal gf_lots (argc (v 0) args0))))
    (seqM (ifM (orT (notT (trM (opL (dIsi isiCls) (argc (v 1) (argc (cn (.ty "tuple")) args0))))) (tbM (op2 dNe (opL (on1 dList) (argc (v 1) args0)) (op1 dSortedSetA (v 1))))) (retM (cn (.bl false))) passM)
    (seqM l2f_is_cover
    (retM (op2 dEq (lcM (seqS (v 0)) [6] (put 6) (tbM (op2 dEq (lcM (seqS (v 1)) [4] (put 4) (tbM (op2 dIn (op2 dIx (v 6) (cn (.int 0))) (v 4))) (v 4)) (opL mkL args0))) (v 6)) (opL mkL args0))))))
def gf_is_cover : List D → OutF := fnM 2 7 [] mf_is_cover
def Nf_apart_lots : List Str := ["_law_pairs_here", "_law_near_here", "_law_found", "_law_lot", "_law_each", "_law_glyph", "_law_most_here"]
def Pf_apart_lots : List Str := ["_law_pairs_here"]
def b0f_apart_lots : M Fl := wipM [3] (ifM (trM (opL (on1 dAll) (argc (lcM (seqS (v 3)) [5] (put 5) (ret true) (op2 dEq (lcM (seqS (v 3)) [4] (put 4) (tbM (op2 dIn (v 4) (op2 dIx (v 1) (v 5)))) (v 4)) (opL mkL (argc (v 5) args0)))) args0))) (dropM (appO 2 (v 3))) passM)
def l0f_apart_lots : M Fl := preM [3] (forM (seqS (cal gf_lots (argc (v 0) args0))) (put 3) b0f_apart_lots)
def mf_apart_lots : M Fl := (seqM (asgM (put 1) (cal gf_near (argc (v 0) args0)))
    (seqM (asgV 1 2 (owL args0))
    (seqM l0f_apart_lots
    (frzM 2 (seqM (asgM (put 6) (opL (on1 dMaxL) (argc (lcM (seqS (v 2)) [3] (put 3) (ret true) (opL dLen (argc (v 3) args0))) args0)))
    (retM (opL (on1 dSortedA) (argc (lcM (seqS (v 2)) [3] (put 3) (tbM (op2 dEq (opL dLen (argc (v 3) args0)) (v 6))) (v 3)) args0))))))))
def gf_apart_lots : List D → OutF := fnM 1 7 [] mf_apart_lots
def Nf_knot_lots : List Str := ["_law_pairs_here", "_law_near_here", "_law_found", "_law_lot", "_law_each", "_law_glyph", "_law_great"]
def Pf_knot_lots : List Str := ["_law_pairs_here"]
def b0f_knot_lots : M Fl := wipM [3] (ifM (trM (opL (on1 dAll) (argc (lcM (seqS (v 3)) [5] (put 5) (ret true) (op2 dEq (opL dLen (argc (lcM (seqS (v 3)) [4] (put 4) (tbM (op2 dIn (v 4) (op2 dIx (v 1) (v 5)))) (v 4)) args0)) (opL dLen (argc (v 3) args0)))) args0))) (dropM (appO 2 (v 3))) passM)
def l0f_knot_lots : M Fl := preM [3] (forM (seqS (cal gf_lots (argc (v 0) args0))) (put 3) b0f_knot_lots)
def b2f_knot_lots : M Fl := wipM [3] (ifM (tbM (op2 dEq (lcM (seqS (v 2)) [4] (put 4) (andT (tbM (op2 dGt (opL dLen (argc (v 4) args0)) (opL dLen (argc (v 3) args0)))) (tbM (op2 dEq (lcM (seqS (v 3)) [5] (put 5) (tbM (op2 dNotIn (v 5) (v 4))) (v 5)) (opL mkL args0)))) (v 4)) (opL mkL args0))) (dropM (appO 6 (v 3))) passM)
def l2f_knot_lots : M Fl := preM [3] (forM (seqS (v 2)) (put 3) b2f_knot_lots)
def mf_knot_lots : M Fl := (seqM (parV 1 1 2 (fzV (cal gf_near (argc (v 0) args0))) (owL args0))
    (seqM l0f_knot_lots
    (frzM 2 (seqM (asgV 1 6 (owL args0))
    (seqM l2f_knot_lots
    (frzM 6 (retM (opL (on1 dSortedA) (argc (v 6) args0)))))))))
def gf_knot_lots : List D → OutF := fnM 1 7 [] mf_knot_lots
def Nf_is_pair : List Str := ["value"]
def Pf_is_pair : List Str := ["value"]
def mf_is_pair : M Fl := (retM (andV (opL (dIsi isiCls) (argc (v 0) (argc (cn (.ty "tuple")) args0))) (andV (op2 dEq (opL dLen (argc (v 0) args0)) (cn (.int 2))) (andV (cal gf_is_letter (argc (op2 dIx (v 0) (cn (.int 0))) args0)) (cal gf_are_looks (argc (op2 dIx (v 0) (cn (.int 1))) args0))))))
def gf_is_pair : List D → OutF := fnM 1 1 [] mf_is_pair
def Nf_glyphs : List Str := ["_law_jar_here", "_law_many", "_law_rest", "_law_found", "_law_turn"]
def Pf_glyphs : List Str := ["_law_jar_here", "_law_many"]
def b0f_glyphs : M Fl := wipM [4] (asgM (put 3) (op2 dAdd (v 3) (popO 2 (calR gf_dip 0 (argc (lenO 2) args0)))))
def l0f_glyphs : M Fl := preM [4] (forM (srcL dRng1 (argc (v 1) args0)) (put 4) b0f_glyphs)
def mf_glyphs : M Fl := (seqM (parV 2 2 3 (owSeq (cn (.str S_abcdefmnxyz))) (fzV (cn (.str []))))
    (seqM l0f_glyphs
    (retM (v 3))))
def gf_glyphs : List D → OutF := fnM 2 5 [0] mf_glyphs
def Nf_pick : List Str := ["_law_jar_here", "_law_menu", "_law_at"]
def Pf_pick : List Str := ["_law_jar_here", "_law_menu"]
def mf_pick : M Fl := (seqM (asgM (put 2) (calR gf_dip 0 (argc (opL dLen (argc (v 1) args0)) args0)))
    (retM (op2 dIx (v 1) (v 2))))
def gf_pick : List D → OutF := fnM 2 3 [0] mf_pick
def Nf_figs : List Str := ["_law_jar_here", "_law_pool", "_law_found", "_law_figure"]
def Pf_figs : List Str := ["_law_jar_here", "_law_pool"]
def mf_figs : M Fl := (seqM (asgM (put 2) (opMt isStr dJoin (cn (.str [])) (argc (lcM (seqS (v 1)) [3] (put 3) (tbM (op2 dEq (calR gf_dip 0 (argc (cn (.int 3)) args0)) (cn (.int 0)))) (v 3)) args0)))
    (retM (ifE (tbM (op2 dNe (v 2) (cn (.str [])))) (v 2) (op2 dIx (v 1) (calR gf_dip 0 (argc (opL dLen (argc (v 1) args0)) args0))))))
def gf_figs : List D → OutF := fnM 2 4 [0] mf_figs
def Nf_fewest : List Str := ["_law_pairs_here", "_law_layer", "_law_great", "_law_many", "_law_turn", "_law_held", "_law_later", "_law_lot"]
def Pf_fewest : List Str := ["_law_pairs_here"]
def b0f_fewest : M Fl := wipM [7] (dropM (appO 6 (opMt isStr dJoin (cn (.str [])) (argc (op1 dSortedSetA (op2 dAdd (v 5) (v 7))) args0))))
def l0f_fewest : M Fl := preM [7] (forM (seqS (v 2)) (put 7) b0f_fewest)
def b2f_fewest : M Fl := wipM [5, 7] l0f_fewest
def l2f_fewest : M Fl := preM [5, 7] (forM (seqS (v 1)) (put 5) b2f_fewest)
def b4f_fewest : M Fl := wipM [4, 5, 6, 7] (seqM (ifM (tbM (op2 dNe (lcM (seqS (v 1)) [5] (put 5) (tbM (op2 dEq (opL dLen (argc (v 5) args0)) (opL dLen (argc (v 0) args0)))) (v 5)) (opL mkL args0))) (retM (v 3)) passM)
    (seqM (asgV 1 6 (owL args0))
    (seqM l2f_fewest
    (frzM 6 (parV 1 1 3 (fzV (op1 dSortedSetA (v 6))) (fzV (op2 dAdd (v 3) (cn (.int 1)))))))))
def l4f_fewest : M Fl := preM [4, 5, 6, 7] (forM (srcL dRng1 (argc (opL dLen (argc (v 0) args0)) args0)) (put 4) b4f_fewest)
def mf_fewest : M Fl := (seqM (par3M 1 2 3 (argc (opL mkL (argc (cn (.str [])) args0)) (argc (cal gf_knot_lots (argc (v 0) args0)) (argc (cn (.int 0)) args0))))
    (seqM l4f_fewest
    (retM (v 3))))
def gf_fewest : List D → OutF := fnM 1 8 [] mf_fewest
def Nf_Line__ucontains__ : List Str := ["self", "value"]
def Pf_Line__ucontains__ : List Str := ["self", "value"]
def mf_Line__ucontains__ : M Fl := (retM (andV (cal gf_is_letter (argc (v 1) args0)) (op2 dIn (v 1) (proM "Line" gf_Line_letters (v 0)))))
def gf_Line__ucontains__ : List D → OutF := fnM 2 2 [] mf_Line__ucontains__
def Nf_check_signs : List Str := ["signs", "index", "known", "each"]
def Pf_check_signs : List Str := ["signs"]
def b0f_check_signs : M Fl := wipM [1, 2] (seqM (asgM (put 2) (lcM (seqS (slM (v 0) (ret none) (opt (v 1)))) [3] (put 3) (ret true) (op2 dIx (v 3) (cn (.int 0)))))
    (ifM (orT (tbM (op2 dEq (v 1) (cn (.int 6)))) (orT (notT (trM (cal gf_is_pair (argc (op2 dIx (v 0) (v 1)) args0)))) (tbM (op2 dIn (op2 dIx (op2 dIx (v 0) (v 1)) (cn (.int 0))) (v 2))))) (fun _ => .bad) passM))
def l0f_check_signs : M Fl := preM [1, 2] (forM (srcL dRng1 (argc (opL dLen (argc (v 0) args0)) args0)) (put 1) b0f_check_signs)
def mf_check_signs : M Fl := (seqM (ifM (orT (notT (trM (opL (dIsi isiCls) (argc (v 0) (argc (cn (.ty "tuple")) args0))))) (tbM (op2 dEq (v 0) (opL mkT args0)))) (fun _ => .bad) passM)
    (seqM l0f_check_signs
    (ifM (tbM (op2 dLt (opL dLen (argc (v 0) args0)) (cn (.int 2)))) (fun _ => .bad) passM)))
def gf_check_signs : List D → OutF := fnM 1 4 [] mf_check_signs
def Nf_plain_line : List Str := ["_law_jar_here", "_law_pool", "_law_glyph"]
def Pf_plain_line : List Str := ["_law_jar_here"]
def mf_plain_line : M Fl := (seqM (asgM (put 1) (calR gf_pick 0 (argc (opL mkL (argc (cn (.str [48, 49, 50])) (argc (cn (.str [48, 49, 50, 51])) (argc (cn (.str S_01234)) (argc (cn (.str S_01234567)) (argc (cn (.str [50, 52])) (argc (cn (.str S_034567)) args0))))))) args0)))
    (retM (opL (on1 dTuple) (argc (lcM (seqS (calR gf_glyphs 0 (argc (op2 dAdd (cn (.int 2)) (calR gf_dip 0 (argc (cn (.int 5)) args0))) args0))) [2] (put 2) (ret true) (opL mkT (argc (v 2) (argc (calR gf_figs 0 (argc (v 1) args0)) args0)))) args0))))
def gf_plain_line : List D → OutF := fnM 1 3 [0] mf_plain_line
def Nf_ring_line : List Str := ["_law_jar_here", "_law_names", "_law_rest", "_law_figures", "_law_turn", "_law_found", "_law_k", "_law_own", "_law_sixth", "_law_more", "_law_mixed_up"]
def Pf_ring_line : List Str := ["_law_jar_here"]
def b0f_ring_line : M Fl := wipM [4] (dropM (appO 3 (popO 2 (calR gf_dip 0 (argc (lenO 2) args0)))))
def l0f_ring_line : M Fl := preM [4] (forM (srcL dRng1 (argc (cn (.int 7)) args0)) (put 4) b0f_ring_line)
def b2f_ring_line : M Fl := wipM [6, 7] (seqM (asgM (put 7) (op2 dAdd (opL mkL (argc (op2 dIx (v 3) (v 6)) (argc (op2 dIx (v 3) (op2 dMod (opL (on1 dInt) (argc (op2 dAdd (v 6) (cn (.int 1))) args0)) (cn (.int 5)))) args0))) (ifE (andT (tbM (op2 dEq (v 6) (cn (.int 2)))) (tbM (op2 dEq (calR gf_dip 0 (argc (cn (.int 3)) args0)) (cn (.int 0))))) (opL mkL (argc (op2 dIx (v 3) (cn (.int 5))) args0)) (opL mkL args0))))
    (dropM (appO 5 (opL mkT (argc (op2 dIx (v 1) (v 6)) (argc (opMt isStr dJoin (cn (.str [])) (argc (opL (on1 dSortedA) (argc (v 7) args0)) args0)) args0))))))
def l2f_ring_line : M Fl := preM [6, 7] (forM (srcL dRng1 (argc (cn (.int 5)) args0)) (put 6) b2f_ring_line)
def b4f_ring_line : M Fl := wipM [4] (dropM (appO 10 (popO 5 (calR gf_dip 0 (argc (lenO 5) args0)))))
def l4f_ring_line : M Fl := preM [4] (forM (srcL dRng1 (argc (lenO 5) args0)) (put 4) b4f_ring_line)
def mf_ring_line : M Fl := (seqM (asgM (put 1) (calR gf_glyphs 0 (argc (cn (.int 6)) args0)))
    (seqM (parV 1 2 3 (owSeq (cn (.str S_01234567))) (owL args0))
    (seqM l0f_ring_line
    (frzM 3 (seqM (asgV 1 5 (owL args0))
    (seqM l2f_ring_line
    (seqM (asgM (put 8) (opL mkL (argc (opL mkL args0) (argc (opL mkL (argc (op2 dIx (v 3) (cn (.int 6))) args0)) (argc (opL mkL (argc (op2 dIx (v 3) (cn (.int 1))) (argc (op2 dIx (v 3) (cn (.int 2))) args0))) args0)))))
    (seqM (asgM (put 8) (op2 dAdd (v 8) (opL mkL (argc (opL mkL (argc (op2 dIx (v 3) (cn (.int 0))) (argc (op2 dIx (v 3) (cn (.int 1))) (argc (op2 dIx (v 3) (cn (.int 2))) args0)))) (argc (opL mkL (argc (op2 dIx (v 3) (cn (.int 0))) args0)) (argc (slM (v 3) (ret none) (opt (cn (.int 5)))) args0))))))
    (seqM (asgM (put 9) (calR gf_pick 0 (argc (op2 dAdd (v 8) (opL mkL (argc (opL mkL (argc (op2 dIx (v 3) (cn (.int 0))) (argc (op2 dIx (v 3) (cn (.int 2))) args0))) (argc (opL mkL args0) (argc (opL mkL (argc (op2 dIx (v 3) (cn (.int 6))) args0)) args0))))) args0)))
    (seqM (ifM (tbM (op2 dNe (v 9) (opL mkL args0))) (dropM (appO 5 (opL mkT (argc (op2 dIx (v 1) (cn (.int 5))) (argc (opMt isStr dJoin (cn (.str [])) (argc (op1 dSortedSet (v 9)) args0)) args0))))) passM)
    (seqM (asgV 1 10 (owL args0))
    (seqM l4f_ring_line
    (frzM 10 (retM (opL (on1 dTuple) (argc (v 10) args0))))))))))))))))
def gf_ring_line : List D → OutF := fnM 1 11 [0] mf_ring_line
def Nf_any_line : List Str := ["_law_jar_here"]
def Pf_any_line : List Str := ["_law_jar_here"]
def mf_any_line : M Fl := (retM (ifE (tbM (op2 dEq (calR gf_dip 0 (argc (cn (.int 2)) args0)) (cn (.int 0)))) (calR gf_plain_line 0 args0) (calR gf_ring_line 0 args0)))
def gf_any_line : List D → OutF := fnM 1 1 [0] mf_any_line
def Nf_Line__uinit__ : List Str := ["self", "signs"]
def Pf_Line__uinit__ : List Str := ["self", "signs"]
def mf_Line__uinit__ : M Fl := (seqM (dropM (cal gf_check_signs (argc (v 1) args0)))
    (staO 0 "Line" "lot" (v 1)))
def gf_Line__uinit__ : List D → OutF := fnM 2 2 [0] mf_Line__uinit__
def Nf_check_sign : List Str := ["line", "sign"]
def Pf_check_sign : List Str := ["line", "sign"]
def mf_check_sign : M Fl := (ifM (tbM (inI "Line" gf_Line__ucontains__ true (v 1) (v 0))) (fun _ => .bad) passM)
def gf_check_sign : List D → OutF := fnM 2 2 [] mf_check_sign
def Nf_Line_looks_of : List Str := ["self", "sign"]
def Pf_Line_looks_of : List Str := ["self", "sign"]
def mf_Line_looks_of : M Fl := (seqM (dropM (cal gf_check_sign (argc (v 0) (argc (v 1) args0))))
    (retM (op2 dIx (op2 dIx (op1 (dAttr "Line" "lot") (v 0)) (opMt isStr dIndex (proM "Line" gf_Line_letters (v 0)) (argc (v 1) args0))) (cn (.int 1)))))
def gf_Line_looks_of : List D → OutF := fnM 2 2 [] mf_Line_looks_of
def Nf_share_look : List Str := ["line", "sign", "other", "figure"]
def Pf_share_look : List Str := ["line", "sign", "other"]
def mf_share_look : M Fl := (retM (opL (on1 dAny) (argc (lcM (seqS (metM "Line" "looks_of" gf_Line_looks_of (v 0) (argc (v 1) args0))) [3] (put 3) (ret true) (op2 dIn (v 3) (metM "Line" "looks_of" gf_Line_looks_of (v 0) (argc (v 2) args0)))) args0)))
def gf_share_look : List D → OutF := fnM 3 4 [] mf_share_look
def Nf_mixed_table : List Str := ["line", "found", "sign", "other"]
def Pf_mixed_table : List Str := ["line"]
def b0f_mixed_table : M Fl := wipM [2] (stO 1 (opMt isStr dJoin (cn (.str [])) (argc (lcM (seqS (proM "Line" gf_Line_letters (v 0))) [3] (put 3) (trM (cal gf_share_look (argc (v 0) (argc (v 2) (argc (v 3) args0))))) (v 3)) args0)) (v 2))
def l0f_mixed_table : M Fl := preM [2] (forM (seqS (proM "Line" gf_Line_letters (v 0))) (put 2) b0f_mixed_table)
def mf_mixed_table : M Fl := (seqM (asgV 1 1 (ret (.ow (.dct []))))
    (seqM l0f_mixed_table
    (frzM 1 (retM (v 1)))))
def gf_mixed_table : List D → OutF := fnM 1 4 [] mf_mixed_table
def Nf_all_apart : List Str := ["line", "table", "lots", "lot", "most"]
def Pf_all_apart : List Str := ["line"]
def mf_all_apart : M Fl := (seqM (asgM (put 1) (cal gf_mixed_table (argc (v 0) args0)))
    (seqM (asgM (put 2) (lcM (seqS (cal gf_lots_of (argc (proM "Line" gf_Line_letters (v 0)) args0))) [3] (put 3) (trM (cal gf_is_apart (argc (v 1) (argc (v 3) args0)))) (v 3)))
    (seqM (asgM (put 4) (opL (on1 dMaxL) (argc (lcM (seqS (v 2)) [3] (put 3) (ret true) (opL dLen (argc (v 3) args0))) args0)))
    (retM (opL (on1 dSortedA) (argc (lcM (seqS (v 2)) [3] (put 3) (tbM (op2 dEq (opL dLen (argc (v 3) args0)) (v 4))) (v 3)) args0))))))
def gf_all_apart : List D → OutF := fnM 1 5 [] mf_all_apart
def Nf_all_knots : List Str := ["line", "table", "lots", "lot", "found", "sign", "other"]
def Pf_all_knots : List Str := ["line"]
def b0f_all_knots : M Fl := wipM [3] (ifM (notT (trM (opL (on1 dAny) (argc (lcM (seqS (v 2)) [6] (put 6) (ret true) (andV (op2 dNe (v 6) (v 3)) (opL (on1 dAll) (argc (lcM (seqS (v 3)) [5] (put 5) (ret true) (op2 dIn (v 5) (v 6))) args0)))) args0)))) (dropM (appO 4 (v 3))) passM)
def l0f_all_knots : M Fl := preM [3] (forM (seqS (v 2)) (put 3) b0f_all_knots)
def mf_all_knots : M Fl := (seqM (asgM (put 1) (cal gf_mixed_table (argc (v 0) args0)))
    (seqM (asgM (put 2) (lcM (seqS (slM (cal gf_lots_of (argc (proM "Line" gf_Line_letters (v 0)) args0)) (opt (cn (.int 1))) (ret none))) [3] (put 3) (trM (cal gf_is_knot (argc (v 1) (argc (v 3) args0)))) (v 3)))
    (seqM (asgV 1 4 (owL args0))
    (seqM l0f_all_knots
    (frzM 4 (retM (opL (on1 dSortedA) (argc (v 4) args0))))))))
def gf_all_knots : List D → OutF := fnM 1 7 [] mf_all_knots
def Nf_most_apart : List Str := ["line"]
def Pf_most_apart : List Str := ["line"]
def mf_most_apart : M Fl := (seqM (dropM (cal gf_check_line (argc (v 0) args0)))
    (retM (opL dLen (argc (op2 dIx (cal gf_all_apart (argc (v 0) args0)) (cn (.int 0))) args0))))
def gf_most_apart : List D → OutF := fnM 1 1 [] mf_most_apart
def Nf_least_cover : List Str := ["line", "lots", "size", "some", "lot", "sign"]
def Pf_least_cover : List Str := ["line"]
def b0f_least_cover : M Fl := wipM [3] (ifM (trM (opL (on1 dAll) (argc (lcM (seqS (proM "Line" gf_Line_letters (v 0))) [5] (put 5) (ret true) (opL (on1 dAny) (argc (lcM (seqS (v 3)) [4] (put 4) (ret true) (op2 dIn (v 5) (v 4))) args0))) args0))) (retM (v 3)) passM)
def l0f_least_cover : M Fl := preM [3] (forM (seqS (cal gf_sets_of (argc (v 1) (argc (v 2) args0)))) (put 3) b0f_least_cover)
def b2f_least_cover : M Fl := wipM [2, 3] l0f_least_cover
def l2f_least_cover : M Fl := preM [2, 3] (forM (srcL dRng2 (argc (cn (.int 1)) (argc (op2 dAdd (opL dLen (argc (v 1) args0)) (cn (.int 1))) args0))) (put 2) b2f_least_cover)
def mf_least_cover : M Fl := (seqM (asgM (put 1) (cal gf_all_knots (argc (v 0) args0)))
    (seqM l2f_least_cover
    (retM (opL (on1 dTuple) (argc (v 1) args0)))))
def gf_least_cover : List D → OutF := fnM 1 6 [] mf_least_cover
def Nf_cover : List Str := ["line"]
def Pf_cover : List Str := ["line"]
def mf_cover : M Fl := (seqM (dropM (cal gf_check_line (argc (v 0) args0)))
    (retM (cal gf_least_cover (argc (v 0) args0))))
def gf_cover : List D → OutF := fnM 1 1 [] mf_cover
def Nf_fewest_knots : List Str := ["line"]
def Pf_fewest_knots : List Str := ["line"]
def mf_fewest_knots : M Fl := (seqM (dropM (cal gf_check_line (argc (v 0) args0)))
    (retM (opL dLen (argc (cal gf_least_cover (argc (v 0) args0)) args0))))
def gf_fewest_knots : List D → OutF := fnM 1 1 [] mf_fewest_knots
def Nf_is_whole : List Str := ["line"]
def Pf_is_whole : List Str := ["line"]
def mf_is_whole : M Fl := (retM (op2 dEq (cal gf_most_apart (argc (v 0) args0)) (cal gf_fewest_knots (argc (v 0) args0))))
def gf_is_whole : List D → OutF := fnM 1 1 [] mf_is_whole
def Nf_right : List Str := ["_law_jar_here", "_law_turn", "_law_pairs_here", "_law_mine", "_law_least", "_law_told", "_law_due"]
def Pf_right : List Str := ["_law_jar_here"]
def b0f_right : M Fl := wipM [1, 2, 3, 4, 5, 6] (seqM (asgM (put 2) (calR gf_any_line 0 args0))
    (seqM (parV 1 3 4 (fzV (mkM "Line" gf_Line__uinit__ 1 0 [0, 1] (argc (v 2) args0) args0)) (fzV (cal gf_fewest (argc (v 2) args0))))
    (seqM (asgM (put 5) (cal gf_cover (argc (v 3) args0)))
    (seqM (ifM (orT (notT (trM (cal gf_is_cover (argc (v 2) (argc (v 5) args0))))) (orT (tbM (op2 dNe (opL dLen (argc (v 5) args0)) (v 4))) (tbM (op2 dNe (calK gf_cover 0 1 [0] args0 (argc (v 3) args0)) (v 5))))) (retM (cn (.bl false))) passM)
    (seqM (asgM (put 6) (op2 dEq (opL dLen (argc (op2 dIx (cal gf_apart_lots (argc (v 2) args0)) (cn (.int 0))) args0)) (v 4)))
    (seqM (asgM (put 5) (opL mkL (argc (cal gf_fewest_knots (argc (v 3) args0)) (argc (calK gf_fewest_knots 0 1 [0] args0 (argc (v 3) args0)) (argc (cal gf_is_whole (argc (v 3) args0)) (argc (calK gf_is_whole 0 1 [0] args0 (argc (v 3) args0)) args0))))))
    (seqM (ifM (tbM (op2 dNe (opL (on1 dRepr) (argc (v 5) args0)) (opL (on1 dRepr) (argc (opL mkL (argc (v 4) (argc (v 4) (argc (v 6) (argc (v 6) args0))))) args0)))) (retM (cn (.bl false))) passM)
    (ifM (tbM (op2 dGt (cal gf_most_apart (argc (v 3) args0)) (v 4))) (retM (cn (.bl false))) passM))))))))
def l0f_right : M Fl := preM [1, 2, 3, 4, 5, 6] (forM (srcL dRng1 (argc (cn (.int 3)) args0)) (put 1) b0f_right)
def mf_right : M Fl := (seqM l0f_right
    (retM (cn (.bl true))))
def gf_right : List D → OutF := fnM 1 7 [0] mf_right
def Nf_law : List Str := ["_law_script", "_law_k"]
def Pf_law : List Str := ["_law_script"]
def b0f_law : M Fl := wipM [1] (ifM (notT (trM (calV gf_right (calO gf_jar (argc (v 0) (argc (v 1) args0)))))) (retM (cn (.bl false))) passM)
def l0f_law : M Fl := preM [1] (forM (srcL dRng1 (argc (opL dMax2 (argc (cn (.int 2)) (argc (opL dMin2 (argc (opL dLen (argc (v 0) args0)) (argc (cn (.int 5)) args0))) args0))) args0)) (put 1) b0f_law)
def mf_law : M Fl := (seqM l0f_law
    (retM (cn (.bl true))))
def gf_law : List D → OutF := fnM 1 2 [] mf_law
structure Top (b : Base) : Prop where
  b_abs : b.mg "abs" = none
  b_all : b.mg "all" = none
  b_any : b.mg "any" = none
  b_int : b.mg "int" = none
  b_isinstance : b.mg "isinstance" = none
  b_len : b.mg "len" = none
  b_list : b.mg "list" = none
  b_max : b.mg "max" = none
  b_min : b.mg "min" = none
  b_range : b.mg "range" = none
  b_repr : b.mg "repr" = none
  b_set : b.mg "set" = none
  b_sorted : b.mg "sorted" = none
  b_str : b.mg "str" = none
  b_tuple : b.mg "tuple" = none
  g_FIGURES : ∃ t, b.mg "FIGURES" = some (.str (toS S_01234567) t)
  g_LEAST_SIGNS : ∃ t, b.mg "LEAST_SIGNS" = some (.int 2 t)
  g_LETTERS : ∃ t, b.mg "LETTERS" = some (.str (toS S_abcdefghijklmnopqrstuvwx) t)
  g_MOST_SIGNS : ∃ t, b.mg "MOST_SIGNS" = some (.int 6 t)
  k_Line : ∃ C, b.mg (Str.ofString "Line") = some (.ref C)
  isi : Isi b isiCls
  l_Line_lot : Fld b "Line" "lot"
  tf_jar : ∃ f fd, Fun b.K "_law_jar" "_law_jar" sf_jar f fd ∧ b.mg "_law_jar" = some (.ref f)
  tf_check_line : ∃ f fd, Fun b.K "check_line" "check_line" sf_check_line f fd ∧ b.mg "check_line" = some (.ref f)
  tf_lots_of : ∃ f fd, Fun b.K "lots_of" "lots_of" sf_lots_of f fd ∧ b.mg "lots_of" = some (.ref f)
  tf_Line_letters : ∃ C p f fd, ClD b "Line" C ∧ PropOf b.K C (Str.ofString "letters") p f ∧ Fun b.K "letters" "Line.letters" sf_Line_letters f fd
  tf_is_apart : ∃ f fd, Fun b.K "is_apart" "is_apart" sf_is_apart f fd ∧ b.mg "is_apart" = some (.ref f)
  tf_is_letter : ∃ f fd, Fun b.K "is_letter" "is_letter" sf_is_letter f fd ∧ b.mg "is_letter" = some (.ref f)
  tf_sets_of : ∃ f fd, Fun b.K "sets_of" "sets_of" sf_sets_of f fd ∧ b.mg "sets_of" = some (.ref f)
  tf_is_knot : ∃ f fd, Fun b.K "is_knot" "is_knot" sf_is_knot f fd ∧ b.mg "is_knot" = some (.ref f)
  tf_near : ∃ f fd, Fun b.K "_law_near" "_law_near" sf_near f fd ∧ b.mg "_law_near" = some (.ref f)
  tf_lots : ∃ f fd, Fun b.K "_law_lots" "_law_lots" sf_lots f fd ∧ b.mg "_law_lots" = some (.ref f)
  tf_are_looks : ∃ f fd, Fun b.K "are_looks" "are_looks" sf_are_looks f fd ∧ b.mg "are_looks" = some (.ref f)
  tf_dip : ∃ f fd, Fun b.K "_law_dip" "_law_dip" sf_dip f fd ∧ b.mg "_law_dip" = some (.ref f)
  tf_is_cover : ∃ f fd, Fun b.K "_law_is_cover" "_law_is_cover" sf_is_cover f fd ∧ b.mg "_law_is_cover" = some (.ref f)
  tf_apart_lots : ∃ f fd, Fun b.K "_law_apart_lots" "_law_apart_lots" sf_apart_lots f fd ∧ b.mg "_law_apart_lots" = some (.ref f)
  tf_knot_lots : ∃ f fd, Fun b.K "_law_knot_lots" "_law_knot_lots" sf_knot_lots f fd ∧ b.mg "_law_knot_lots" = some (.ref f)
  tf_is_pair : ∃ f fd, Fun b.K "is_pair" "is_pair" sf_is_pair f fd ∧ b.mg "is_pair" = some (.ref f)
  tf_glyphs : ∃ f fd, Fun b.K "_law_glyphs" "_law_glyphs" sf_glyphs f fd ∧ b.mg "_law_glyphs" = some (.ref f)
  tf_pick : ∃ f fd, Fun b.K "_law_pick" "_law_pick" sf_pick f fd ∧ b.mg "_law_pick" = some (.ref f)
  tf_figs : ∃ f fd, Fun b.K "_law_figs" "_law_figs" sf_figs f fd ∧ b.mg "_law_figs" = some (.ref f)
  tf_fewest : ∃ f fd, Fun b.K "_law_fewest" "_law_fewest" sf_fewest f fd ∧ b.mg "_law_fewest" = some (.ref f)
  tf_Line__ucontains__ : ∃ C f fd, ClD b "Line" C ∧ Meth b.K C (Str.ofString "__contains__") f ∧ Fun b.K "__contains__" "Line.__contains__" sf_Line__ucontains__ f fd
  tf_check_signs : ∃ f fd, Fun b.K "check_signs" "check_signs" sf_check_signs f fd ∧ b.mg "check_signs" = some (.ref f)
  tf_plain_line : ∃ f fd, Fun b.K "_law_plain_line" "_law_plain_line" sf_plain_line f fd ∧ b.mg "_law_plain_line" = some (.ref f)
  tf_ring_line : ∃ f fd, Fun b.K "_law_ring_line" "_law_ring_line" sf_ring_line f fd ∧ b.mg "_law_ring_line" = some (.ref f)
  tf_any_line : ∃ f fd, Fun b.K "_law_any_line" "_law_any_line" sf_any_line f fd ∧ b.mg "_law_any_line" = some (.ref f)
  tf_Line__uinit__ : ∃ C f fd, ClD b "Line" C ∧ Mk b.K C f ∧ Fun b.K "__init__" "Line.__init__" sf_Line__uinit__ f fd
  tf_check_sign : ∃ f fd, Fun b.K "check_sign" "check_sign" sf_check_sign f fd ∧ b.mg "check_sign" = some (.ref f)
  tf_Line_looks_of : ∃ C f fd, ClD b "Line" C ∧ Meth b.K C (Str.ofString "looks_of") f ∧ Fun b.K "looks_of" "Line.looks_of" sf_Line_looks_of f fd
  tf_share_look : ∃ f fd, Fun b.K "share_look" "share_look" sf_share_look f fd ∧ b.mg "share_look" = some (.ref f)
  tf_mixed_table : ∃ f fd, Fun b.K "mixed_table" "mixed_table" sf_mixed_table f fd ∧ b.mg "mixed_table" = some (.ref f)
  tf_all_apart : ∃ f fd, Fun b.K "all_apart" "all_apart" sf_all_apart f fd ∧ b.mg "all_apart" = some (.ref f)
  tf_all_knots : ∃ f fd, Fun b.K "all_knots" "all_knots" sf_all_knots f fd ∧ b.mg "all_knots" = some (.ref f)
  tf_most_apart : ∃ f fd, Fun b.K "most_apart" "most_apart" sf_most_apart f fd ∧ b.mg "most_apart" = some (.ref f)
  tf_least_cover : ∃ f fd, Fun b.K "least_cover" "least_cover" sf_least_cover f fd ∧ b.mg "least_cover" = some (.ref f)
  tf_cover : ∃ f fd, Fun b.K "cover" "cover" sf_cover f fd ∧ b.mg "cover" = some (.ref f)
  tf_fewest_knots : ∃ f fd, Fun b.K "fewest_knots" "fewest_knots" sf_fewest_knots f fd ∧ b.mg "fewest_knots" = some (.ref f)
  tf_is_whole : ∃ f fd, Fun b.K "is_whole" "is_whole" sf_is_whole f fd ∧ b.mg "is_whole" = some (.ref f)
  tf_right : ∃ f fd, Fun b.K "_law_right" "_law_right" sf_right f fd ∧ b.mg "_law_right" = some (.ref f)
  tf_law : ∃ f fd, Fun b.K "law" "law" sf_law f fd ∧ b.mg "law" = some (.ref f)
section
variable {b : Base}
theorem scf_jar : FnScope Nf_jar Pf_jar (defScope sf_jar) := ⟨rfl, rfl, rfl, by decide +kernel, rfl, by decide +kernel, by decide +kernel⟩
theorem df_jar (T : Top b) : ESs (stOf b Nf_jar (defScope sf_jar) 0 2) (defBody sf_jar) mf_jar :=
  (ess_cons (xset 2 (ed_bin b_add (ed_bin b_mul (ed_bin b_mul ed_int (ed_bin b_add (xv 1) ed_int)) (ed_bin b_add (xv 1) ed_int)) (ed_bin b_mul ed_int (xB b_len T.b_len bt_len (ea_cons (xv 0) ea_nil)))))
    (ess_cons (es_pre [3] (es_for (ei_seq (ed_slice (xv 0) eo_none (eo_some ed_int))) (xg 3) (ess_wip [3] (ess_one (xset 2 (ed_bin b_mod (xT b_int T.b_int bt_int (ea_cons (ed_bin b_add (ed_bin b_mul (xv 2) ed_int) (xv 3)) ea_nil)) ed_int))) rfl)) rfl)
    (ess_cons (xset 4 (ed_if (tcmp c_lt (xv 1) (xB b_len T.b_len bt_len (ea_cons (xv 0) ea_nil))) (ed_ix (xv 0) (xv 1)) ed_int))
    (ess_cons (xset 5 (ed_if (EW.et (ew_or (tcmp c_lt (xv 4) ed_int) (ew_or1 (tcmp c_ge (xv 4) (ed_bin b_pow ed_int ed_int))))) (xB b_abs T.b_abs bt_abs (ea_cons (xv 4) ea_nil)) ed_int))
    (ess_one (es_retV (ev_lst (ea_cons (xv 5) (ea_cons (ed_bin b_mod (xT b_int T.b_int bt_int (ea_cons (ed_bin b_add (ed_bin b_add (ed_bin b_mul (xv 2) ed_int) (ed_bin b_mul (xv 4) ed_int)) (ed_bin b_mul ed_int (ed_bin b_add (xv 1) ed_int))) ea_nil)) ed_int) (ea_cons ed_int ea_nil))))))))))
theorem calf_jar (T : Top b) : Cal b 1 "_law_jar" [] gf_jar := by
  obtain ⟨f, fd, F, hm⟩ := T.tf_jar
  exact ⟨f, fd, Pf_jar, fn_ok (N := Nf_jar) (ps := Pf_jar) (m := mf_jar) F scf_jar (by decide) (df_jar T), hm, F.kp, (F.binds (ps := Pf_jar) fun _ _ _ _ _ _ us hl => match us, hl with | [_, _], _ => rfl)⟩
theorem scf_check_line : FnScope Nf_check_line Pf_check_line (defScope sf_check_line) := ⟨rfl, rfl, rfl, by decide +kernel, rfl, by decide +kernel, by decide +kernel⟩
theorem df_check_line (T : Top b) : ESs (stOf b Nf_check_line (defScope sf_check_line) 0 1) (defBody sf_check_line) mf_check_line :=
  (ess_one (es_if (et_not (et_val (xB (b_isi T.isi) T.b_isinstance bt_isinstance (ea_cons (xv 0) (ea_cons (xgc T.k_Line) ea_nil))))) (ess_one es_never) ess_nil))
theorem calf_check_line (T : Top b) : Cal b 1 "check_line" [] gf_check_line := by
  obtain ⟨f, fd, F, hm⟩ := T.tf_check_line
  exact ⟨f, fd, Pf_check_line, fn_ok (N := Nf_check_line) (ps := Pf_check_line) (m := mf_check_line) F scf_check_line (by decide) (df_check_line T), hm, F.kp, (F.binds (ps := Pf_check_line) fun _ _ _ _ _ _ us hl => match us, hl with | [_], _ => rfl)⟩
theorem scf_lots_of : FnScope Nf_lots_of Pf_lots_of (defScope sf_lots_of) := ⟨rfl, rfl, rfl, by decide +kernel, rfl, by decide +kernel, by decide +kernel⟩
theorem df_lots_of (T : Top b) : ESs (stOf b Nf_lots_of (defScope sf_lots_of) 0 1) (defBody sf_lots_of) mf_lots_of :=
  (ess_cons (xset 1 (ed_lst (ea_cons xstr ea_nil)))
    (ess_cons (es_pre [2] (es_for (ei_seq (xB b_sortedA T.b_sorted bt_sorted (ea_cons (xv 0) ea_nil))) (xg 2) (ess_wip [2] (ess_one (xset 1 (ed_bin b_add (xv 1) (xlc [("lot", 3)] (ei_seq (xv 1)) (xg 3) ets_nil (ed_bin b_add (xv 3) (xv 2)))))) rfl)) rfl)
    (ess_one (es_ret (xv 1)))))
theorem calf_lots_of (T : Top b) : Cal b 1 "lots_of" [] gf_lots_of := by
  obtain ⟨f, fd, F, hm⟩ := T.tf_lots_of
  exact ⟨f, fd, Pf_lots_of, fn_ok (N := Nf_lots_of) (ps := Pf_lots_of) (m := mf_lots_of) F scf_lots_of (by decide) (df_lots_of T), hm, F.kp, (F.binds (ps := Pf_lots_of) fun _ _ _ _ _ _ us hl => match us, hl with | [_], _ => rfl)⟩
theorem scf_Line_letters : FnScope Nf_Line_letters Pf_Line_letters (defScope sf_Line_letters) := ⟨rfl, rfl, rfl, by decide +kernel, rfl, by decide +kernel, by decide +kernel⟩
theorem df_Line_letters (T : Top b) : ESs (stOf b Nf_Line_letters (defScope sf_Line_letters) 0 1) (defBody sf_Line_letters) mf_Line_letters :=
  (ess_one (es_ret (xjoin xstr (ea_cons (xlc [("each", 1)] (ei_seq (xattr T.l_Line_lot (xv 0))) (xg 1) ets_nil (ed_ix (xv 1) ed_int)) ea_nil))))
theorem prof_Line_letters (T : Top b) : PropD b 1 "Line" "letters" gf_Line_letters := by
  obtain ⟨C, p, f, fd, hc, hp, F⟩ := T.tf_Line_letters
  exact ⟨C, p, f, fd, Pf_Line_letters, hc, hp, fn_ok (N := Nf_Line_letters) (ps := Pf_Line_letters) (m := mf_Line_letters) F scf_Line_letters (by decide) (df_Line_letters T), (F.binds (ps := Pf_Line_letters) fun _ _ _ _ _ _ us hl => match us, hl with | [_], _ => rfl)⟩
theorem scf_is_apart : FnScope Nf_is_apart Pf_is_apart (defScope sf_is_apart) := ⟨rfl, rfl, rfl, by decide +kernel, rfl, by decide +kernel, by decide +kernel⟩
theorem df_is_apart (T : Top b) : ESs (stOf b Nf_is_apart (defScope sf_is_apart) 0 2) (defBody sf_is_apart) mf_is_apart :=
  (ess_one (es_ret (ed_not (xB b_any T.b_any bt_any (ea_cons (xlc2 [("sign", 2), ("other", 3)] [2, 3] [3] (ei_seq (xv 1)) (xg 2) ets_nil (ei_seq (xv 1)) (xg 3) (ets_one (tcmp c_ne (xv 3) (xv 2))) (xcmp c_in (xv 3) (ed_ix (xv 0) (xv 2)))) ea_nil)))))
theorem calf_is_apart (T : Top b) : Cal b 1 "is_apart" [] gf_is_apart := by
  obtain ⟨f, fd, F, hm⟩ := T.tf_is_apart
  exact ⟨f, fd, Pf_is_apart, fn_ok (N := Nf_is_apart) (ps := Pf_is_apart) (m := mf_is_apart) F scf_is_apart (by decide) (df_is_apart T), hm, F.kp, (F.binds (ps := Pf_is_apart) fun _ _ _ _ _ _ us hl => match us, hl with | [_, _], _ => rfl)⟩
theorem scf_is_letter : FnScope Nf_is_letter Pf_is_letter (defScope sf_is_letter) := ⟨rfl, rfl, rfl, by decide +kernel, rfl, by decide +kernel, by decide +kernel⟩
theorem df_is_letter (T : Top b) : ESs (stOf b Nf_is_letter (defScope sf_is_letter) 0 1) (defBody sf_is_letter) mf_is_letter :=
  (ess_one (es_ret (ed_and (xB (b_isi T.isi) T.b_isinstance bt_isinstance (ea_cons (xv 0) (ea_cons (xty T.b_str bt_str) ea_nil))) (ed_and (xcmp c_eq (xB b_len T.b_len bt_len (ea_cons (xv 0) ea_nil)) ed_int) (ed_and1 (xcmp c_in (xv 0) (xgs T.g_LETTERS)))))))
theorem calf_is_letter (T : Top b) : Cal b 1 "is_letter" [] gf_is_letter := by
  obtain ⟨f, fd, F, hm⟩ := T.tf_is_letter
  exact ⟨f, fd, Pf_is_letter, fn_ok (N := Nf_is_letter) (ps := Pf_is_letter) (m := mf_is_letter) F scf_is_letter (by decide) (df_is_letter T), hm, F.kp, (F.binds (ps := Pf_is_letter) fun _ _ _ _ _ _ us hl => match us, hl with | [_], _ => rfl)⟩
theorem scf_sets_of : FnScope Nf_sets_of Pf_sets_of (defScope sf_sets_of) := ⟨rfl, rfl, rfl, by decide +kernel, rfl, by decide +kernel, by decide +kernel⟩
theorem df_sets_of (T : Top b) : ESs (stOf b Nf_sets_of (defScope sf_sets_of) 0 2) (defBody sf_sets_of) mf_sets_of :=
  (ess_cons (xset 2 (ed_lst (ea_cons (ed_tup ea_nil) ea_nil)))
    (ess_cons (es_pre [3] (es_for (ei_seq (xv 0)) (xg 3) (ess_wip [3] (ess_one (xset 2 (ed_bin b_add (xv 2) (xlc [("lot", 4)] (ei_seq (xv 2)) (xg 4) (ets_one (tcmp c_lt (xB b_len T.b_len bt_len (ea_cons (xv 4) ea_nil)) (xv 1))) (ed_bin b_add (xv 4) (ed_tup (ea_cons (xv 3) ea_nil))))))) rfl)) rfl)
    (ess_one (es_ret (xlc [("lot", 4)] (ei_seq (xv 2)) (xg 4) (ets_one (tcmp c_eq (xB b_len T.b_len bt_len (ea_cons (xv 4) ea_nil)) (xv 1))) (xv 4))))))
theorem calf_sets_of (T : Top b) : Cal b 1 "sets_of" [] gf_sets_of := by
  obtain ⟨f, fd, F, hm⟩ := T.tf_sets_of
  exact ⟨f, fd, Pf_sets_of, fn_ok (N := Nf_sets_of) (ps := Pf_sets_of) (m := mf_sets_of) F scf_sets_of (by decide) (df_sets_of T), hm, F.kp, (F.binds (ps := Pf_sets_of) fun _ _ _ _ _ _ us hl => match us, hl with | [_, _], _ => rfl)⟩
theorem scf_is_knot : FnScope Nf_is_knot Pf_is_knot (defScope sf_is_knot) := ⟨rfl, rfl, rfl, by decide +kernel, rfl, by decide +kernel, by decide +kernel⟩
theorem df_is_knot (T : Top b) : ESs (stOf b Nf_is_knot (defScope sf_is_knot) 0 2) (defBody sf_is_knot) mf_is_knot :=
  (ess_one (es_ret (xB b_all T.b_all bt_all (ea_cons (xlc2 [("sign", 2), ("other", 3)] [2, 3] [3] (ei_seq (xv 1)) (xg 2) ets_nil (ei_seq (xv 1)) (xg 3) ets_nil (xcmp c_in (xv 3) (ed_ix (xv 0) (xv 2)))) ea_nil))))
theorem calf_is_knot (T : Top b) : Cal b 1 "is_knot" [] gf_is_knot := by
  obtain ⟨f, fd, F, hm⟩ := T.tf_is_knot
  exact ⟨f, fd, Pf_is_knot, fn_ok (N := Nf_is_knot) (ps := Pf_is_knot) (m := mf_is_knot) F scf_is_knot (by decide) (df_is_knot T), hm, F.kp, (F.binds (ps := Pf_is_knot) fun _ _ _ _ _ _ us hl => match us, hl with | [_, _], _ => rfl)⟩
theorem scf_near : FnScope Nf_near Pf_near (defScope sf_near) := ⟨rfl, rfl, rfl, by decide +kernel, rfl, by decide +kernel, by decide +kernel⟩
theorem df_near (T : Top b) : ESs (stOf b Nf_near (defScope sf_near) 0 1) (defBody sf_near) mf_near :=
  (ess_cons (xsetV 1 ev_dict0)
    (ess_cons (es_pre [2, 3] (es_for (ei_seq (xv 0)) (eg_tup (egs_cons (xg 2) (egs_cons (xg 3) egs_nil))) (ess_wip [2, 3] (ess_one (xstO 1 (xlc [("_law_each", 4)] (ei_seq (xv 0)) (xg 4) (ets_one (tcmp c_ne (xlc [("_law_figure", 5)] (ei_seq (ed_ix (xv 4) ed_int)) (xg 5) (ets_one (tcmp c_in (xv 5) (xv 3))) (xv 5)) (ed_lst ea_nil))) (ed_ix (xv 4) ed_int)) (xv 2))) rfl)) rfl)
    (xfrz 1 (ess_one (es_ret (xv 1))))))
theorem calf_near (T : Top b) : Cal b 1 "_law_near" [] gf_near := by
  obtain ⟨f, fd, F, hm⟩ := T.tf_near
  exact ⟨f, fd, Pf_near, fn_ok (N := Nf_near) (ps := Pf_near) (m := mf_near) F scf_near (by decide) (df_near T), hm, F.kp, (F.binds (ps := Pf_near) fun _ _ _ _ _ _ us hl => match us, hl with | [_], _ => rfl)⟩
theorem scf_lots : FnScope Nf_lots Pf_lots (defScope sf_lots) := ⟨rfl, rfl, rfl, by decide +kernel, rfl, by decide +kernel, by decide +kernel⟩
theorem df_lots (T : Top b) : ESs (stOf b Nf_lots (defScope sf_lots) 0 1) (defBody sf_lots) mf_lots :=
  (ess_cons (xset 1 (ed_lst (ea_cons xstr ea_nil)))
    (ess_cons (es_pre [2] (es_for (ei_seq (xB b_sortedA T.b_sorted bt_sorted (ea_cons (xlc [("_law_each", 3)] (ei_seq (xv 0)) (xg 3) ets_nil (ed_ix (xv 3) ed_int)) ea_nil))) (xg 2) (ess_wip [2] (ess_one (xset 1 (ed_bin b_add (xv 1) (xlc [("_law_lot", 4)] (ei_seq (xv 1)) (xg 4) ets_nil (ed_bin b_add (xv 4) (xv 2)))))) rfl)) rfl)
    (ess_one (es_ret (ed_slice (xv 1) (eo_some ed_int) eo_none)))))
theorem calf_lots (T : Top b) : Cal b 1 "_law_lots" [] gf_lots := by
  obtain ⟨f, fd, F, hm⟩ := T.tf_lots
  exact ⟨f, fd, Pf_lots, fn_ok (N := Nf_lots) (ps := Pf_lots) (m := mf_lots) F scf_lots (by decide) (df_lots T), hm, F.kp, (F.binds (ps := Pf_lots) fun _ _ _ _ _ _ us hl => match us, hl with | [_], _ => rfl)⟩
theorem scf_are_looks : FnScope Nf_are_looks Pf_are_looks (defScope sf_are_looks) := ⟨rfl, rfl, rfl, by decide +kernel, rfl, by decide +kernel, by decide +kernel⟩
theorem df_are_looks (T : Top b) : ESs (stOf b Nf_are_looks (defScope sf_are_looks) 0 1) (defBody sf_are_looks) mf_are_looks :=
  (ess_cons (es_if (EW.et (ew_or (et_not (et_val (xB (b_isi T.isi) T.b_isinstance bt_isinstance (ea_cons (xv 0) (ea_cons (xty T.b_str bt_str) ea_nil))))) (ew_or (tcmp c_eq (xv 0) xstr) (ew_or1 (et_not (et_val (xB b_all T.b_all bt_all (ea_cons (xlc [("figure", 1)] (ei_seq (xv 0)) (xg 1) ets_nil (xcmp c_in (xv 1) (xgs T.g_FIGURES))) ea_nil)))))))) (ess_one (es_ret ed_bl)) ess_nil)
    (ess_one (es_ret (xB b_all T.b_all bt_all (ea_cons (xlc [("k", 2)] (xrng1 T.b_range (ea_cons (ed_bin b_sub (xB b_len T.b_len bt_len (ea_cons (xv 0) ea_nil)) ed_int) ea_nil)) (xg 2) ets_nil (xcmp c_lt (ed_ix (xv 0) (xv 2)) (ed_ix (xv 0) (ed_bin b_add (xv 2) ed_int)))) ea_nil)))))
theorem calf_are_looks (T : Top b) : Cal b 1 "are_looks" [] gf_are_looks := by
  obtain ⟨f, fd, F, hm⟩ := T.tf_are_looks
  exact ⟨f, fd, Pf_are_looks, fn_ok (N := Nf_are_looks) (ps := Pf_are_looks) (m := mf_are_looks) F scf_are_looks (by decide) (df_are_looks T), hm, F.kp, (F.binds (ps := Pf_are_looks) fun _ _ _ _ _ _ us hl => match us, hl with | [_], _ => rfl)⟩
theorem scf_dip : FnScope Nf_dip Pf_dip (defScope sf_dip) := ⟨rfl, rfl, rfl, by decide +kernel, rfl, by decide +kernel, by decide +kernel⟩
theorem df_dip (T : Top b) : ESs (stOf b Nf_dip (defScope sf_dip) 0 2) (defBody sf_dip) mf_dip :=
  (ess_cons (xstO 0 (ed_bin b_add (xixO 0 ed_int) ed_int) ed_int)
    (ess_cons (es_if (tcmp c_gt (xixO 0 ed_int) ed_int) (ess_cons (xset 2 (ed_bin b_mod (xT b_int T.b_int bt_int (ea_cons (xixO 0 ed_int) ea_nil)) (xv 1)))
    (ess_cons (xstO 0 (ed_bin b_fdv (xT b_int T.b_int bt_int (ea_cons (xixO 0 ed_int) ea_nil)) (xv 1)) ed_int)
    (ess_one (es_ret (xv 2))))) ess_nil)
    (ess_cons (xset 3 (xT b_int T.b_int bt_int (ea_cons (xixO 0 ed_int) ea_nil)))
    (ess_cons (xstO 0 (ed_bin b_mod (xT b_int T.b_int bt_int (ea_cons (ed_bin b_add (ed_bin b_add (ed_bin b_mul (xv 3) ed_int) (ed_bin b_mul (xixO 0 ed_int) ed_int)) ed_int) ea_nil)) ed_int) ed_int)
    (ess_one (es_ret (ed_bin b_mod (xT b_int T.b_int bt_int (ea_cons (ed_bin b_fdv (xixO 0 ed_int) ed_int) ea_nil)) (xv 1))))))))
theorem calf_dip (T : Top b) : Cal b 1 "_law_dip" [0] gf_dip := by
  obtain ⟨f, fd, F, hm⟩ := T.tf_dip
  exact ⟨f, fd, Pf_dip, fn_ok (N := Nf_dip) (ps := Pf_dip) (m := mf_dip) F scf_dip (by decide) (df_dip T), hm, F.kp, (F.binds (ps := Pf_dip) fun _ _ _ _ _ _ us hl => match us, hl with | [_, _], _ => rfl)⟩
theorem scf_is_cover : FnScope Nf_is_cover Pf_is_cover (defScope sf_is_cover) := ⟨rfl, rfl, rfl, by decide +kernel, rfl, by decide +kernel, by decide +kernel⟩
theorem df_is_cover (T : Top b) : ESs (stOf b Nf_is_cover (defScope sf_is_cover) 1 2) (defBody sf_is_cover) mf_is_cover :=
  (ess_cons (xparT 2 3 (ev_fz (xcal (calf_near T) (ea_cons (xv 0) ea_nil))) (ev_fz (xcal (calf_lots T) (ea_cons (xv 0) ea_nil))))
    (ess_cons (es_if (EW.et (ew_or (et_not (et_val (xB (b_isi T.isi) T.b_isinstance bt_isinstance (ea_cons (xv 1) (ea_cons (xty T.b_tuple bt_tuple) ea_nil))))) (ew_or1 (tcmp c_ne (xT b_list T.b_list bt_list (ea_cons (xv 1) ea_nil)) (xsortedSetA T.b_sorted T.b_set (xv 1)))))) (ess_one (es_ret ed_bl)) ess_nil)
    (ess_cons (es_pre [4, 5] (es_for (ei_seq (xv 1)) (xg 4) (ess_wip [4, 5] (ess_cons (es_if (tcmp c_notin (xv 4) (xv 3)) (ess_one (es_ret ed_bl)) ess_nil)
    (ess_one (es_pre [5] (es_for (ei_seq (xv 4)) (xg 5) (ess_wip [5] (ess_one (es_if (tcmp c_ne (xlc [("_law_each", 6)] (ei_seq (xv 4)) (xg 6) (ets_one (tcmp c_notin (xv 6) (ed_ix (xv 2) (xv 5)))) (xv 6)) (ed_lst ea_nil)) (ess_one (es_ret ed_bl)) ess_nil)) rfl)) rfl))) rfl)) rfl)
    (ess_one (es_ret (xcmp c_eq (xlc [("_law_each", 6)] (ei_seq (xv 0)) (xg 6) (ets_one (tcmp c_eq (xlc [("_law_lot", 4)] (ei_seq (xv 1)) (xg 4) (ets_one (tcmp c_in (ed_ix (xv 6) ed_int) (xv 4))) (xv 4)) (ed_lst ea_nil))) (xv 6)) (ed_lst ea_nil)))))))
theorem calf_is_cover (T : Top b) : Cal b 2 "_law_is_cover" [] gf_is_cover := by
  obtain ⟨f, fd, F, hm⟩ := T.tf_is_cover
  exact ⟨f, fd, Pf_is_cover, fn_ok (N := Nf_is_cover) (ps := Pf_is_cover) (m := mf_is_cover) F scf_is_cover (by decide) (df_is_cover T), hm, F.kp, (F.binds (ps := Pf_is_cover) fun _ _ _ _ _ _ us hl => match us, hl with | [_, _], _ => rfl)⟩
theorem scf_apart_lots : FnScope Nf_apart_lots Pf_apart_lots (defScope sf_apart_lots) := ⟨rfl, rfl, rfl, by decide +kernel, rfl, by decide +kernel, by decide +kernel⟩
theorem df_apart_lots (T : Top b) : ESs (stOf b Nf_apart_lots (defScope sf_apart_lots) 1 1) (defBody sf_apart_lots) mf_apart_lots :=
  (ess_cons (xset 1 (xcal (calf_near T) (ea_cons (xv 0) ea_nil)))
    (ess_cons (xsetV 2 (ev_lst ea_nil))
    (ess_cons (es_pre [3] (es_for (ei_seq (xcal (calf_lots T) (ea_cons (xv 0) ea_nil))) (xg 3) (ess_wip [3] (ess_one (es_if (et_val (xB b_all T.b_all bt_all (ea_cons (xlc [("_law_glyph", 5)] (ei_seq (xv 3)) (xg 5) ets_nil (xcmp c_eq (xlc [("_law_each", 4)] (ei_seq (xv 3)) (xg 4) (ets_one (tcmp c_in (xv 4) (ed_ix (xv 1) (xv 5)))) (xv 4)) (ed_lst (ea_cons (xv 5) ea_nil)))) ea_nil))) (ess_one (es_expr (xappO 2 (xv 3)))) ess_nil)) rfl)) rfl)
    (xfrz 2 (ess_cons (xset 6 (xB b_max1 T.b_max bt_max (ea_cons (xlc [("_law_lot", 3)] (ei_seq (xv 2)) (xg 3) ets_nil (xB b_len T.b_len bt_len (ea_cons (xv 3) ea_nil))) ea_nil)))
    (ess_one (es_ret (xB b_sortedA T.b_sorted bt_sorted (ea_cons (xlc [("_law_lot", 3)] (ei_seq (xv 2)) (xg 3) (ets_one (tcmp c_eq (xB b_len T.b_len bt_len (ea_cons (xv 3) ea_nil)) (xv 6))) (xv 3)) ea_nil)))))))))
theorem calf_apart_lots (T : Top b) : Cal b 2 "_law_apart_lots" [] gf_apart_lots := by
  obtain ⟨f, fd, F, hm⟩ := T.tf_apart_lots
  exact ⟨f, fd, Pf_apart_lots, fn_ok (N := Nf_apart_lots) (ps := Pf_apart_lots) (m := mf_apart_lots) F scf_apart_lots (by decide) (df_apart_lots T), hm, F.kp, (F.binds (ps := Pf_apart_lots) fun _ _ _ _ _ _ us hl => match us, hl with | [_], _ => rfl)⟩
theorem scf_knot_lots : FnScope Nf_knot_lots Pf_knot_lots (defScope sf_knot_lots) := ⟨rfl, rfl, rfl, by decide +kernel, rfl, by decide +kernel, by decide +kernel⟩
theorem df_knot_lots (T : Top b) : ESs (stOf b Nf_knot_lots (defScope sf_knot_lots) 1 1) (defBody sf_knot_lots) mf_knot_lots :=
  (ess_cons (xparT 1 2 (ev_fz (xcal (calf_near T) (ea_cons (xv 0) ea_nil))) (ev_lst ea_nil))
    (ess_cons (es_pre [3] (es_for (ei_seq (xcal (calf_lots T) (ea_cons (xv 0) ea_nil))) (xg 3) (ess_wip [3] (ess_one (es_if (et_val (xB b_all T.b_all bt_all (ea_cons (xlc [("_law_glyph", 5)] (ei_seq (xv 3)) (xg 5) ets_nil (xcmp c_eq (xB b_len T.b_len bt_len (ea_cons (xlc [("_law_each", 4)] (ei_seq (xv 3)) (xg 4) (ets_one (tcmp c_in (xv 4) (ed_ix (xv 1) (xv 5)))) (xv 4)) ea_nil)) (xB b_len T.b_len bt_len (ea_cons (xv 3) ea_nil)))) ea_nil))) (ess_one (es_expr (xappO 2 (xv 3)))) ess_nil)) rfl)) rfl)
    (xfrz 2 (ess_cons (xsetV 6 (ev_lst ea_nil))
    (ess_cons (es_pre [3] (es_for (ei_seq (xv 2)) (xg 3) (ess_wip [3] (ess_one (es_if (tcmp c_eq (xlc [("_law_each", 4)] (ei_seq (xv 2)) (xg 4) (ets_one (EW.et (ew_and (tcmp c_gt (xB b_len T.b_len bt_len (ea_cons (xv 4) ea_nil)) (xB b_len T.b_len bt_len (ea_cons (xv 3) ea_nil))) (ew_and1 (tcmp c_eq (xlc [("_law_glyph", 5)] (ei_seq (xv 3)) (xg 5) (ets_one (tcmp c_notin (xv 5) (xv 4))) (xv 5)) (ed_lst ea_nil)))))) (xv 4)) (ed_lst ea_nil)) (ess_one (es_expr (xappO 6 (xv 3)))) ess_nil)) rfl)) rfl)
    (xfrz 6 (ess_one (es_ret (xB b_sortedA T.b_sorted bt_sorted (ea_cons (xv 6) ea_nil))))))))))
theorem calf_knot_lots (T : Top b) : Cal b 2 "_law_knot_lots" [] gf_knot_lots := by
  obtain ⟨f, fd, F, hm⟩ := T.tf_knot_lots
  exact ⟨f, fd, Pf_knot_lots, fn_ok (N := Nf_knot_lots) (ps := Pf_knot_lots) (m := mf_knot_lots) F scf_knot_lots (by decide) (df_knot_lots T), hm, F.kp, (F.binds (ps := Pf_knot_lots) fun _ _ _ _ _ _ us hl => match us, hl with | [_], _ => rfl)⟩
theorem scf_is_pair : FnScope Nf_is_pair Pf_is_pair (defScope sf_is_pair) := ⟨rfl, rfl, rfl, by decide +kernel, rfl, by decide +kernel, by decide +kernel⟩
theorem df_is_pair (T : Top b) : ESs (stOf b Nf_is_pair (defScope sf_is_pair) 1 1) (defBody sf_is_pair) mf_is_pair :=
  (ess_one (es_ret (ed_and (xB (b_isi T.isi) T.b_isinstance bt_isinstance (ea_cons (xv 0) (ea_cons (xty T.b_tuple bt_tuple) ea_nil))) (ed_and (xcmp c_eq (xB b_len T.b_len bt_len (ea_cons (xv 0) ea_nil)) ed_int) (ed_and (xcal (calf_is_letter T) (ea_cons (ed_ix (xv 0) ed_int) ea_nil)) (ed_and1 (xcal (calf_are_looks T) (ea_cons (ed_ix (xv 0) ed_int) ea_nil))))))))
theorem calf_is_pair (T : Top b) : Cal b 2 "is_pair" [] gf_is_pair := by
  obtain ⟨f, fd, F, hm⟩ := T.tf_is_pair
  exact ⟨f, fd, Pf_is_pair, fn_ok (N := Nf_is_pair) (ps := Pf_is_pair) (m := mf_is_pair) F scf_is_pair (by decide) (df_is_pair T), hm, F.kp, (F.binds (ps := Pf_is_pair) fun _ _ _ _ _ _ us hl => match us, hl with | [_], _ => rfl)⟩
theorem scf_glyphs : FnScope Nf_glyphs Pf_glyphs (defScope sf_glyphs) := ⟨rfl, rfl, rfl, by decide +kernel, rfl, by decide +kernel, by decide +kernel⟩
theorem df_glyphs (T : Top b) : ESs (stOf b Nf_glyphs (defScope sf_glyphs) 1 2) (defBody sf_glyphs) mf_glyphs :=
  (ess_cons (xpar 2 3 (xlist T.b_list xstr) (ev_fz xstr))
    (ess_cons (es_pre [4] (es_for (xrng1 T.b_range (ea_cons (xv 1) ea_nil)) (xg 4) (ess_wip [4] (ess_one (xset 3 (ed_bin b_add (xv 3) (xpopO 2 (xcalR 0 (calf_dip T) (ea_cons (xlenO 2 T.b_len) ea_nil)))))) rfl)) rfl)
    (ess_one (es_ret (xv 3)))))
theorem calf_glyphs (T : Top b) : Cal b 2 "_law_glyphs" [0] gf_glyphs := by
  obtain ⟨f, fd, F, hm⟩ := T.tf_glyphs
  exact ⟨f, fd, Pf_glyphs, fn_ok (N := Nf_glyphs) (ps := Pf_glyphs) (m := mf_glyphs) F scf_glyphs (by decide) (df_glyphs T), hm, F.kp, (F.binds (ps := Pf_glyphs) fun _ _ _ _ _ _ us hl => match us, hl with | [_, _], _ => rfl)⟩
theorem scf_pick : FnScope Nf_pick Pf_pick (defScope sf_pick) := ⟨rfl, rfl, rfl, by decide +kernel, rfl, by decide +kernel, by decide +kernel⟩
theorem df_pick (T : Top b) : ESs (stOf b Nf_pick (defScope sf_pick) 1 2) (defBody sf_pick) mf_pick :=
  (ess_cons (xset 2 (xcalR 0 (calf_dip T) (ea_cons (xB b_len T.b_len bt_len (ea_cons (xv 1) ea_nil)) ea_nil)))
    (ess_one (es_ret (ed_ix (xv 1) (xv 2)))))
theorem calf_pick (T : Top b) : Cal b 2 "_law_pick" [0] gf_pick := by
  obtain ⟨f, fd, F, hm⟩ := T.tf_pick
  exact ⟨f, fd, Pf_pick, fn_ok (N := Nf_pick) (ps := Pf_pick) (m := mf_pick) F scf_pick (by decide) (df_pick T), hm, F.kp, (F.binds (ps := Pf_pick) fun _ _ _ _ _ _ us hl => match us, hl with | [_, _], _ => rfl)⟩
theorem scf_figs : FnScope Nf_figs Pf_figs (defScope sf_figs) := ⟨rfl, rfl, rfl, by decide +kernel, rfl, by decide +kernel, by decide +kernel⟩
theorem df_figs (T : Top b) : ESs (stOf b Nf_figs (defScope sf_figs) 1 2) (defBody sf_figs) mf_figs :=
  (ess_cons (xset 2 (xjoin xstr (ea_cons (xlc [("_law_figure", 3)] (ei_seq (xv 1)) (xg 3) (ets_one (tcmp c_eq (xcalR 0 (calf_dip T) (ea_cons ed_int ea_nil)) ed_int)) (xv 3)) ea_nil)))
    (ess_one (es_ret (ed_if (tcmp c_ne (xv 2) xstr) (xv 2) (ed_ix (xv 1) (xcalR 0 (calf_dip T) (ea_cons (xB b_len T.b_len bt_len (ea_cons (xv 1) ea_nil)) ea_nil)))))))
theorem calf_figs (T : Top b) : Cal b 2 "_law_figs" [0] gf_figs := by
  obtain ⟨f, fd, F, hm⟩ := T.tf_figs
  exact ⟨f, fd, Pf_figs, fn_ok (N := Nf_figs) (ps := Pf_figs) (m := mf_figs) F scf_figs (by decide) (df_figs T), hm, F.kp, (F.binds (ps := Pf_figs) fun _ _ _ _ _ _ us hl => match us, hl with | [_, _], _ => rfl)⟩
theorem scf_fewest : FnScope Nf_fewest Pf_fewest (defScope sf_fewest) := ⟨rfl, rfl, rfl, by decide +kernel, rfl, by decide +kernel, by decide +kernel⟩
theorem df_fewest (T : Top b) : ESs (stOf b Nf_fewest (defScope sf_fewest) 2 1) (defBody sf_fewest) mf_fewest :=
  (ess_cons (xpar3 1 2 3 (ea_cons (ed_lst (ea_cons xstr ea_nil)) (ea_cons (xcal (calf_knot_lots T) (ea_cons (xv 0) ea_nil)) (ea_cons ed_int ea_nil))))
    (ess_cons (es_pre [4, 5, 6, 7] (es_for (xrng1 T.b_range (ea_cons (xB b_len T.b_len bt_len (ea_cons (xv 0) ea_nil)) ea_nil)) (xg 4) (ess_wip [4, 5, 6, 7] (ess_cons (es_if (tcmp c_ne (xlc [("_law_held", 5)] (ei_seq (xv 1)) (xg 5) (ets_one (tcmp c_eq (xB b_len T.b_len bt_len (ea_cons (xv 5) ea_nil)) (xB b_len T.b_len bt_len (ea_cons (xv 0) ea_nil)))) (xv 5)) (ed_lst ea_nil)) (ess_one (es_ret (xv 3))) ess_nil)
    (ess_cons (xsetV 6 (ev_lst ea_nil))
    (ess_cons (es_pre [5, 7] (es_for (ei_seq (xv 1)) (xg 5) (ess_wip [5, 7] (ess_one (es_pre [7] (es_for (ei_seq (xv 2)) (xg 7) (ess_wip [7] (ess_one (es_expr (xappO 6 (xjoin xstr (ea_cons (xsortedSetA T.b_sorted T.b_set (ed_bin b_add (xv 5) (xv 7))) ea_nil))))) rfl)) rfl)) rfl)) rfl)
    (xfrz 6 (ess_one (xpar 1 3 (ev_fz (xsortedSetA T.b_sorted T.b_set (xv 6))) (ev_fz (ed_bin b_add (xv 3) ed_int)))))))) rfl)) rfl)
    (ess_one (es_ret (xv 3)))))
theorem calf_fewest (T : Top b) : Cal b 3 "_law_fewest" [] gf_fewest := by
  obtain ⟨f, fd, F, hm⟩ := T.tf_fewest
  exact ⟨f, fd, Pf_fewest, fn_ok (N := Nf_fewest) (ps := Pf_fewest) (m := mf_fewest) F scf_fewest (by decide) (df_fewest T), hm, F.kp, (F.binds (ps := Pf_fewest) fun _ _ _ _ _ _ us hl => match us, hl with | [_], _ => rfl)⟩
theorem scf_Line__ucontains__ : FnScope Nf_Line__ucontains__ Pf_Line__ucontains__ (defScope sf_Line__ucontains__) := ⟨rfl, rfl, rfl, by decide +kernel, rfl, by decide +kernel, by decide +kernel⟩
theorem df_Line__ucontains__ (T : Top b) : ESs (stOf b Nf_Line__ucontains__ (defScope sf_Line__ucontains__) 2 2) (defBody sf_Line__ucontains__) mf_Line__ucontains__ :=
  (ess_one (es_ret (ed_and (xcal (calf_is_letter T) (ea_cons (xv 1) ea_nil)) (ed_and1 (xcmp c_in (xv 1) (xpro (prof_Line_letters T) (xv 0)))))))
theorem metf_Line__ucontains__ (T : Top b) : MetD b 3 "Line" "__contains__" [] gf_Line__ucontains__ := by
  obtain ⟨C, f, fd, hc, hm, F⟩ := T.tf_Line__ucontains__
  exact ⟨C, f, fd, Pf_Line__ucontains__, hc, hm, fn_ok (N := Nf_Line__ucontains__) (ps := Pf_Line__ucontains__) (m := mf_Line__ucontains__) F scf_Line__ucontains__ (by decide) (df_Line__ucontains__ T), (F.binds (ps := Pf_Line__ucontains__) fun _ _ _ _ _ _ us hl => match us, hl with | [_, _], _ => rfl)⟩
theorem scf_check_signs : FnScope Nf_check_signs Pf_check_signs (defScope sf_check_signs) := ⟨rfl, rfl, rfl, by decide +kernel, rfl, by decide +kernel, by decide +kernel⟩
theorem df_check_signs (T : Top b) : ESs (stOf b Nf_check_signs (defScope sf_check_signs) 2 1) (defBody sf_check_signs) mf_check_signs :=
  (ess_cons (es_if (EW.et (ew_or (et_not (et_val (xB (b_isi T.isi) T.b_isinstance bt_isinstance (ea_cons (xv 0) (ea_cons (xty T.b_tuple bt_tuple) ea_nil))))) (ew_or1 (tcmp c_eq (xv 0) (ed_tup ea_nil))))) (ess_one es_never) ess_nil)
    (ess_cons (es_pre [1, 2] (es_for (xrng1 T.b_range (ea_cons (xB b_len T.b_len bt_len (ea_cons (xv 0) ea_nil)) ea_nil)) (xg 1) (ess_wip [1, 2] (ess_cons (xsetLc 2 [("each", 3)] (ei_seq (ed_slice (xv 0) eo_none (eo_some (xv 1)))) (xg 3) ets_nil (ed_ix (xv 3) ed_int))
    (ess_one (es_if (EW.et (ew_or (tcmp c_eq (xv 1) (xgi T.g_MOST_SIGNS)) (ew_or (et_not (et_val (xcal (calf_is_pair T) (ea_cons (ed_ix (xv 0) (xv 1)) ea_nil)))) (ew_or1 (tcmp c_in (ed_ix (ed_ix (xv 0) (xv 1)) ed_int) (xv 2)))))) (ess_one es_never) ess_nil))) rfl)) rfl)
    (ess_one (es_if (tcmp c_lt (xB b_len T.b_len bt_len (ea_cons (xv 0) ea_nil)) (xgi T.g_LEAST_SIGNS)) (ess_one es_never) ess_nil))))
theorem calf_check_signs (T : Top b) : Cal b 3 "check_signs" [] gf_check_signs := by
  obtain ⟨f, fd, F, hm⟩ := T.tf_check_signs
  exact ⟨f, fd, Pf_check_signs, fn_ok (N := Nf_check_signs) (ps := Pf_check_signs) (m := mf_check_signs) F scf_check_signs (by decide) (df_check_signs T), hm, F.kp, (F.binds (ps := Pf_check_signs) fun _ _ _ _ _ _ us hl => match us, hl with | [_], _ => rfl)⟩
theorem scf_plain_line : FnScope Nf_plain_line Pf_plain_line (defScope sf_plain_line) := ⟨rfl, rfl, rfl, by decide +kernel, rfl, by decide +kernel, by decide +kernel⟩
theorem df_plain_line (T : Top b) : ESs (stOf b Nf_plain_line (defScope sf_plain_line) 2 1) (defBody sf_plain_line) mf_plain_line :=
  (ess_cons (xset 1 (xcalR 0 (calf_pick T) (ea_cons (ed_lst (ea_cons xstr (ea_cons xstr (ea_cons xstr (ea_cons xstr (ea_cons xstr (ea_cons xstr ea_nil))))))) ea_nil)))
    (ess_one (es_ret (xT b_tuple T.b_tuple bt_tuple (ea_cons (xlc [("_law_glyph", 2)] (ei_seq (xcalR 0 (calf_glyphs T) (ea_cons (ed_bin b_add ed_int (xcalR 0 (calf_dip T) (ea_cons ed_int ea_nil))) ea_nil))) (xg 2) ets_nil (ed_tup (ea_cons (xv 2) (ea_cons (xcalR 0 (calf_figs T) (ea_cons (xv 1) ea_nil)) ea_nil)))) ea_nil)))))
theorem calf_plain_line (T : Top b) : Cal b 3 "_law_plain_line" [0] gf_plain_line := by
  obtain ⟨f, fd, F, hm⟩ := T.tf_plain_line
  exact ⟨f, fd, Pf_plain_line, fn_ok (N := Nf_plain_line) (ps := Pf_plain_line) (m := mf_plain_line) F scf_plain_line (by decide) (df_plain_line T), hm, F.kp, (F.binds (ps := Pf_plain_line) fun _ _ _ _ _ _ us hl => match us, hl with | [_], _ => rfl)⟩
theorem scf_ring_line : FnScope Nf_ring_line Pf_ring_line (defScope sf_ring_line) := ⟨rfl, rfl, rfl, by decide +kernel, rfl, by decide +kernel, by decide +kernel⟩
theorem df_ring_line (T : Top b) : ESs (stOf b Nf_ring_line (defScope sf_ring_line) 2 1) (defBody sf_ring_line) mf_ring_line :=
  (ess_cons (xset 1 (xcalR 0 (calf_glyphs T) (ea_cons ed_int ea_nil)))
    (ess_cons (xpar 2 3 (xlist T.b_list xstr) (ev_lst ea_nil))
    (ess_cons (es_pre [4] (es_for (xrng1 T.b_range (ea_cons ed_int ea_nil)) (xg 4) (ess_wip [4] (ess_one (es_expr (xappO 3 (xpopO 2 (xcalR 0 (calf_dip T) (ea_cons (xlenO 2 T.b_len) ea_nil)))))) rfl)) rfl)
    (xfrz 3 (ess_cons (xsetV 5 (ev_lst ea_nil))
    (ess_cons (es_pre [6, 7] (es_for (xrng1 T.b_range (ea_cons ed_int ea_nil)) (xg 6) (ess_wip [6, 7] (ess_cons (xset 7 (ed_bin b_add (ed_lst (ea_cons (ed_ix (xv 3) (xv 6)) (ea_cons (ed_ix (xv 3) (ed_bin b_mod (xT b_int T.b_int bt_int (ea_cons (ed_bin b_add (xv 6) ed_int) ea_nil)) ed_int)) ea_nil))) (ed_if (EW.et (ew_and (tcmp c_eq (xv 6) ed_int) (ew_and1 (tcmp c_eq (xcalR 0 (calf_dip T) (ea_cons ed_int ea_nil)) ed_int)))) (ed_lst (ea_cons (ed_ix (xv 3) ed_int) ea_nil)) (ed_lst ea_nil))))
    (ess_one (es_expr (xappO 5 (ed_tup (ea_cons (ed_ix (xv 1) (xv 6)) (ea_cons (xjoin xstr (ea_cons (xB b_sortedA T.b_sorted bt_sorted (ea_cons (xv 7) ea_nil)) ea_nil)) ea_nil))))))) rfl)) rfl)
    (ess_cons (xset 8 (ed_lst (ea_cons (ed_lst ea_nil) (ea_cons (ed_lst (ea_cons (ed_ix (xv 3) ed_int) ea_nil)) (ea_cons (ed_lst (ea_cons (ed_ix (xv 3) ed_int) (ea_cons (ed_ix (xv 3) ed_int) ea_nil))) ea_nil)))))
    (ess_cons (xset 8 (ed_bin b_add (xv 8) (ed_lst (ea_cons (ed_lst (ea_cons (ed_ix (xv 3) ed_int) (ea_cons (ed_ix (xv 3) ed_int) (ea_cons (ed_ix (xv 3) ed_int) ea_nil)))) (ea_cons (ed_lst (ea_cons (ed_ix (xv 3) ed_int) ea_nil)) (ea_cons (ed_slice (xv 3) eo_none (eo_some ed_int)) ea_nil))))))
    (ess_cons (xset 9 (xcalR 0 (calf_pick T) (ea_cons (ed_bin b_add (xv 8) (ed_lst (ea_cons (ed_lst (ea_cons (ed_ix (xv 3) ed_int) (ea_cons (ed_ix (xv 3) ed_int) ea_nil))) (ea_cons (ed_lst ea_nil) (ea_cons (ed_lst (ea_cons (ed_ix (xv 3) ed_int) ea_nil)) ea_nil))))) ea_nil)))
    (ess_cons (es_if (tcmp c_ne (xv 9) (ed_lst ea_nil)) (ess_one (es_expr (xappO 5 (ed_tup (ea_cons (ed_ix (xv 1) ed_int) (ea_cons (xjoin xstr (ea_cons (xsortedSet T.b_sorted T.b_set (xv 9)) ea_nil)) ea_nil)))))) ess_nil)
    (ess_cons (xsetV 10 (ev_lst ea_nil))
    (ess_cons (es_pre [4] (es_for (xrng1 T.b_range (ea_cons (xlenO 5 T.b_len) ea_nil)) (xg 4) (ess_wip [4] (ess_one (es_expr (xappO 10 (xpopO 5 (xcalR 0 (calf_dip T) (ea_cons (xlenO 5 T.b_len) ea_nil)))))) rfl)) rfl)
    (xfrz 10 (ess_one (es_ret (xT b_tuple T.b_tuple bt_tuple (ea_cons (xv 10) ea_nil)))))))))))))))))
theorem calf_ring_line (T : Top b) : Cal b 3 "_law_ring_line" [0] gf_ring_line := by
  obtain ⟨f, fd, F, hm⟩ := T.tf_ring_line
  exact ⟨f, fd, Pf_ring_line, fn_ok (N := Nf_ring_line) (ps := Pf_ring_line) (m := mf_ring_line) F scf_ring_line (by decide) (df_ring_line T), hm, F.kp, (F.binds (ps := Pf_ring_line) fun _ _ _ _ _ _ us hl => match us, hl with | [_], _ => rfl)⟩
theorem scf_any_line : FnScope Nf_any_line Pf_any_line (defScope sf_any_line) := ⟨rfl, rfl, rfl, by decide +kernel, rfl, by decide +kernel, by decide +kernel⟩
theorem df_any_line (T : Top b) : ESs (stOf b Nf_any_line (defScope sf_any_line) 3 1) (defBody sf_any_line) mf_any_line :=
  (ess_one (es_ret (ed_if (tcmp c_eq (xcalR 0 (calf_dip T) (ea_cons ed_int ea_nil)) ed_int) (xcalR 0 (calf_plain_line T) ea_nil) (xcalR 0 (calf_ring_line T) ea_nil))))
theorem calf_any_line (T : Top b) : Cal b 4 "_law_any_line" [0] gf_any_line := by
  obtain ⟨f, fd, F, hm⟩ := T.tf_any_line
  exact ⟨f, fd, Pf_any_line, fn_ok (N := Nf_any_line) (ps := Pf_any_line) (m := mf_any_line) F scf_any_line (by decide) (df_any_line T), hm, F.kp, (F.binds (ps := Pf_any_line) fun _ _ _ _ _ _ us hl => match us, hl with | [_], _ => rfl)⟩
theorem scf_Line__uinit__ : FnScope Nf_Line__uinit__ Pf_Line__uinit__ (defScope sf_Line__uinit__) := ⟨rfl, rfl, rfl, by decide +kernel, rfl, by decide +kernel, by decide +kernel⟩
theorem df_Line__uinit__ (T : Top b) : ESs (stOf b Nf_Line__uinit__ (defScope sf_Line__uinit__) 3 2) (defBody sf_Line__uinit__) mf_Line__uinit__ :=
  (ess_cons (es_expr (xcal (calf_check_signs T) (ea_cons (xv 1) ea_nil)))
    (ess_one (xstaO 0 T.l_Line_lot (xv 1))))
theorem mkf_Line__uinit___1_ (T : Top b) : MakK b 4 "Line" 1 [] [0, 1] gf_Line__uinit__ := by
  obtain ⟨C, f, fd, hc, hm, F⟩ := T.tf_Line__uinit__
  have B : KBx fd Pf_Line__uinit__ 2 [] [0, 1] := by
    obtain ⟨_, _, _, _, _, _, _, _, _, rfl, _, _⟩ := F.ex
    intro us ws h1 h2
    match us, ws, h1, h2 with
    | [_, _], [], _, _ => exact ⟨rfl, rfl⟩
  exact ⟨C, f, fd, Pf_Line__uinit__, hc, hm, fn_ok (N := Nf_Line__uinit__) (ps := Pf_Line__uinit__) (m := mf_Line__uinit__) F scf_Line__uinit__ (by decide) (df_Line__uinit__ T), B⟩
theorem scf_check_sign : FnScope Nf_check_sign Pf_check_sign (defScope sf_check_sign) := ⟨rfl, rfl, rfl, by decide +kernel, rfl, by decide +kernel, by decide +kernel⟩
theorem df_check_sign (T : Top b) : ESs (stOf b Nf_check_sign (defScope sf_check_sign) 3 2) (defBody sf_check_sign) mf_check_sign :=
  (ess_one (es_if (tninI (metf_Line__ucontains__ T) (xv 1) (xv 0)) (ess_one es_never) ess_nil))
theorem calf_check_sign (T : Top b) : Cal b 4 "check_sign" [] gf_check_sign := by
  obtain ⟨f, fd, F, hm⟩ := T.tf_check_sign
  exact ⟨f, fd, Pf_check_sign, fn_ok (N := Nf_check_sign) (ps := Pf_check_sign) (m := mf_check_sign) F scf_check_sign (by decide) (df_check_sign T), hm, F.kp, (F.binds (ps := Pf_check_sign) fun _ _ _ _ _ _ us hl => match us, hl with | [_, _], _ => rfl)⟩
theorem scf_Line_looks_of : FnScope Nf_Line_looks_of Pf_Line_looks_of (defScope sf_Line_looks_of) := ⟨rfl, rfl, rfl, by decide +kernel, rfl, by decide +kernel, by decide +kernel⟩
theorem df_Line_looks_of (T : Top b) : ESs (stOf b Nf_Line_looks_of (defScope sf_Line_looks_of) 4 2) (defBody sf_Line_looks_of) mf_Line_looks_of :=
  (ess_cons (es_expr (xcal (calf_check_sign T) (ea_cons (xv 0) (ea_cons (xv 1) ea_nil))))
    (ess_one (es_ret (ed_ix (ed_ix (xattr T.l_Line_lot (xv 0)) (xindex (xpro (prof_Line_letters T) (xv 0)) (ea_cons (xv 1) ea_nil))) ed_int))))
theorem metf_Line_looks_of (T : Top b) : MetD b 5 "Line" "looks_of" [] gf_Line_looks_of := by
  obtain ⟨C, f, fd, hc, hm, F⟩ := T.tf_Line_looks_of
  exact ⟨C, f, fd, Pf_Line_looks_of, hc, hm, fn_ok (N := Nf_Line_looks_of) (ps := Pf_Line_looks_of) (m := mf_Line_looks_of) F scf_Line_looks_of (by decide) (df_Line_looks_of T), (F.binds (ps := Pf_Line_looks_of) fun _ _ _ _ _ _ us hl => match us, hl with | [_, _], _ => rfl)⟩
theorem scf_share_look : FnScope Nf_share_look Pf_share_look (defScope sf_share_look) := ⟨rfl, rfl, rfl, by decide +kernel, rfl, by decide +kernel, by decide +kernel⟩
theorem df_share_look (T : Top b) : ESs (stOf b Nf_share_look (defScope sf_share_look) 5 3) (defBody sf_share_look) mf_share_look :=
  (ess_one (es_ret (xB b_any T.b_any bt_any (ea_cons (xlc [("figure", 3)] (ei_seq (xmet (metf_Line_looks_of T) (xv 0) (ea_cons (xv 1) ea_nil))) (xg 3) ets_nil (xcmp c_in (xv 3) (xmet (metf_Line_looks_of T) (xv 0) (ea_cons (xv 2) ea_nil)))) ea_nil))))
theorem calf_share_look (T : Top b) : Cal b 6 "share_look" [] gf_share_look := by
  obtain ⟨f, fd, F, hm⟩ := T.tf_share_look
  exact ⟨f, fd, Pf_share_look, fn_ok (N := Nf_share_look) (ps := Pf_share_look) (m := mf_share_look) F scf_share_look (by decide) (df_share_look T), hm, F.kp, (F.binds (ps := Pf_share_look) fun _ _ _ _ _ _ us hl => match us, hl with | [_, _, _], _ => rfl)⟩
theorem scf_mixed_table : FnScope Nf_mixed_table Pf_mixed_table (defScope sf_mixed_table) := ⟨rfl, rfl, rfl, by decide +kernel, rfl, by decide +kernel, by decide +kernel⟩
theorem df_mixed_table (T : Top b) : ESs (stOf b Nf_mixed_table (defScope sf_mixed_table) 6 1) (defBody sf_mixed_table) mf_mixed_table :=
  (ess_cons (xsetV 1 ev_dict0)
    (ess_cons (es_pre [2] (es_for (ei_seq (xpro (prof_Line_letters T) (xv 0))) (xg 2) (ess_wip [2] (ess_one (xstO 1 (xjoin xstr (ea_cons (xlc [("other", 3)] (ei_seq (xpro (prof_Line_letters T) (xv 0))) (xg 3) (ets_one (et_val (xcal (calf_share_look T) (ea_cons (xv 0) (ea_cons (xv 2) (ea_cons (xv 3) ea_nil)))))) (xv 3)) ea_nil)) (xv 2))) rfl)) rfl)
    (xfrz 1 (ess_one (es_ret (xv 1))))))
theorem calf_mixed_table (T : Top b) : Cal b 7 "mixed_table" [] gf_mixed_table := by
  obtain ⟨f, fd, F, hm⟩ := T.tf_mixed_table
  exact ⟨f, fd, Pf_mixed_table, fn_ok (N := Nf_mixed_table) (ps := Pf_mixed_table) (m := mf_mixed_table) F scf_mixed_table (by decide) (df_mixed_table T), hm, F.kp, (F.binds (ps := Pf_mixed_table) fun _ _ _ _ _ _ us hl => match us, hl with | [_], _ => rfl)⟩
theorem scf_all_apart : FnScope Nf_all_apart Pf_all_apart (defScope sf_all_apart) := ⟨rfl, rfl, rfl, by decide +kernel, rfl, by decide +kernel, by decide +kernel⟩
theorem df_all_apart (T : Top b) : ESs (stOf b Nf_all_apart (defScope sf_all_apart) 7 1) (defBody sf_all_apart) mf_all_apart :=
  (ess_cons (xset 1 (xcal (calf_mixed_table T) (ea_cons (xv 0) ea_nil)))
    (ess_cons (xsetLc 2 [("lot", 3)] (ei_seq (xcal (calf_lots_of T) (ea_cons (xpro (prof_Line_letters T) (xv 0)) ea_nil))) (xg 3) (ets_one (et_val (xcal (calf_is_apart T) (ea_cons (xv 1) (ea_cons (xv 3) ea_nil))))) (xv 3))
    (ess_cons (xset 4 (xB b_max1 T.b_max bt_max (ea_cons (xlc [("lot", 3)] (ei_seq (xv 2)) (xg 3) ets_nil (xB b_len T.b_len bt_len (ea_cons (xv 3) ea_nil))) ea_nil)))
    (ess_one (es_ret (xB b_sortedA T.b_sorted bt_sorted (ea_cons (xlc [("lot", 3)] (ei_seq (xv 2)) (xg 3) (ets_one (tcmp c_eq (xB b_len T.b_len bt_len (ea_cons (xv 3) ea_nil)) (xv 4))) (xv 3)) ea_nil)))))))
theorem calf_all_apart (T : Top b) : Cal b 8 "all_apart" [] gf_all_apart := by
  obtain ⟨f, fd, F, hm⟩ := T.tf_all_apart
  exact ⟨f, fd, Pf_all_apart, fn_ok (N := Nf_all_apart) (ps := Pf_all_apart) (m := mf_all_apart) F scf_all_apart (by decide) (df_all_apart T), hm, F.kp, (F.binds (ps := Pf_all_apart) fun _ _ _ _ _ _ us hl => match us, hl with | [_], _ => rfl)⟩
theorem scf_all_knots : FnScope Nf_all_knots Pf_all_knots (defScope sf_all_knots) := ⟨rfl, rfl, rfl, by decide +kernel, rfl, by decide +kernel, by decide +kernel⟩
theorem df_all_knots (T : Top b) : ESs (stOf b Nf_all_knots (defScope sf_all_knots) 7 1) (defBody sf_all_knots) mf_all_knots :=
  (ess_cons (xset 1 (xcal (calf_mixed_table T) (ea_cons (xv 0) ea_nil)))
    (ess_cons (xsetLc 2 [("lot", 3)] (ei_seq (ed_slice (xcal (calf_lots_of T) (ea_cons (xpro (prof_Line_letters T) (xv 0)) ea_nil)) (eo_some ed_int) eo_none)) (xg 3) (ets_one (et_val (xcal (calf_is_knot T) (ea_cons (xv 1) (ea_cons (xv 3) ea_nil))))) (xv 3))
    (ess_cons (xsetV 4 (ev_lst ea_nil))
    (ess_cons (es_pre [3] (es_for (ei_seq (xv 2)) (xg 3) (ess_wip [3] (ess_one (es_if (et_not (et_val (xB b_any T.b_any bt_any (ea_cons (xlc [("other", 6)] (ei_seq (xv 2)) (xg 6) ets_nil (ed_and (xcmp c_ne (xv 6) (xv 3)) (ed_and1 (xB b_all T.b_all bt_all (ea_cons (xlc [("sign", 5)] (ei_seq (xv 3)) (xg 5) ets_nil (xcmp c_in (xv 5) (xv 6))) ea_nil))))) ea_nil)))) (ess_one (es_expr (xappO 4 (xv 3)))) ess_nil)) rfl)) rfl)
    (xfrz 4 (ess_one (es_ret (xB b_sortedA T.b_sorted bt_sorted (ea_cons (xv 4) ea_nil)))))))))
theorem calf_all_knots (T : Top b) : Cal b 8 "all_knots" [] gf_all_knots := by
  obtain ⟨f, fd, F, hm⟩ := T.tf_all_knots
  exact ⟨f, fd, Pf_all_knots, fn_ok (N := Nf_all_knots) (ps := Pf_all_knots) (m := mf_all_knots) F scf_all_knots (by decide) (df_all_knots T), hm, F.kp, (F.binds (ps := Pf_all_knots) fun _ _ _ _ _ _ us hl => match us, hl with | [_], _ => rfl)⟩
theorem scf_most_apart : FnScope Nf_most_apart Pf_most_apart (defScope sf_most_apart) := ⟨rfl, rfl, rfl, by decide +kernel, rfl, by decide +kernel, by decide +kernel⟩
theorem df_most_apart (T : Top b) : ESs (stOf b Nf_most_apart (defScope sf_most_apart) 8 1) (defBody sf_most_apart) mf_most_apart :=
  (ess_cons (es_expr (xcal (calf_check_line T) (ea_cons (xv 0) ea_nil)))
    (ess_one (es_ret (xB b_len T.b_len bt_len (ea_cons (ed_ix (xcal (calf_all_apart T) (ea_cons (xv 0) ea_nil)) ed_int) ea_nil)))))
theorem calf_most_apart (T : Top b) : Cal b 9 "most_apart" [] gf_most_apart := by
  obtain ⟨f, fd, F, hm⟩ := T.tf_most_apart
  exact ⟨f, fd, Pf_most_apart, fn_ok (N := Nf_most_apart) (ps := Pf_most_apart) (m := mf_most_apart) F scf_most_apart (by decide) (df_most_apart T), hm, F.kp, (F.binds (ps := Pf_most_apart) fun _ _ _ _ _ _ us hl => match us, hl with | [_], _ => rfl)⟩
theorem scf_least_cover : FnScope Nf_least_cover Pf_least_cover (defScope sf_least_cover) := ⟨rfl, rfl, rfl, by decide +kernel, rfl, by decide +kernel, by decide +kernel⟩
theorem df_least_cover (T : Top b) : ESs (stOf b Nf_least_cover (defScope sf_least_cover) 8 1) (defBody sf_least_cover) mf_least_cover :=
  (ess_cons (xset 1 (xcal (calf_all_knots T) (ea_cons (xv 0) ea_nil)))
    (ess_cons (es_pre [2, 3] (es_for (xrng2 T.b_range (ea_cons ed_int (ea_cons (ed_bin b_add (xB b_len T.b_len bt_len (ea_cons (xv 1) ea_nil)) ed_int) ea_nil))) (xg 2) (ess_wip [2, 3] (ess_one (es_pre [3] (es_for (ei_seq (xcal (calf_sets_of T) (ea_cons (xv 1) (ea_cons (xv 2) ea_nil)))) (xg 3) (ess_wip [3] (ess_one (es_if (et_val (xB b_all T.b_all bt_all (ea_cons (xlc [("sign", 5)] (ei_seq (xpro (prof_Line_letters T) (xv 0))) (xg 5) ets_nil (xB b_any T.b_any bt_any (ea_cons (xlc [("lot", 4)] (ei_seq (xv 3)) (xg 4) ets_nil (xcmp c_in (xv 5) (xv 4))) ea_nil))) ea_nil))) (ess_one (es_ret (xv 3))) ess_nil)) rfl)) rfl)) rfl)) rfl)
    (ess_one (es_ret (xT b_tuple T.b_tuple bt_tuple (ea_cons (xv 1) ea_nil))))))
theorem calf_least_cover (T : Top b) : Cal b 9 "least_cover" [] gf_least_cover := by
  obtain ⟨f, fd, F, hm⟩ := T.tf_least_cover
  exact ⟨f, fd, Pf_least_cover, fn_ok (N := Nf_least_cover) (ps := Pf_least_cover) (m := mf_least_cover) F scf_least_cover (by decide) (df_least_cover T), hm, F.kp, (F.binds (ps := Pf_least_cover) fun _ _ _ _ _ _ us hl => match us, hl with | [_], _ => rfl)⟩
theorem scf_cover : FnScope Nf_cover Pf_cover (defScope sf_cover) := ⟨rfl, rfl, rfl, by decide +kernel, rfl, by decide +kernel, by decide +kernel⟩
theorem df_cover (T : Top b) : ESs (stOf b Nf_cover (defScope sf_cover) 9 1) (defBody sf_cover) mf_cover :=
  (ess_cons (es_expr (xcal (calf_check_line T) (ea_cons (xv 0) ea_nil)))
    (ess_one (es_ret (xcal (calf_least_cover T) (ea_cons (xv 0) ea_nil)))))
theorem calf_cover (T : Top b) : Cal b 10 "cover" [] gf_cover := by
  obtain ⟨f, fd, F, hm⟩ := T.tf_cover
  exact ⟨f, fd, Pf_cover, fn_ok (N := Nf_cover) (ps := Pf_cover) (m := mf_cover) F scf_cover (by decide) (df_cover T), hm, F.kp, (F.binds (ps := Pf_cover) fun _ _ _ _ _ _ us hl => match us, hl with | [_], _ => rfl)⟩
theorem ckf_cover_0_line (T : Top b) : CalK b 10 "cover" 0 ["line"] [0] gf_cover := by
  obtain ⟨f, fd, F, hm⟩ := T.tf_cover
  have B : KBx fd Pf_cover 0 ["line"] [0] := by
    obtain ⟨_, _, _, _, _, _, _, _, _, rfl, _, _⟩ := F.ex
    intro us ws h1 h2
    match us, ws, h1, h2 with
    | [], [_], _, _ => exact ⟨rfl, rfl⟩
  exact ⟨f, fd, Pf_cover, fn_ok (N := Nf_cover) (ps := Pf_cover) (m := mf_cover) F scf_cover (by decide) (df_cover T), hm, F.kp, B⟩
theorem scf_fewest_knots : FnScope Nf_fewest_knots Pf_fewest_knots (defScope sf_fewest_knots) := ⟨rfl, rfl, rfl, by decide +kernel, rfl, by decide +kernel, by decide +kernel⟩
theorem df_fewest_knots (T : Top b) : ESs (stOf b Nf_fewest_knots (defScope sf_fewest_knots) 9 1) (defBody sf_fewest_knots) mf_fewest_knots :=
  (ess_cons (es_expr (xcal (calf_check_line T) (ea_cons (xv 0) ea_nil)))
    (ess_one (es_ret (xB b_len T.b_len bt_len (ea_cons (xcal (calf_least_cover T) (ea_cons (xv 0) ea_nil)) ea_nil)))))
theorem calf_fewest_knots (T : Top b) : Cal b 10 "fewest_knots" [] gf_fewest_knots := by
  obtain ⟨f, fd, F, hm⟩ := T.tf_fewest_knots
  exact ⟨f, fd, Pf_fewest_knots, fn_ok (N := Nf_fewest_knots) (ps := Pf_fewest_knots) (m := mf_fewest_knots) F scf_fewest_knots (by decide) (df_fewest_knots T), hm, F.kp, (F.binds (ps := Pf_fewest_knots) fun _ _ _ _ _ _ us hl => match us, hl with | [_], _ => rfl)⟩
theorem ckf_fewest_knots_0_line (T : Top b) : CalK b 10 "fewest_knots" 0 ["line"] [0] gf_fewest_knots := by
  obtain ⟨f, fd, F, hm⟩ := T.tf_fewest_knots
  have B : KBx fd Pf_fewest_knots 0 ["line"] [0] := by
    obtain ⟨_, _, _, _, _, _, _, _, _, rfl, _, _⟩ := F.ex
    intro us ws h1 h2
    match us, ws, h1, h2 with
    | [], [_], _, _ => exact ⟨rfl, rfl⟩
  exact ⟨f, fd, Pf_fewest_knots, fn_ok (N := Nf_fewest_knots) (ps := Pf_fewest_knots) (m := mf_fewest_knots) F scf_fewest_knots (by decide) (df_fewest_knots T), hm, F.kp, B⟩
theorem scf_is_whole : FnScope Nf_is_whole Pf_is_whole (defScope sf_is_whole) := ⟨rfl, rfl, rfl, by decide +kernel, rfl, by decide +kernel, by decide +kernel⟩
theorem df_is_whole (T : Top b) : ESs (stOf b Nf_is_whole (defScope sf_is_whole) 10 1) (defBody sf_is_whole) mf_is_whole :=
  (ess_one (es_ret (xcmp c_eq (xcal (calf_most_apart T) (ea_cons (xv 0) ea_nil)) (xcal (calf_fewest_knots T) (ea_cons (xv 0) ea_nil)))))
theorem calf_is_whole (T : Top b) : Cal b 11 "is_whole" [] gf_is_whole := by
  obtain ⟨f, fd, F, hm⟩ := T.tf_is_whole
  exact ⟨f, fd, Pf_is_whole, fn_ok (N := Nf_is_whole) (ps := Pf_is_whole) (m := mf_is_whole) F scf_is_whole (by decide) (df_is_whole T), hm, F.kp, (F.binds (ps := Pf_is_whole) fun _ _ _ _ _ _ us hl => match us, hl with | [_], _ => rfl)⟩
theorem ckf_is_whole_0_line (T : Top b) : CalK b 11 "is_whole" 0 ["line"] [0] gf_is_whole := by
  obtain ⟨f, fd, F, hm⟩ := T.tf_is_whole
  have B : KBx fd Pf_is_whole 0 ["line"] [0] := by
    obtain ⟨_, _, _, _, _, _, _, _, _, rfl, _, _⟩ := F.ex
    intro us ws h1 h2
    match us, ws, h1, h2 with
    | [], [_], _, _ => exact ⟨rfl, rfl⟩
  exact ⟨f, fd, Pf_is_whole, fn_ok (N := Nf_is_whole) (ps := Pf_is_whole) (m := mf_is_whole) F scf_is_whole (by decide) (df_is_whole T), hm, F.kp, B⟩
theorem scf_right : FnScope Nf_right Pf_right (defScope sf_right) := ⟨rfl, rfl, rfl, by decide +kernel, rfl, by decide +kernel, by decide +kernel⟩
theorem df_right (T : Top b) : ESs (stOf b Nf_right (defScope sf_right) 11 1) (defBody sf_right) mf_right :=
  (ess_cons (es_pre [1, 2, 3, 4, 5, 6] (es_for (xrng1 T.b_range (ea_cons ed_int ea_nil)) (xg 1) (ess_wip [1, 2, 3, 4, 5, 6] (ess_cons (xset 2 (xcalR 0 (calf_any_line T) ea_nil))
    (ess_cons (xpar 3 4 (ev_fz (xmk (mkf_Line__uinit___1_ T) (ea_cons (xv 2) ea_nil) ek_nil)) (ev_fz (xcal (calf_fewest T) (ea_cons (xv 2) ea_nil))))
    (ess_cons (xset 5 (xcal (calf_cover T) (ea_cons (xv 3) ea_nil)))
    (ess_cons (es_if (EW.et (ew_or (et_not (et_val (xcal (calf_is_cover T) (ea_cons (xv 2) (ea_cons (xv 5) ea_nil))))) (ew_or (tcmp c_ne (xB b_len T.b_len bt_len (ea_cons (xv 5) ea_nil)) (xv 4)) (ew_or1 (tcmp c_ne (xcalK0 (ckf_cover_0_line T) (ek_cons (xv 3) ek_nil)) (xv 5)))))) (ess_one (es_ret ed_bl)) ess_nil)
    (ess_cons (xset 6 (xcmp c_eq (xB b_len T.b_len bt_len (ea_cons (ed_ix (xcal (calf_apart_lots T) (ea_cons (xv 2) ea_nil)) ed_int) ea_nil)) (xv 4)))
    (ess_cons (xset 5 (ed_lst (ea_cons (xcal (calf_fewest_knots T) (ea_cons (xv 3) ea_nil)) (ea_cons (xcalK0 (ckf_fewest_knots_0_line T) (ek_cons (xv 3) ek_nil)) (ea_cons (xcal (calf_is_whole T) (ea_cons (xv 3) ea_nil)) (ea_cons (xcalK0 (ckf_is_whole_0_line T) (ek_cons (xv 3) ek_nil)) ea_nil))))))
    (ess_cons (es_if (tcmp c_ne (xB b_repr T.b_repr bt_repr (ea_cons (xv 5) ea_nil)) (xB b_repr T.b_repr bt_repr (ea_cons (ed_lst (ea_cons (xv 4) (ea_cons (xv 4) (ea_cons (xv 6) (ea_cons (xv 6) ea_nil))))) ea_nil))) (ess_one (es_ret ed_bl)) ess_nil)
    (ess_one (es_if (tcmp c_gt (xcal (calf_most_apart T) (ea_cons (xv 3) ea_nil)) (xv 4)) (ess_one (es_ret ed_bl)) ess_nil))))))))) rfl)) rfl)
    (ess_one (es_ret ed_bl)))
theorem calf_right (T : Top b) : Cal b 12 "_law_right" [0] gf_right := by
  obtain ⟨f, fd, F, hm⟩ := T.tf_right
  exact ⟨f, fd, Pf_right, fn_ok (N := Nf_right) (ps := Pf_right) (m := mf_right) F scf_right (by decide) (df_right T), hm, F.kp, (F.binds (ps := Pf_right) fun _ _ _ _ _ _ us hl => match us, hl with | [_], _ => rfl)⟩
theorem scf_law : FnScope Nf_law Pf_law (defScope sf_law) := ⟨rfl, rfl, rfl, by decide +kernel, rfl, by decide +kernel, by decide +kernel⟩
theorem df_law (T : Top b) : ESs (stOf b Nf_law (defScope sf_law) 12 1) (defBody sf_law) mf_law :=
  (ess_cons (es_pre [1] (es_for (xrng1 T.b_range (ea_cons (xB b_max2 T.b_max bt_max (ea_cons ed_int (ea_cons (xB b_min2 T.b_min bt_min (ea_cons (xB b_len T.b_len bt_len (ea_cons (xv 0) ea_nil)) (ea_cons ed_int ea_nil))) ea_nil))) ea_nil)) (xg 1) (ess_wip [1] (ess_one (es_if (et_not (et_val (xcalV (calf_right T) (xcalO (calf_jar T) (ea_cons (xv 0) (ea_cons (xv 1) ea_nil)))))) (ess_one (es_ret ed_bl)) ess_nil)) rfl)) rfl)
    (ess_one (es_ret ed_bl)))
theorem calf_law (T : Top b) : Cal b 13 "law" [] gf_law := by
  obtain ⟨f, fd, F, hm⟩ := T.tf_law
  exact ⟨f, fd, Pf_law, fn_ok (N := Nf_law) (ps := Pf_law) (m := mf_law) F scf_law (by decide) (df_law T), hm, F.kp, (F.binds (ps := Pf_law) fun _ _ _ _ _ _ us hl => match us, hl with | [_], _ => rfl)⟩
end
end LW

namespace LW
open PySem L2 DL
/-! base -/
/-! ### jars, lines -/
structure J where
  a : Int
  s : Int
  t : Int
def encJ (j : J) : D := .lst [.int j.a, .int j.s, .int j.t]
def J.seed (j : J) : Int := (j.s * 40692 + (j.t + 1) * 52021 + 31) % 2147483399
def dipN (j : J) (w : Nat) : Nat := if 0 < j.a then (j.a % w).toNat else (j.seed / 2048 % w).toNat
def dipJ (j : J) (w : Nat) : J := if 0 < j.a then ⟨j.a / w, j.s, j.t + 1⟩ else ⟨j.a, j.seed, j.t + 1⟩
theorem dipN_lt (j : J) {w : Nat} (h : 0 < w) : dipN j w < w := by
  unfold dipN
  split
  · have := Int.emod_lt_of_pos j.a (b := (w : Int)) (by omega)
    have := Int.emod_nonneg j.a (b := (w : Int)) (by omega)
    omega
  · have := Int.emod_lt_of_pos (j.seed / 2048) (b := (w : Int)) (by omega)
    have := Int.emod_nonneg (j.seed / 2048) (b := (w : Int)) (by omega)
    omega
def figs8 : Cs := [48, 49, 50, 51, 52, 53, 54, 55]
def abc : Cs := [97, 98, 99, 100, 101, 102, 103, 104, 105, 106, 107, 108, 109, 110, 111, 112, 113, 114, 115, 116, 117, 118, 119, 120, 121, 122]
def ltrs : Cs := [97, 98, 99, 100, 101, 102, 109, 110, 120, 121, 122]
abbrev Ps := List (Nat × Cs)
def encP (p : Nat × Cs) : D := .tup [.str [p.1], .str p.2]
def Lot (ps : Ps) : D := .tup (ps.map encP)
def LineD (ps : Ps) : D := .ins "Line" [("lot", Lot ps)]
structure Looks (l : Cs) : Prop where
  ne : l ≠ []
  up : l.Pairwise (· < ·)
  fig : ∀ c ∈ l, c ∈ figs8
structure Good (ps : Ps) : Prop where
  two : 2 ≤ ps.length
  six : ps.length ≤ 6
  nd : (ps.map (·.1)).Nodup
  ltr : ∀ p ∈ ps, p.1 ∈ abc
  lks : ∀ p ∈ ps, Looks p.2
theorem Looks.len {l : Cs} (h : Looks l) : l.length ≤ 8 := by
  have h1 : l.Nodup := h.up.imp fun {a b} h => Nat.ne_of_lt h
  exact List.Nodup.length_le_of_subset h1 h.fig
theorem ltrs_abc : ∀ c ∈ ltrs, c ∈ abc := by decide
theorem sub_looks {l pool : Cs} (h : Looks pool) (hs : l.Sublist pool) (h0 : l ≠ []) : Looks l := ⟨h0, h.up.sublist hs, fun c hc => h.fig c (hs.subset hc)⟩
@[simp] theorem ix0P (p : Nat × Cs) : dIx (encP p) (.int 0) = some (.str [p.1]) := nrfl rfl
@[simp] theorem ix1P (p : Nat × Cs) : dIx (encP p) (.int 1) = some (.str p.2) := nrfl rfl
@[simp] theorem seqLot (ps : Ps) : dSeq (Lot ps) = some (ps.map encP) := nrfl rfl
@[simp] theorem lenLot (ps : Ps) : dLen [Lot ps] = some (.int ps.length) := by simp [Lot]
@[simp] theorem ixLot (ps : Ps) (n : Nat) : dIx (Lot ps) (.int n) = (ps[n]?).map encP := by simp [Lot]
@[simp] theorem attrLot (ps : Ps) : dAttr "Line" "lot" (LineD ps) = some (Lot ps) := nrfl rfl
@[simp] theorem insLine (ps : Ps) : isIns "Line" (LineD ps) = true := nrfl rfl
@[simp] theorem isP_encP (p : Nat × Cs) : isP (encP p) = true := by simp [encP]
@[simp] theorem isP_Lot (ps : Ps) : isP (Lot ps) = true := by simp [Lot]
theorem dep_encP (p : Nat × Cs) : dep (encP p) = 1 := by simp [encP, dep, deps]
theorem dep_Lot (ps : Ps) : dep (Lot ps) ≤ 2 := by
  have := deps_le (n := 1) (xs := ps.map encP) fun x hx => by
    obtain ⟨p, _, rfl⟩ := List.mem_map.mp hx
    rw [dep_encP]; exact Nat.le_refl _
  simp only [Lot, dep]; omega
@[simp] theorem deq_encP (p q : Nat × Cs) : deq (encP p) (encP q) = decide (p = q) := by
  obtain ⟨a, b⟩ := p
  obtain ⟨c, d⟩ := q
  simp [encP]
theorem deq_Lot (ps qs : Ps) : deq (Lot ps) (Lot qs) = decide (ps = qs) := by
  simp only [Lot, deq_tup]; exact deqs_inj encP deq_encP ps qs
@[simp] theorem tgP (t u : Tg) (p : Nat × Cs) (ρ : En) : tgT 2 (tgC t (tgC u tgN)) (encP p) ρ = (t (.str [p.1]) ρ).bind (u (.str p.2)) := by
  simp only [encP, at_tgT, List.length_cons, List.length_nil, if_true, at_tgC]
  cases t (.str [p.1]) ρ with
  | none => rfl
  | some ρ1 => simp only [Option.bind_some, at_tgC]; cases u (.str p.2) ρ1 <;> rfl
theorem Good.sz {ps : Ps} (g : Good ps) : ps.length ≤ 16777216 := by have := g.six; omega
/-- two signs share a look -/
def mix (p q : Nat × Cs) : Bool := p.2.any fun c => decide (c ∈ q.2)
theorem mix_comm (p q : Nat × Cs) : mix p q = mix q p := by
  rw [Bool.eq_iff_iff]
  simp only [mix, List.any_eq_true, decide_eq_true_eq]
  exact ⟨fun ⟨c, h1, h2⟩ => ⟨c, h2, h1⟩, fun ⟨c, h1, h2⟩ => ⟨c, h2, h1⟩⟩
theorem mem_of_app {α : Type} {xs ys zs : List α} {x : α} (h : xs = ys ++ x :: zs) : x ∈ xs := by rw [h]; simp
theorem nodup_inj {α : Type} {f : α → Nat} {xs : List α} (nd : (xs.map f).Nodup) {a b : α} (ha : a ∈ xs) (hb : b ∈ xs) (h : f a = f b) : a = b := by
  induction xs with
  | nil => cases ha
  | cons x r ih =>
    rw [List.map_cons, List.nodup_cons] at nd
    rcases List.mem_cons.mp ha with e1 | e1 <;> rcases List.mem_cons.mp hb with e2 | e2
    · rw [e1, e2]
    · subst e1; exact absurd (List.mem_map.mpr ⟨b, e2, h.symm⟩) nd.1
    · subst e2; exact absurd (List.mem_map.mpr ⟨a, e1, h⟩) nd.1
    · exact ih nd.2 e1 e2
@[simp] theorem rM_line (ps : Ps) : rM "Line" (.ok .non [LineD ps]) = .ok (LineD ps) := nrfl rfl
theorem nd_app {ps ys zs : Ps} {x : Nat × Cs} (nd : (ps.map (·.1)).Nodup) (e : ps = ys ++ x :: zs) : ∀ y ∈ ys, y.1 ≠ x.1 := fun y hy he => by
  rw [e, List.map_append, List.map_cons] at nd
  exact (List.nodup_append.mp nd).2.2 y.1 (List.mem_map.mpr ⟨y, hy, rfl⟩) x.1 List.mem_cons_self he
/-! base2 -/
/-! ### webs: who is mixed with whom, lots of signs -/
/-- the signs that are mixed with a sign -/
def ngh (ps : Ps) (a : Nat) : Cs := match ps.find? (fun p => p.1 == a) with
  | some p => (ps.filter fun q => mix p q).map (·.1)
  | none => []
def adj (ps : Ps) (a b : Nat) : Bool := decide (b ∈ ngh ps a)
def names (ps : Ps) : Cs := ps.map (·.1)
theorem find_name {ps : Ps} (nd : (ps.map (·.1)).Nodup) {p : Nat × Cs} (hp : p ∈ ps) : ps.find? (fun q => q.1 == p.1) = some p := by
  cases h : ps.find? (fun q => q.1 == p.1) with
  | none => exact absurd (List.find?_eq_none.mp h p hp) (by simp)
  | some q =>
    have h1 := List.find?_some h
    have h2 := List.mem_of_find?_eq_some h
    rw [nodup_inj (f := fun q : Nat × Cs => q.1) nd h2 hp (by simpa using h1)]
theorem ngh_of {ps : Ps} (nd : (ps.map (·.1)).Nodup) {p : Nat × Cs} (hp : p ∈ ps) : ngh ps p.1 = (ps.filter fun q => mix p q).map (·.1) := by
  unfold ngh; rw [find_name nd hp]
theorem adj_of {ps : Ps} (nd : (ps.map (·.1)).Nodup) {p q : Nat × Cs} (hp : p ∈ ps) (hq : q ∈ ps) : adj ps p.1 q.1 = mix p q := by
  unfold adj
  rw [ngh_of nd hp, Bool.eq_iff_iff, decide_eq_true_eq]
  constructor
  · intro h
    obtain ⟨r, hr, he⟩ := List.mem_map.mp h
    obtain ⟨hr, hm⟩ := List.mem_filter.mp hr
    rw [← nodup_inj (f := fun q : Nat × Cs => q.1) nd hr hq he]; exact hm
  · intro h
    exact List.mem_map.mpr ⟨q, List.mem_filter.mpr ⟨hq, h⟩, rfl⟩
theorem mem_names {ps : Ps} {a : Nat} (h : a ∈ names ps) : ∃ p ∈ ps, p.1 = a := by
  obtain ⟨p, hp, e⟩ := List.mem_map.mp h
  exact ⟨p, hp, e⟩
theorem adj_comm {ps : Ps} (nd : (ps.map (·.1)).Nodup) {a b : Nat} (ha : a ∈ names ps) (hb : b ∈ names ps) : adj ps a b = adj ps b a := by
  obtain ⟨p, hp, rfl⟩ := mem_names ha
  obtain ⟨q, hq, rfl⟩ := mem_names hb
  rw [adj_of nd hp hq, adj_of nd hq hp, mix_comm]
theorem mix_self {p : Nat × Cs} (h : Looks p.2) : mix p p = true := by
  cases e : p.2 with
  | nil => exact absurd e h.ne
  | cons c r => simp [mix, e]
theorem adj_self {ps : Ps} (g : Good ps) {a : Nat} (ha : a ∈ names ps) : adj ps a a = true := by
  obtain ⟨p, hp, rfl⟩ := mem_names ha
  rw [adj_of g.nd hp hp, mix_self (g.lks p hp)]
theorem snoc_ind {α : Type} {P : List α → Prop} (h0 : P []) (hs : ∀ l a, P l → P (l ++ [a])) : ∀ l, P l := by
  intro l
  have key : ∀ n (l : List α), l.length = n → P l := by
    intro n
    induction n with
    | zero => intro l h; rw [List.length_eq_zero_iff.mp h]; exact h0
    | succ n ih =>
      intro l h
      have hne : l ≠ [] := by intro e; rw [e] at h; cases h
      rw [← List.dropLast_concat_getLast hne]
      exact hs _ _ (ih _ (by rw [List.length_dropLast]; omega))
  exact key _ l rfl
theorem sub_one {α : Type} {x : List α} {s : α} (h : x.Sublist [s]) : x = [] ∨ x = [s] := by
  cases h with
  | cons _ h => exact .inl (List.sublist_nil.mp h)
  | cons_cons _ h => rw [List.sublist_nil.mp h]; exact .inr rfl
/-- all lots of some signs -/
def lotsN (ls : Cs) : List Cs := ls.foldl (fun acc s => acc ++ acc.map fun l => l ++ [s]) [[]]
theorem lotsN_snoc (ls : Cs) (s : Nat) : lotsN (ls ++ [s]) = lotsN ls ++ (lotsN ls).map fun l => l ++ [s] := by
  unfold lotsN; rw [List.foldl_append]; rfl
theorem lotsN_length (ls : Cs) : (lotsN ls).length = 2 ^ ls.length := by
  refine snoc_ind (P := fun ls => (lotsN ls).length = 2 ^ ls.length) rfl (fun ls s ih => ?_) ls
  · rw [lotsN_snoc, List.length_append, List.length_map, ih, List.length_append, List.length_singleton, Nat.pow_succ]; omega
theorem sub_snoc {α : Type} {x ls : List α} {s : α} : x.Sublist (ls ++ [s]) ↔ x.Sublist ls ∨ ∃ y, y.Sublist ls ∧ x = y ++ [s] := by
  rw [List.sublist_append_iff]
  constructor
  · rintro ⟨l1, l2, rfl, h1, h2⟩
    rcases sub_one h2 with rfl | rfl
    · rw [List.append_nil]; exact .inl h1
    · exact .inr ⟨l1, h1, rfl⟩
  · rintro (h | ⟨y, h, rfl⟩)
    · exact ⟨x, [], by simp, h, List.nil_sublist _⟩
    · exact ⟨y, [s], rfl, h, List.Sublist.refl _⟩
theorem mem_lotsN {x : Cs} (ls : Cs) : x ∈ lotsN ls ↔ x.Sublist ls := by
  revert x
  refine snoc_ind (P := fun ls => ∀ {x : Cs}, x ∈ lotsN ls ↔ x.Sublist ls) (by simp [lotsN]) (fun ls s ih => ?_) ls
  · intro x
    rw [lotsN_snoc, List.mem_append, List.mem_map, sub_snoc, ih]
    constructor
    · rintro (h | ⟨y, h, rfl⟩)
      · exact .inl h
      · exact .inr ⟨y, ih.mp h, rfl⟩
    · rintro (h | ⟨y, h, rfl⟩)
      · exact .inl h
      · exact .inr ⟨y, ih.mpr h, rfl⟩
theorem lotsN_head (ls : Cs) : ∃ r, lotsN ls = [] :: r := by
  refine snoc_ind (P := fun ls => ∃ r, lotsN ls = [] :: r) ⟨[], rfl⟩ (fun ls s ih => ?_) ls
  · obtain ⟨r, h⟩ := ih
    rw [lotsN_snoc, h]; exact ⟨_, rfl⟩
theorem tail_lots {x : Cs} {ls : Cs} (h : x ∈ (lotsN ls).tail) : x.Sublist ls := (mem_lotsN ls).mp (List.mem_of_mem_tail h)
/-- the signs in order -/
def ord (ps : Ps) : Cs := sortN (names ps)
theorem ord_up {ps : Ps} (g : Good ps) : (ord ps).Pairwise (· < ·) := sortN_up g.nd
theorem ord_len (ps : Ps) : (ord ps).length = ps.length := by simp [ord, names]
theorem lot_mem {ps : Ps} {x : Cs} (h : x.Sublist (ord ps)) {a : Nat} (ha : a ∈ x) : a ∈ names ps := mem_sortN.mp (h.subset ha)
theorem lot_len {ps : Ps} (g : Good ps) {x : Cs} (h : x.Sublist (ord ps)) : x.length ≤ 6 := by
  have := h.length_le; rw [ord_len] at this; have := g.six; omega
theorem lots64 {ps : Ps} (g : Good ps) : (lotsN (ord ps)).length ≤ 64 := by
  rw [lotsN_length, ord_len]
  exact Nat.le_trans (Nat.pow_le_pow_right (by decide) g.six) (by decide)
theorem lots63 {ps : Ps} (g : Good ps) : (lotsN (ord ps)).tail.length < 64 := by
  have := lots64 g
  rw [List.length_tail]; omega
/-- the table of who is mixed with whom -/
def TabD (ps : Ps) : D := .dct (ps.map fun p => (DK.s [p.1], D.str ((ps.filter fun q => mix p q).map (·.1))))
theorem tab_ix {ps : Ps} (g : Good ps) {a : Nat} (ha : a ∈ names ps) : dIx (TabD ps) (.str [a]) = some (.str (ngh ps a)) := by
  obtain ⟨p, hp, rfl⟩ := mem_names ha
  simp only [TabD, dIx_dct, asK_str, Option.bind_some]
  rw [lookK_map1 (fun p : Nat × Cs => p.1) (fun p => D.str ((ps.filter fun q => mix p q).map (·.1))) g.nd hp, ngh_of g.nd hp]
theorem eq_of_sub_len {x y : Cs} (hx : x.Pairwise (· < ·)) (hy : y.Pairwise (· < ·)) (h : ∀ a ∈ x, a ∈ y) (hl : y.length ≤ x.length) : x = y := by
  have nx : x.Nodup := hx.imp fun {a b} h => Nat.ne_of_lt h
  have ny : y.Nodup := hy.imp fun {a b} h => Nat.ne_of_lt h
  refine up_eq hx hy fun a => ⟨h a, fun ha => ?_⟩
  by_cases hax : a ∈ x
  · exact hax
  · exfalso
    have h1 : x.length ≤ (y.erase a).length := List.Nodup.length_le_of_subset nx fun b hb => by
      rw [List.Nodup.mem_erase_iff ny]
      exact ⟨fun e => hax (by rw [← e]; exact hb), h b hb⟩
    rw [List.length_erase_of_mem ha] at h1
    have := List.length_pos_of_mem ha
    omega
theorem any_flat {α β : Type} (f : α → List β) (p : β → Bool) (xs : List α) : (xs.flatMap f).any p = xs.any fun x => (f x).any p := by
  induction xs with
  | nil => rfl
  | cons x r ih => simp [ih]
theorem all_flat {α β : Type} (f : α → List β) (p : β → Bool) (xs : List α) : (xs.flatMap f).all p = xs.all fun x => (f x).all p := by
  induction xs with
  | nil => rfl
  | cons x r ih => simp [ih]
theorem flat_bl {α : Type} (f : α → List Bool) (xs : List α) : (xs.flatMap fun x => (f x).map D.bl) = (xs.flatMap f).map D.bl := by
  induction xs with
  | nil => rfl
  | cons x r ih => simp [ih]
theorem flat_len {α β : Type} (f : α → List β) (xs : List α) (k : Nat) (h : ∀ x ∈ xs, (f x).length ≤ k) : (xs.flatMap f).length ≤ xs.length * k := by
  induction xs with
  | nil => simp
  | cons x r ih =>
    have h1 := h x List.mem_cons_self
    have h2 := ih fun y hy => h y (List.mem_cons_of_mem _ hy)
    simp only [List.flatMap_cons, List.length_append, List.length_cons, Nat.succ_mul]
    omega
theorem foldl_filter {α β : Type} (p : α → Bool) (f : α → β) : ∀ (xs : List α) (acc : List β), xs.foldl (fun s x => if p x = true then s ++ [f x] else s) acc = acc ++ (xs.filter p).map f
  | [], acc => by simp
  | x :: r, acc => by
    rw [List.foldl_cons, foldl_filter p f r]
    cases h : p x <;> simp [h]
def lens (l : List Cs) : List Int := l.map fun x => (x.length : Int)
/-- the greatest length -/
def mostL (l : List Cs) : Nat := (((maxL (lens l)).getD 0)).toNat
theorem mostL_spec {l : List Cs} (h : l ≠ []) : maxL (lens l) = some (mostL l : Int) ∧ (∃ x ∈ l, x.length = mostL l) ∧ ∀ x ∈ l, x.length ≤ mostL l := by
  have h0 : lens l ≠ [] := by unfold lens; simpa using h
  cases e : maxL (lens l) with
  | none =>
    exfalso
    cases q : lens l with
    | nil => exact h0 q
    | cons a r => rw [q] at e; cases e
  | some m =>
    obtain ⟨h1, h2⟩ := maxL_spec e
    obtain ⟨x, hx, hm⟩ := List.mem_map.mp h1
    have hm0 : 0 ≤ m := by omega
    have em : (mostL l : Int) = m := by
      unfold mostL; rw [e]; simp only [Option.getD_some]; omega
    refine ⟨by rw [em], ⟨x, hx, by omega⟩, fun y hy => ?_⟩
    have := h2 (y.length : Int) (List.mem_map.mpr ⟨y, hy, rfl⟩)
    omega
theorem sorted_texts {l : List Cs} (h : l.length < 64) : dSorted (.lst (l.map D.str)) = some (.lst ((sortS l).map .str)) := by
  have := dSorted_strs (fun x : Cs => x) l h
  simpa using this
theorem eq_signs (l m : Cs) : dEq (.lst (l.map fun n => D.str [n])) (.lst (m.map fun n => D.str [n])) = some (.bl (decide (l = m))) := by
  have h : ∀ l : Cs, isP (.lst (l.map fun n => D.str [n])) = true := fun l => by simp
  have h2 : dep (.lst (l.map fun n => D.str [n])) ≤ 1 := dep_lst (k := 0) fun x hx => by
    obtain ⟨n, _, rfl⟩ := List.mem_map.mp hx
    simp
  rw [dEq_of (h l) (h m) (.inl (by omega)), deq_lst]
  congr 2
  exact deqs_inj (fun n => D.str [n]) (fun a b => by simp) l m
theorem lcx_tail {τ υ : Type} (g : υ → τ) (t : τ → R Bool) (e : τ → R D) (xs : List υ) : lcx t e (xs.map g).tail = lcx (fun x => t (g x)) (fun x => e (g x)) xs.tail := by rw [← List.map_tail, lcx_map]
theorem rp_small : ∀ m : Nat, m < 10 → wt (.int (m : Int)) ≤ 1 ∧ fine (.int (m : Int)) = true := by
  have h : ∀ m : Nat, m < 10 → (toString (m : Int)).toList.length ≤ 1 ∧ (m : Int).natAbs.log2 < 1920 := by decide +kernel
  intro m hm
  simp only [wt, fine, decide_eq_true_eq]
  exact h m hm
theorem Rp.nat {m : Nat} (h : m < 10) : Rp 0 1 (.int (m : Int)) := ⟨by simp, (rp_small m h).2, by simp, (rp_small m h).1⟩
theorem names_small {ps : Ps} (g : Good ps) {a : Nat} (h : a ∈ names ps) : a < 0x110000 := by
  obtain ⟨p, hp, rfl⟩ := mem_names h
  have : ∀ c ∈ abc, c < 0x110000 := by decide
  exact this _ (g.ltr p hp)
theorem Rp.lot {ps : Ps} (g : Good ps) {x : Cs} (hx : x.Sublist (ord ps)) : Rp 0 62 (.str x) := Rp.str (m := 6) (fun c hc => names_small g (lot_mem hx hc)) (lot_len g hx)
theorem Rp.lots {ps : Ps} (g : Good ps) {l : List Cs} (h : ∀ x ∈ l, x.Sublist (ord ps)) (hl : l.length ≤ 64) : Rp 1 5000 (.tup (l.map .str)) :=
  (Rp.tup (k := 0) (n := 62) (m := 64) (fun d hd => by
    obtain ⟨x, hx, rfl⟩ := List.mem_map.mp hd
    exact Rp.lot g (h x hx)) (by simpa using hl)).mono (by omega) (by omega)
theorem lotsN_nodup {ls : Cs} : ls.Nodup → (lotsN ls).Nodup := by
  refine snoc_ind (P := fun ls => ls.Nodup → (lotsN ls).Nodup) (fun _ => by simp [lotsN]) (fun ls s ih h => ?_) ls
  have h' := List.nodup_append.mp h
  rw [lotsN_snoc, List.nodup_append]
  refine ⟨ih h'.1, ?_, ?_⟩
  · rw [List.nodup_iff_pairwise_ne, List.pairwise_map]
    have := ih h'.1
    rw [List.nodup_iff_pairwise_ne] at this
    exact this.imp fun {a b} hne e => hne (List.append_cancel_right e)
  · intro x hx y hy e
    obtain ⟨z, hz, rfl⟩ := List.mem_map.mp hy
    have : s ∈ ls := ((mem_lotsN ls).mp hx).subset (by rw [e]; simp)
    exact h'.2.2 s this s (by simp) rfl
theorem forL_some {τ : Type} {t : Tg} {body : M Fl} (g : τ → D) {ρ : En} (f : τ → Option D) : ∀ {xs : List τ}, (∀ x ∈ xs, (∃ d ρ', f x = some d ∧ turn t body (g x) ρ = .ok (.rt d) ρ') ∨ (f x = none ∧ turn t body (g x) ρ = .ok .nx ρ)) → (∃ d ρ', xs.findSome? f = some d ∧ forL t body (xs.map g) ρ = .ok (.rt d) ρ') ∨ (xs.findSome? f = none ∧ forL t body (xs.map g) ρ = .ok .nx ρ)
  | [], _ => .inr ⟨rfl, rfl⟩
  | x :: r, h => by
    rcases h x List.mem_cons_self with ⟨d, ρ', h1, h2⟩ | ⟨h1, h2⟩
    · exact .inl ⟨d, ρ', by simp [h1], by rw [List.map_cons, forL_cons_rt h2]⟩
    · rw [List.map_cons, forL_cons_nx h2, List.findSome?_cons, h1]
      exact forL_some g f fun y hy => h y (List.mem_cons_of_mem _ hy)
theorem dRng2_1 {n : Nat} (h : n ≤ 1000000) : dRng2 [.int 1, .int ((n : Int) + 1)] = some ((List.range n).map fun (i : Nat) => D.int ((i + 1 : Nat) : Int)) := by
  have e : ((n : Int) + 1 - 1).toNat = n := by omega
  show (if ((n : Int) + 1 - 1).toNat ≤ sz ∧ -(2 ^ 62) ≤ (1 : Int) ∧ (1 : Int) < 2 ^ 62 ∧ -(2 ^ 62) ≤ (n : Int) + 1 ∧ (n : Int) + 1 < 2 ^ 62 then some (rng 1 ((n : Int) + 1 - 1).toNat) else none) = _
  rw [e, if_pos ⟨by rw [sz_val]; omega, by decide, by decide, by omega, by omega⟩]
  unfold rng
  congr 2
  funext i
  congr 1
  omega
theorem in_texts (a : Cs) (l : List Cs) : dIn (.str a) (.lst (l.map D.str)) = some (.bl (decide (a ∈ l))) := by
  have := dIn_strs (fun x : Cs => x) a l
  simpa using this
theorem notin_texts (a : Cs) (l : List Cs) : dNotIn (.str a) (.lst (l.map D.str)) = some (.bl (!decide (a ∈ l))) := by
  have := dNotIn_strs (fun x : Cs => x) a l
  simpa using this
theorem ne_texts_self (l : List Cs) : dNe (.lst (l.map D.str)) (.lst (l.map D.str)) = some (.bl false) :=
  dNe_self (by simp) (Nat.le_trans (dep_lst (k := 0) fun x hx => by obtain ⟨y, _, rfl⟩ := List.mem_map.mp hx; simp) (by decide))
theorem ne_tup_self (l : List Cs) : dNe (.tup (l.map D.str)) (.tup (l.map D.str)) = some (.bl false) :=
  dNe_self (by simp) (Nat.le_trans (dep_tup (k := 0) fun x hx => by obtain ⟨y, _, rfl⟩ := List.mem_map.mp hx; simp) (by decide))
theorem forL_skip {t : Tg} {body : M Fl} {ρ : En} : ∀ {ds es : List D}, (∀ d ∈ ds, turn t body d ρ = .ok .nx ρ) → forL t body (ds ++ es) ρ = forL t body es ρ
  | [], es, _ => rfl
  | d :: r, es, h => by
    rw [List.cons_append, forL_cons_nx (h d List.mem_cons_self)]
    exact forL_skip fun e he => h e (List.mem_cons_of_mem _ he)
/-- a loop over 0, 1, .. that returns at K -/
theorem forL_upto {t : Tg} {body : M Fl} {ρ ρ' : En} {g : Nat → D} {d : D} {K n : Nat} (hK : K < n) (h1 : ∀ i < K, turn t body (g i) ρ = .ok .nx ρ) (h2 : turn t body (g K) ρ = .ok (.rt d) ρ') : forL t body ((List.range n).map g) ρ = .ok (.rt d) ρ' := by
  obtain ⟨m, rfl⟩ : ∃ m, n = K + (m + 1) := ⟨n - K - 1, by omega⟩
  rw [List.range_add, List.map_append, forL_skip (fun d hd => by
    obtain ⟨i, hi, rfl⟩ := List.mem_map.mp hd
    exact h1 i (List.mem_range.mp hi))]
  rw [List.range_succ_eq_map, List.map_cons, List.map_cons, forL_cons_rt]
  simpa using h2
theorem min_ex {P : Nat → Prop} (h : ∃ n, P n) : ∃ n, P n ∧ ∀ k < n, ¬ P k := by
  obtain ⟨n, hn⟩ := h
  induction n using Nat.strongRecOn with
  | ind n ih =>
    by_cases q : ∃ k < n, P k
    · obtain ⟨k, hk, pk⟩ := q
      exact ih k hk pk
    · exact ⟨n, hn, fun k hk pk => q ⟨k, hk, pk⟩⟩
def figsOf (ps : Ps) : Cs := figs8.filter fun f => ps.any fun p => decide (f ∈ p.2)
/-! base3 -/
/-! ### at most twenty lots none of which lies in another one -/
def chainT : List Nat := [0, 0, 1, 0, 2, 2, 1, 0, 3, 3, 4, 3, 5, 2, 1, 0, 6, 6, 7, 6, 8, 8, 7, 6, 9, 9, 4, 3, 5, 2, 1, 0, 10, 10, 11, 10, 12, 12, 11, 10, 13, 13, 14, 13, 15, 12, 11, 10, 16, 16, 17, 16, 18, 8, 7, 6, 19, 9, 4, 3, 5, 2, 1, 0]
theorem chain_ok : ∀ u < 64, ∀ v < 64, chainT.getD u 0 = chainT.getD v 0 → u &&& v = u ∨ u &&& v = v := by decide +kernel
theorem chain_20 : ∀ u < 64, chainT.getD u 0 < 20 := by decide +kernel
def msk (x : Cs) : Cs → Nat
  | [] => 0
  | a :: r => (if a ∈ x then 1 else 0) + 2 * msk x r
theorem msk_lt (x : Cs) : ∀ ls : Cs, msk x ls < 2 ^ ls.length
  | [] => by simp [msk]
  | a :: r => by
    have := msk_lt x r
    simp only [msk, List.length_cons, Nat.pow_succ]
    split <;> omega
theorem msk_bit (x : Cs) : ∀ (ls : Cs) (i : Nat) (a : Nat), ls[i]? = some a → (msk x ls).testBit i = decide (a ∈ x)
  | [], i, a, h => by simp at h
  | b :: r, 0, a, h => by
    simp at h
    subst h
    rw [Nat.testBit_zero]
    simp only [msk]
    by_cases hb : b ∈ x
    · simp [hb]
    · simp [hb]
  | b :: r, i + 1, a, h => by
    rw [Nat.testBit_succ]
    have e : msk x (b :: r) / 2 = msk x r := by
      simp only [msk]
      split <;> omega
    rw [e]
    exact msk_bit x r i a (by simpa using h)
theorem msk_sub {x y ls : Cs} (h : msk x ls &&& msk y ls = msk x ls) : ∀ a ∈ ls, a ∈ x → a ∈ y := fun a ha hx => by
  obtain ⟨i, hi⟩ := List.mem_iff_getElem?.mp ha
  have h1 := msk_bit x ls i a hi
  have h2 := msk_bit y ls i a hi
  have h3 := congrArg (fun n => Nat.testBit n i) h
  simp only [Nat.testBit_and, h1, h2] at h3
  rw [decide_eq_true hx] at h3
  simpa using h3
theorem chain_bound {ls : Cs} (hls : ls.length ≤ 6) {l : List Cs} (nd : l.Nodup) (hs : ∀ x ∈ l, x.Sublist ls) (ha : ∀ x ∈ l, ∀ y ∈ l, (∀ a ∈ x, a ∈ y) → x = y) : l.length ≤ 20 := by
  have lt : ∀ x, msk x ls < 64 := fun x => Nat.lt_of_lt_of_le (msk_lt x ls) (Nat.le_trans (Nat.pow_le_pow_right (by decide) hls) (by decide))
  have inj : ∀ x ∈ l, ∀ y ∈ l, chainT.getD (msk x ls) 0 = chainT.getD (msk y ls) 0 → x = y := fun x hx y hy h => by
    rcases chain_ok _ (lt x) _ (lt y) h with q | q
    · exact ha x hx y hy fun a hax => msk_sub q a ((hs x hx).subset hax) hax
    · rw [Nat.and_comm] at q
      exact (ha y hy x hx fun a hay => msk_sub q a ((hs y hy).subset hay) hay).symm
  have nd2 : (l.map fun x => chainT.getD (msk x ls) 0).Nodup := by
    rw [List.nodup_iff_pairwise_ne] at nd ⊢ <;> skip
    rw [List.pairwise_map]
    refine List.Pairwise.imp_of_mem ?_ nd
    intro a b ha' hb hne e
    exact hne (inj a ha' b hb e)
  have := List.Nodup.length_le_of_subset nd2 (l₂ := List.range 20) fun n hn => by
    obtain ⟨x, _, rfl⟩ := List.mem_map.mp hn
    exact List.mem_range.mpr (chain_20 _ (lt x))
  simpa using this
theorem twice (n : Int) : dMul (.lst [.int n]) (.int 2) = some (.lst [.int n, .int n]) := by
  have : (2 : Int).toNat = 2 := rfl
  simp [dMul, this, List.replicate]
/-! base4 -/
/-! ### rows -/
/-- the looks of a sign -/
def lkOf (ps : Ps) (a : Nat) : Cs := match ps.find? (fun p => p.1 == a) with
  | some p => p.2
  | none => []
theorem lkOf_of {ps : Ps} (nd : (ps.map (·.1)).Nodup) {p : Nat × Cs} (hp : p ∈ ps) : lkOf ps p.1 = p.2 := by
  unfold lkOf; rw [find_name nd hp]
def RowOk (ps : Ps) (r : Cs) : Prop := ∀ a ∈ r, a ∈ names ps
/-- two rows are mixed -/
def rmix (ps : Ps) (r s : Cs) : Bool := (r.zip s).all fun p => adj ps p.1 p.2
theorem rmix_snoc (ps : Ps) {r s : Cs} (h : r.length = s.length) (a b : Nat) : rmix ps (r ++ [a]) (s ++ [b]) = (rmix ps r s && adj ps a b) := by
  unfold rmix
  rw [List.zip_append h]
  simp
theorem range_zip {β : Type} (F : Nat → Nat → β) {r s : Cs} (h : r.length = s.length) : ((List.range r.length).map fun k => F (r.getD k 0) (s.getD k 0)) = (r.zip s).map fun p => F p.1 p.2 := by
  apply List.ext_getElem
  · simp [h]
  · intro i h1 h2
    have hr : i < r.length := by simpa using h1
    have hs : i < s.length := by omega
    simp [hr, hs]
theorem adj_iff {ps : Ps} (g : Good ps) {a b : Nat} (ha : a ∈ names ps) (hb : b ∈ names ps) : adj ps a b = true ↔ ∃ f, f ∈ lkOf ps a ∧ f ∈ lkOf ps b := by
  obtain ⟨p, hp, rfl⟩ := mem_names ha
  obtain ⟨q, hq, rfl⟩ := mem_names hb
  rw [adj_of g.nd hp hq, lkOf_of g.nd hp, lkOf_of g.nd hq]
  simp [mix]
/-- a text with one more sign, each of some -/
def grow (l b : Cs) : List Cs := l.map fun f => b ++ [f]
@[simp] theorem grow_len (l b : Cs) : (grow l b).length = l.length := by simp [grow]
theorem mem_grow {l b x : Cs} : x ∈ grow l b ↔ ∃ f ∈ l, b ++ [f] = x := by simp [grow]
/-- as what a row can come out -/
def outs (ps : Ps) (r : Cs) : List Cs := r.foldl (fun acc a => acc.flatMap (grow (lkOf ps a))) [[]]
theorem outs_snoc (ps : Ps) (r : Cs) (a : Nat) : outs ps (r ++ [a]) = (outs ps r).flatMap (grow (lkOf ps a)) := by
  unfold outs; rw [List.foldl_append]; rfl
theorem outs_meet {ps : Ps} (g : Good ps) : ∀ (r s : Cs), r.length = s.length → RowOk ps r → RowOk ps s → ((∃ x, x ∈ outs ps r ∧ x ∈ outs ps s) ↔ rmix ps r s = true) := by
  intro r
  refine snoc_ind (P := fun r => ∀ s : Cs, r.length = s.length → RowOk ps r → RowOk ps s → ((∃ x, x ∈ outs ps r ∧ x ∈ outs ps s) ↔ rmix ps r s = true)) ?_ ?_ r
  · intro s h _ _
    have : s = [] := List.length_eq_zero_iff.mp (by simpa using h.symm)
    subst this
    simp [outs, rmix]
  · intro r a ih s h hr hs
    have hne : s ≠ [] := by intro e; rw [e] at h; simp at h
    obtain ⟨t, b, rfl⟩ : ∃ t b, s = t ++ [b] := ⟨s.dropLast, s.getLast hne, (List.dropLast_concat_getLast hne).symm⟩
    have hl : r.length = t.length := by simpa using h
    have ha : a ∈ names ps := hr a (by simp)
    have hb : b ∈ names ps := hs b (by simp)
    rw [rmix_snoc ps hl, Bool.and_eq_true, ← ih t hl (fun x hx => hr x (by simp [hx])) (fun x hx => hs x (by simp [hx])), adj_iff g ha hb, outs_snoc, outs_snoc]
    simp only [List.mem_flatMap, mem_grow]
    constructor
    · rintro ⟨x, ⟨y, hy, f, hf, rfl⟩, ⟨z, hz, f', hf', e⟩⟩
      obtain ⟨e1, e2⟩ := List.append_inj' e rfl
      subst e1
      have e2 : f' = f := by simpa using e2
      subst e2
      exact ⟨⟨_, hy, hz⟩, _, hf, hf'⟩
    · rintro ⟨⟨x, h1, h2⟩, f, h3, h4⟩
      exact ⟨x ++ [f], ⟨x, h1, f, h3, rfl⟩, x, h2, f, h4, rfl⟩
def prod (l : List Nat) : Nat := l.foldl (· * ·) 1
theorem prod_snoc (l : List Nat) (n : Nat) : prod (l ++ [n]) = prod l * n := by unfold prod; rw [List.foldl_append]; rfl
theorem flat_const {α β : Type} (f : α → List β) (k : Nat) : ∀ (xs : List α), (∀ x ∈ xs, (f x).length = k) → (xs.flatMap f).length = xs.length * k
  | [], _ => by simp
  | x :: r, h => by
    rw [List.flatMap_cons, List.length_append, h x List.mem_cons_self, flat_const f k r fun y hy => h y (List.mem_cons_of_mem _ hy), List.length_cons, Nat.succ_mul]
    omega
theorem outs_len (ps : Ps) (r : Cs) : (outs ps r).length = prod (r.map fun a => (lkOf ps a).length) := by
  refine snoc_ind (P := fun r => (outs ps r).length = prod (r.map fun a => (lkOf ps a).length)) rfl (fun r a ih => ?_) r
  rw [outs_snoc, flat_const _ (lkOf ps a).length _ (fun x _ => by simp), List.map_append, List.map_cons, List.map_nil, prod_snoc, ih]
theorem prod_le {k : Nat} (hk : 1 ≤ k) : ∀ (l : List Nat), (∀ x ∈ l, x ≤ k) → prod l ≤ k ^ l.length := by
  intro l
  refine snoc_ind (P := fun l => (∀ x ∈ l, x ≤ k) → prod l ≤ k ^ l.length) (fun _ => by simp [prod]) (fun l a ih h => ?_) l
  rw [prod_snoc, List.length_append, List.length_singleton, Nat.pow_succ]
  exact Nat.mul_le_mul (ih fun x hx => h x (by simp [hx])) (h a (by simp))
/-- all rows of a length -/
def rowsN (ps : Ps) : Nat → List Cs
  | 0 => [[]]
  | n + 1 => (rowsN ps n).flatMap (grow (names ps))
theorem rowsN_len (ps : Ps) : ∀ n, (rowsN ps n).length = ps.length ^ n
  | 0 => rfl
  | n + 1 => by
    rw [rowsN, flat_const _ ps.length _ (fun x _ => by simp [names]), rowsN_len ps n, Nat.pow_succ]
theorem mem_rowsN {ps : Ps} : ∀ (n : Nat) {x : Cs}, x ∈ rowsN ps n → x.length = n ∧ RowOk ps x
  | 0, x, h => by
    have : x = [] := by simpa [rowsN] using h
    subst this
    exact ⟨rfl, fun _ h => nomatch h⟩
  | n + 1, x, h => by
    simp only [rowsN, List.mem_flatMap, mem_grow] at h
    obtain ⟨b, hb, a, ha, rfl⟩ := h
    obtain ⟨h1, h2⟩ := mem_rowsN n hb
    refine ⟨by simp [h1], fun c hc => ?_⟩
    rcases List.mem_append.mp hc with hc | hc
    · exact h2 c hc
    · rw [List.mem_singleton.mp hc]; exact ha
theorem filter_flat {α β : Type} (f : α → List β) (p : β → Bool) (xs : List α) : (xs.flatMap f).filter p = xs.flatMap fun x => (f x).filter p := by
  induction xs with
  | nil => rfl
  | cons x r ih => simp [ih]
theorem ngh_len {ps : Ps} (g : Good ps) {a : Nat} (ha : a ∈ names ps) : ((names ps).filter fun b => adj ps a b).length = (ngh ps a).length := by
  obtain ⟨p, hp, rfl⟩ := mem_names ha
  rw [ngh_of g.nd hp, List.length_map]
  unfold names
  rw [List.filter_map, List.length_map]
  congr 1
  apply List.filter_congr
  intro q hq
  simp only [Function.comp]
  exact adj_of g.nd hp hq
theorem conf_count {ps : Ps} (g : Good ps) (r : Cs) : RowOk ps r → ((rowsN ps r.length).filter fun s => rmix ps r s).length = prod (r.map fun a => (ngh ps a).length) := by
  refine snoc_ind (P := fun r => RowOk ps r → ((rowsN ps r.length).filter fun s => rmix ps r s).length = prod (r.map fun a => (ngh ps a).length)) (fun _ => rfl) (fun r a ih h => ?_) r
  have ih := ih fun x hx => h x (by simp [hx])
  have ha : a ∈ names ps := h a (by simp)
  rw [List.length_append, List.length_singleton, rowsN, filter_flat, List.map_append, List.map_cons, List.map_nil, prod_snoc, ← ih, ← ngh_len g ha]
  have key : ∀ (xs : List Cs), (∀ x ∈ xs, x.length = r.length) → (xs.flatMap fun b => (grow (names ps) b).filter fun s => rmix ps (r ++ [a]) s).length = (xs.filter fun s => rmix ps r s).length * ((names ps).filter fun b => adj ps a b).length := by
    intro xs
    induction xs with
    | nil => intro _; simp
    | cons x t iht =>
      intro hx
      rw [List.flatMap_cons, List.length_append, iht fun y hy => hx y (List.mem_cons_of_mem _ hy), grow, List.filter_map, List.length_map]
      have e : ((fun s => rmix ps (r ++ [a]) s) ∘ fun c => x ++ [c]) = fun c => rmix ps r x && adj ps a c := by
        funext c
        exact rmix_snoc ps (hx x List.mem_cons_self).symm a c
      rw [e, List.filter_cons]
      cases rmix ps r x with
      | true => simp [Nat.succ_mul]; omega
      | false => simp
  exact key _ fun x hx => (mem_rowsN _ hx).1
/-- a loop over 0, 1, .. that returns at the first place that is not right -/
theorem forL_scan {t : Tg} {body : M Fl} {ρ : En} {g : Nat → D} {d : D} (f : Nat → Bool) : ∀ (n a : Nat), (∀ k, a ≤ k → k < a + n → (∀ i, a ≤ i → i < k → f i = true) → (f k = true → turn t body (g k) ρ = .ok .nx ρ) ∧ (f k = false → ∃ ρ', turn t body (g k) ρ = .ok (.rt d) ρ')) →
    ((∀ k, a ≤ k → k < a + n → f k = true) ∧ forL t body ((List.range' a n).map g) ρ = .ok .nx ρ) ∨ ((∃ k, a ≤ k ∧ k < a + n ∧ f k = false) ∧ ∃ ρ', forL t body ((List.range' a n).map g) ρ = .ok (.rt d) ρ')
  | 0, a, _ => .inl ⟨fun k h1 h2 => by omega, rfl⟩
  | n + 1, a, h => by
    rw [List.range'_succ, List.map_cons]
    have h0 := h a (by omega) (by omega) (fun i h1 h2 => by omega)
    cases e : f a with
    | false =>
      obtain ⟨ρ', q⟩ := h0.2 e
      exact .inr ⟨⟨a, by omega, by omega, e⟩, ρ', by rw [forL_cons_rt q]⟩
    | true =>
      rw [forL_cons_nx (h0.1 e)]
      rcases forL_scan f n (a + 1) (fun k h1 h2 h3 => h k (by omega) (by omega) fun i h4 h5 => by
        by_cases hi : i = a
        · rw [hi]; exact e
        · exact h3 i (by omega) h5) with ⟨q1, q2⟩ | ⟨⟨k, q1, q2, q3⟩, q4⟩
      · refine .inl ⟨fun k h1 h2 => ?_, q2⟩
        by_cases hk : k = a
        · rw [hk]; exact e
        · exact q1 k (by omega) (by omega)
      · exact .inr ⟨⟨k, by omega, by omega, q3⟩, q4⟩
theorem forL_scan0 {t : Tg} {body : M Fl} {ρ : En} {g : Nat → D} {d : D} (f : Nat → Bool) (n : Nat) (h : ∀ k, k < n → (∀ i, i < k → f i = true) → (f k = true → turn t body (g k) ρ = .ok .nx ρ) ∧ (f k = false → ∃ ρ', turn t body (g k) ρ = .ok (.rt d) ρ')) :
    ((List.range n).all f = true ∧ forL t body ((List.range n).map g) ρ = .ok .nx ρ) ∨ ((List.range n).all f = false ∧ ∃ ρ', forL t body ((List.range n).map g) ρ = .ok (.rt d) ρ') := by
  rcases forL_scan (t := t) (body := body) (ρ := ρ) (g := g) (d := d) f n 0 (fun k _ h2 h3 => h k (by omega) fun i hi => h3 i (by omega) hi) with ⟨q1, q2⟩ | ⟨⟨k, q1, q2, q3⟩, q4⟩
  · rw [← List.range_eq_range'] at q2
    exact .inl ⟨by simpa using fun k hk => q1 k (by omega) (by omega), q2⟩
  · rw [← List.range_eq_range'] at q4
    refine .inr ⟨?_, q4⟩
    rw [List.all_eq_false]
    exact ⟨k, List.mem_range.mpr (by omega), by simp [q3]⟩
/-- a row can come out as a string -/
def canC (ps : Ps) (r s : Cs) : Bool := (r.zip s).all fun p => decide (p.2 ∈ lkOf ps p.1)
theorem can_mix {ps : Ps} (g : Good ps) : ∀ {r s x : Cs}, RowOk ps r → RowOk ps s → r.length = x.length → s.length = x.length → canC ps r x = true → canC ps s x = true → rmix ps r s = true
  | [], [], _, _, _, _, _, _, _ => rfl
  | [], _ :: _, [], _, _, _, h, _, _ => by simp at h
  | _ :: _, [], [], _, _, h, _, _, _ => by simp at h
  | a :: r, b :: s, c :: x, hr, hs, h1, h2, q1, q2 => by
    simp only [canC, List.zip_cons_cons, List.all_cons, Bool.and_eq_true, decide_eq_true_eq] at q1 q2
    have ih := can_mix g (r := r) (s := s) (x := x) (fun y hy => hr y (by simp [hy])) (fun y hy => hs y (by simp [hy])) (by simpa using h1) (by simpa using h2) q1.2 q2.2
    unfold rmix at ih ⊢
    simp only [List.zip_cons_cons, List.all_cons, Bool.and_eq_true]
    exact ⟨(adj_iff g (hr a (by simp)) (hs b (by simp))).mpr ⟨c, q1.1, q2.1⟩, ih⟩
theorem lkOf_le {ps : Ps} (g : Good ps) (a : Nat) : (lkOf ps a).length ≤ 8 := by
  unfold lkOf
  split
  · rename_i p hp
    exact (g.lks p (List.mem_of_find?_eq_some hp)).len
  · simp
theorem head_of {α : Type} {l : List α} (h : l ≠ []) : ∃ a, l[0]? = some a ∧ a ∈ l := by
  cases l with
  | nil => exact absurd rfl h
  | cons a t => exact ⟨a, rfl, by simp⟩
theorem ne_tup {l : List Cs} (h : l ≠ []) : dEq (.tup (l.map .str)) (.tup []) = some (.bl false) := by
  rw [dEq_of (by simp) (by simp) (.inr (by decide))]
  cases l with
  | nil => exact absurd rfl h
  | cons a t => rfl
theorem rp_small2 : ∀ m : Nat, m < 1000 → wt (.int (m : Int)) ≤ 3 ∧ fine (.int (m : Int)) = true := by
  have h : ∀ m : Nat, m < 1000 → (toString (m : Int)).toList.length ≤ 3 ∧ (m : Int).natAbs.log2 < 1920 := by decide +kernel
  intro m hm
  simp only [wt, fine, decide_eq_true_eq]
  exact h m hm
theorem Rp.nat3 {m : Nat} (h : m < 1000) : Rp 0 3 (.int (m : Int)) := ⟨by simp, (rp_small2 m h).2, by simp, (rp_small2 m h).1⟩
theorem rep_ii {m : Nat} (h : m < 1000) : ∃ s, dRepr (.lst [.int (m : Int), .int (m : Int)]) = some (.str s) := by
  have h1 := Rp.nat3 h
  have := Rp.lst (k := 0) (n := 3) (m := 2) (xs := [.int (m : Int), .int (m : Int)]) (by simp [h1]) (by simp)
  exact ⟨_, this.rep (by decide) (by decide)⟩
theorem rep_bb (b : Bool) : ∃ s, dRepr (.lst [.bl b, .bl b]) = some (.str s) := by
  have h1 := Rp.bl b
  have := Rp.lst (k := 0) (n := 5) (m := 2) (xs := [.bl b, .bl b]) (by simp [h1]) (by simp)
  exact ⟨_, this.rep (by decide) (by decide)⟩
def nearB (i j : Nat) : Bool := decide ((i + 5 - j) % 5 = 0 ∨ (i + 5 - j) % 5 = 1 ∨ (i + 5 - j) % 5 = 4)
theorem findSome_map {α β γ : Type} (f : α → Option β) (h : β → γ) : ∀ xs : List α, xs.findSome? (fun x => (f x).map h) = (xs.findSome? f).map h
  | [] => rfl
  | x :: r => by
    rw [List.findSome?_cons, List.findSome?_cons]
    cases f x with
    | none => exact findSome_map f h r
    | some b => rfl
/-! f_jar -/
theorem jar_turn (c : Int) (x : Int) (A B : Sl) : turn (put 3) b0f_jar (.int x) [A, B, .fz (.int c), .un, .un, .un] = .ok .nx [A, B, .fz (.int ((c * 733 + x) % 1000000009)), .un, .un, .un] := by
  have e : dMul (.int c) (.int 733) = some (.int (c * 733)) := dMul_r (by decide)
  simp [b0f_jar, e]
theorem jar_loop (ns : List Int) (B : Sl) (c : Int) : ∃ c', forL (put 3) b0f_jar ((ns.map D.int).take 4) [.fz (.lst (ns.map .int)), B, .fz (.int c), .un, .un, .un] = .ok .nx [.fz (.lst (ns.map .int)), B, .fz (.int c'), .un, .un, .un] := by
  rw [← List.map_take]
  exact ⟨_, forL_fold (t := put 3) (body := b0f_jar) D.int (fun c => [.fz (.lst (ns.map .int)), B, .fz (.int c), .un, .un, .un]) (fun c x => (c * 733 + x) % 1000000009) (ns.take 4) c fun _ _ x _ => jar_turn _ x _ _⟩
theorem ev_jar {ns : List Int} {k : Nat} (hk : k < 5) : ∃ j, gf_jar [.lst (ns.map .int), .int (k : Int)] = .oko (encJ j) [] := by
  have m1 : dMul (.int 7369) (.int ((k : Int) + 5)) = some (.int (7369 * ((k : Int) + 5))) := dMul_l (by decide)
  have m2 : dMul (.int (7369 * ((k : Int) + 5))) (.int ((k : Int) + 2)) = some (.int (7369 * ((k : Int) + 5) * ((k : Int) + 2))) := dMul_r (by omega)
  have m3 : ∀ n : Int, dMul (.int 29) (.int n) = some (.int (29 * n)) := fun n => dMul_l (by decide)
  have m4 : ∀ c, dMul (.int c) (.int 8117) = some (.int (c * 8117)) := fun c => dMul_r (by decide)
  have m5 : ∀ c, dMul (.int c) (.int 64013) = some (.int (c * 64013)) := fun c => dMul_r (by decide)
  have m6 : ∀ c, dMul (.int 105019) (.int c) = some (.int (105019 * c)) := fun c => dMul_l (by decide)
  have m7 : dPow (.int 10) (.int 18) = some (.int 1000000000000000000) := by rfl
  obtain ⟨c', e1⟩ := jar_loop ns (.fz (.int (k : Int))) (7369 * ((k : Int) + 5) * ((k : Int) + 2) + 29 * (ns.length : Int))
  suffices h : ∃ a b : Int, gf_jar [.lst (ns.map .int), .int (k : Int)] = .oko (.lst [.int a, .int b, .int 0]) [] by
    obtain ⟨a, b, h⟩ := h
    exact ⟨⟨a, b, 0⟩, h⟩
  by_cases h : k < ns.length
  · have e2 : ns[k]? = some ns[k] := List.getElem?_eq_getElem h
    by_cases c1 : ns[k] < 0
    · simp [gf_jar, mf_jar, entry, enc, m1, m2, m3, m4, m5, m6, m7, l0f_jar, e1, h, e2, c1]
    · by_cases c2 : 1000000000000000000 ≤ ns[k]
      · simp [gf_jar, mf_jar, entry, enc, m1, m2, m3, m4, m5, m6, m7, l0f_jar, e1, h, e2, c1, c2]
      · simp [gf_jar, mf_jar, entry, enc, m1, m2, m3, m4, m5, m6, m7, l0f_jar, e1, h, e2, c1, c2]
  · simp [gf_jar, mf_jar, entry, enc, m1, m2, m3, m4, m5, m6, m7, l0f_jar, e1, h]
/-! f_check_line -/
@[simp] theorem ev_check_line (ps : Ps) : gf_check_line [LineD ps] = .ok .non [] := by
  simp [gf_check_line, mf_check_line, entry, enc, LineD, isiCls]
/-! f_lots_of -/
theorem lots_turn (A : Sl) (acc : List Cs) (s : Nat) (h1 : acc.length ≤ 1000) (h2 : ∀ l ∈ acc, l.length ≤ 1000) : turn (put 2) b0f_lots_of (.str [s]) [A, .fz (.lst (acc.map .str)), .un, .un] = .ok .nx [A, .fz (.lst ((acc ++ acc.map fun l => l ++ [s]).map .str)), .un, .un] := by
  have e := lcx_of1 (e := fun l : Cs => R.of (dAdd (.str l) (.str [s]))) (fun l => D.str (l ++ [s])) (xs := acc) fun l hl => by
    have : l.length + 1 ≤ 16777216 := by have := h2 l hl; omega
    simp [this]
  have h3 : acc.length + acc.length ≤ 16777216 := by omega
  simp [b0f_lots_of]
  simp at e
  rw [e]
  simp [h3, Function.comp_def]
theorem ev_lots_of {cs : Cs} (h6 : cs.length ≤ 6) : gf_lots_of [.str cs] = .ok (.lst ((lotsN (sortN cs)).map .str)) [] := by
  have e1 := forL_fold (t := put 2) (body := b0f_lots_of) (fun s : Nat => D.str [s]) (fun acc : List Cs => [.fz (.str cs), .fz (.lst (acc.map .str)), .un, .un]) (fun acc s => acc ++ acc.map fun l => l ++ [s]) (sortN cs) [[]] (by
    intro ys zs x e
    have hl : ys.length ≤ 6 := by
      have := congrArg List.length e
      simp at this; omega
    refine lots_turn _ _ _ ?_ fun l hl' => ?_
    · show (lotsN ys).length ≤ 1000
      rw [lotsN_length]
      exact Nat.le_trans (Nat.pow_le_pow_right (by decide) hl) (by decide)
    · have := ((mem_lotsN ys).mp hl').length_le; omega)
  have h64 : cs.length < 64 := by omega
  simp only [List.map_cons, List.map_nil] at e1
  simp [gf_lots_of, mf_lots_of, entry, enc, l0f_lots_of, h64, e1, lotsN]
/-! f_Line_letters -/
@[simp] theorem ev_letters {ps : Ps} (g : Good ps) : gf_Line_letters [LineD ps] = .ok (.str (ps.map (·.1))) [] := by
  simp [gf_Line_letters, mf_Line_letters, entry, enc, g.sz]
/-! f_is_apart -/
def isApart (ps : Ps) (x : Cs) : Bool := !(x.any fun a => (x.filter fun b => !decide (b = a)).any fun b => adj ps a b)
theorem ev_is_apart {ps : Ps} (g : Good ps) {x : Cs} (hx : x.Sublist (ord ps)) : gf_is_apart [TabD ps, .str x] = .ok (.bl (isApart ps x)) [] := by
  have e1 := lc2t_of (e := fun a : Nat => lcx (fun b => .ok (!decide (b = a))) (fun b : Nat => (R.of (dIx (TabD ps) (.str [a]))).bind fun t => R.of (dIn (.str [b]) t)) x) (fun a => ((x.filter fun b => !decide (b = a)).map fun b => adj ps a b).map D.bl) (xs := x) fun a ha => by
    rw [tab_ix g (lot_mem hx ha)]
    simp [adj, Function.comp_def]
  have hl := lot_len g hx
  have hz : (x.flatMap fun a => ((x.filter fun b => !decide (b = a)).map fun b => adj ps a b).map D.bl).length ≤ 16777216 := by
    have := flat_len (fun a => ((x.filter fun b => !decide (b = a)).map fun b => adj ps a b).map D.bl) x 6 fun a _ => by
      rw [List.length_map, List.length_map]
      exact Nat.le_trans (List.length_filter_le _ _) hl
    omega
  rw [flat_bl] at e1 hz
  have ha := dAny_map (fun b : Bool => b) (x.flatMap fun a => (x.filter fun b => !decide (b = a)).map fun b => adj ps a b)
  have hk : (!((x.flatMap fun a => (x.filter fun b => !decide (b = a)).map fun b => adj ps a b).any fun b => b)) = isApart ps x := by
    rw [any_flat]; simp only [isApart, List.any_map, Function.comp_def]
  simp [gf_is_apart, mf_is_apart, entry, enc]
  rw [e1, R.k_ok, if_pos hz, ha]
  simp [isApart]
/-! f_is_letter -/
@[simp] theorem ev_is_letter (n : Nat) : gf_is_letter [.str [n]] = .ok (.bl (decide (n ∈ abc))) [] := by
  have e : S_abcdefghijklmnopqrstuvwx = abc := rfl
  simp [gf_is_letter, mf_is_letter, entry, enc, e]
/-! f_sets_of -/
def setsN (ts : List Cs) (k : Nat) : List (List Cs) := ts.foldl (fun acc t => acc ++ (acc.filter fun l => decide (l.length < k)).map fun l => l ++ [t]) [[]]
def encT (l : List Cs) : D := .tup (l.map .str)
theorem setsN_snoc (ts : List Cs) (t : Cs) (k : Nat) : setsN (ts ++ [t]) k = setsN ts k ++ ((setsN ts k).filter fun l => decide (l.length < k)).map fun l => l ++ [t] := by
  unfold setsN; rw [List.foldl_append]; rfl
theorem setsN_len (ts : List Cs) (k : Nat) : (setsN ts k).length ≤ 2 ^ ts.length := by
  refine snoc_ind (P := fun ts => (setsN ts k).length ≤ 2 ^ ts.length) (Nat.le_refl _) (fun ts t ih => ?_) ts
  rw [setsN_snoc, List.length_append, List.length_map, List.length_append, List.length_singleton, Nat.pow_succ]
  have := List.length_filter_le (fun l : List Cs => decide (l.length < k)) (setsN ts k)
  omega
theorem mem_setsN {x : List Cs} (ts : List Cs) (k : Nat) : x ∈ setsN ts k ↔ x.Sublist ts ∧ x.length ≤ k := by
  revert x
  refine snoc_ind (P := fun ts => ∀ {x : List Cs}, x ∈ setsN ts k ↔ x.Sublist ts ∧ x.length ≤ k) (fun {x} => ?_) (fun ts t ih => ?_) ts
  · simp only [setsN, List.foldl_nil, List.mem_singleton, List.sublist_nil]
    constructor
    · rintro rfl; exact ⟨rfl, Nat.zero_le _⟩
    · exact fun h => h.1
  · intro x
    rw [setsN_snoc, List.mem_append, List.mem_map, sub_snoc, ih]
    constructor
    · rintro (h | ⟨y, h, rfl⟩)
      · exact ⟨.inl h.1, h.2⟩
      · obtain ⟨h1, h2⟩ := List.mem_filter.mp h
        have := of_decide_eq_true h2
        exact ⟨.inr ⟨y, (ih.mp h1).1, rfl⟩, by simp; omega⟩
    · rintro ⟨h | ⟨y, h, rfl⟩, hk⟩
      · exact .inl ⟨h, hk⟩
      · simp at hk
        exact .inr ⟨y, List.mem_filter.mpr ⟨ih.mpr ⟨h, by omega⟩, decide_eq_true (by omega)⟩, rfl⟩
theorem sets_turn (A : Sl) (acc : List (List Cs)) (k : Nat) (t : Cs) (h1 : acc.length ≤ 2000000) (h2 : ∀ l ∈ acc, l.length ≤ 1000) : turn (put 3) b0f_sets_of (.str t) [A, .fz (.int (k : Int)), .fz (.lst (acc.map encT)), .un, .un] = .ok .nx [A, .fz (.int (k : Int)), .fz (.lst ((acc ++ (acc.filter fun l => decide (l.length < k)).map fun l => l ++ [t]).map encT)), .un, .un] := by
  have e := lcx_of (t := fun l : List Cs => (R.of (dLen [encT l])).bind fun a => (R.of (dLt a (.int (k : Int)))).bind fun a => R.of (asB a)) (e := fun l : List Cs => (R.of (mkT [.str t])).bind fun q => R.of (dAdd (encT l) q)) (fun l => decide (l.length < k)) (fun l => encT (l ++ [t])) (xs := acc) (fun l _ => by simp [encT]) fun l hl _ => by
    have : l.length + 1 ≤ 16777216 := by have := h2 l hl; omega
    simp [encT, this]
  have h3 : acc.length + (acc.filter fun l => decide (l.length < k)).length ≤ 16777216 := by
    have := List.length_filter_le (fun l : List Cs => decide (l.length < k)) acc
    omega
  simp at e
  simp [b0f_sets_of]
  rw [e]
  simp [h3, Function.comp_def]
theorem ev_sets_of {ts : List Cs} (k : Nat) (h : ts.length ≤ 20) : gf_sets_of [.lst (ts.map .str), .int (k : Int)] = .ok (.lst (((setsN ts k).filter fun l => decide (l.length = k)).map encT)) [] := by
  have e1 := forL_fold (t := put 3) (body := b0f_sets_of) D.str (fun acc : List (List Cs) => [.fz (.lst (ts.map .str)), .fz (.int (k : Int)), .fz (.lst (acc.map encT)), .un, .un]) (fun acc t => acc ++ (acc.filter fun l => decide (l.length < k)).map fun l => l ++ [t]) ts [[]] (by
    intro ys zs x e
    have hl : ys.length ≤ 20 := by
      have := congrArg List.length e
      simp at this; omega
    refine sets_turn _ _ _ _ ?_ fun l hl' => ?_
    · have h1 := setsN_len ys k
      have h2 := Nat.pow_le_pow_right (n := 2) (by decide) hl
      have h3 : (2 : Nat) ^ 20 ≤ 2000000 := by decide
      exact Nat.le_trans h1 (Nat.le_trans h2 h3)
    · have := ((mem_setsN ys k).mp hl').1.length_le; omega)
  simp only [List.map_cons, List.map_nil] at e1
  have e0 : encT [] = .tup [] := rfl
  rw [e0] at e1
  have e2 := lcx_of (t := fun l : List Cs => (R.of (dLen [encT l])).bind fun a => (R.of (dEq a (.int (k : Int)))).bind fun a => R.of (asB a)) (e := fun l : List Cs => .ok (encT l)) (fun l => decide (l.length = k)) encT (xs := setsN ts k) (fun l _ => by simp [encT]) fun l hl _ => rfl
  simp [gf_sets_of, mf_sets_of, entry, enc, l0f_sets_of, e1]
  exact (by rw [show List.foldl (fun acc t => acc ++ List.map (fun l => l ++ [t]) (List.filter (fun l => decide (List.length l < k)) acc)) [[]] ts = setsN ts k from rfl, e2]; simp)
/-! f_is_knot -/
def isKnot (ps : Ps) (x : Cs) : Bool := x.all fun a => x.all fun b => adj ps a b
theorem ev_is_knot {ps : Ps} (g : Good ps) {x : Cs} (hx : x.Sublist (ord ps)) : gf_is_knot [TabD ps, .str x] = .ok (.bl (isKnot ps x)) [] := by
  have e1 := lc2t_of (e := fun a : Nat => lcx (fun _ => .ok true) (fun b : Nat => (R.of (dIx (TabD ps) (.str [a]))).bind fun t => R.of (dIn (.str [b]) t)) x) (fun a => (x.map fun b => adj ps a b).map D.bl) (xs := x) fun a ha => by
    rw [tab_ix g (lot_mem hx ha)]
    simp [adj, Function.comp_def]
  have hl := lot_len g hx
  have hz : (x.flatMap fun a => (x.map fun b => adj ps a b).map D.bl).length ≤ 16777216 := by
    have := flat_len (fun a => (x.map fun b => adj ps a b).map D.bl) x 6 fun a _ => by simpa using hl
    omega
  rw [flat_bl] at e1 hz
  have ha := dAll_map (fun b : Bool => b) (x.flatMap fun a => x.map fun b => adj ps a b)
  have hk : ((x.flatMap fun a => x.map fun b => adj ps a b).all fun b => b) = isKnot ps x := by
    rw [all_flat]; simp [isKnot, Function.comp_def]
  rw [hk] at ha
  simp [gf_is_knot, mf_is_knot, entry, enc]
  rw [e1, R.k_ok, if_pos hz, ha]
  simp
/-! f_near -/
def nearE (ps : Ps) (p : Nat × Cs) : DK × D := (.s [p.1], .lst ((ps.filter fun q => mix q p).map fun q => D.str [q.1]))
def NearD (ps : Ps) : D := .dct (ps.map (nearE ps))
theorem ev_near {ps : Ps} (g : Good ps) : gf_near [Lot ps] = .ok (NearD ps) [] := by
  have e1 := forL_fold (t := tgT 2 (tgC (put 2) (tgC (put 3) tgN))) (body := b0f_near) encP (fun s => [Sl.fz (Lot ps), .ow (.dct s), .un, .un, .un, .un]) (fun s p => s ++ [nearE ps p]) ps [] (by
    intro ys zs x e
    have hl : ys.length < 16777216 := by have := g.six; rw [e] at this; simp at this; omega
    rw [foldl_snoc]
    have hk : putK' (.s [x.1]) (nearE ps x).2 (ys.map (nearE ps)) = ys.map (nearE ps) ++ [nearE ps x] := putK_new fun kv hkv => by
      obtain ⟨y, hy, rfl⟩ := List.mem_map.mp hkv
      have := nd_app g.nd e y hy
      simpa [nearE] using this
    have hm : ∀ p q : Nat × Cs, (!(List.filter (fun c => decide (c ∈ q.2)) p.2).isEmpty) = mix p q := fun p q => by
      rw [mix, Bool.eq_iff_iff]; simp
    simp only [List.nil_append]
    simp [b0f_near, hl, hm]
    exact hk)
  have hz : ps.length ≤ 16777216 := g.sz
  rw [foldl_snoc] at e1
  simp [gf_near, mf_near, entry, enc, l0f_near, e1, hz, NearD]
theorem near_ix {ps : Ps} (g : Good ps) {a : Nat} (ha : a ∈ ps.map (·.1)) : dIx (NearD ps) (.str [a]) = some (.lst ((ngh ps a).map fun n => D.str [n])) := by
  obtain ⟨p, hp, rfl⟩ := mem_names ha
  simp only [NearD, dIx_dct, asK_str, Option.bind_some]
  have := lookK_map1 (fun p : Nat × Cs => p.1) (fun p => (nearE ps p).2) (xs := ps) g.nd hp
  rw [show ps.map (nearE ps) = ps.map (fun x => (DK.s [x.1], (nearE ps x).2)) from rfl, this, ngh_of g.nd hp]
  simp only [nearE, List.map_map]
  congr 2
  rw [show (fun q => mix q p) = fun q => mix p q from funext fun q => mix_comm q p]
  rfl
theorem in_near (ps : Ps) (a b : Nat) : dIn (.str [b]) (.lst ((ngh ps a).map fun n => D.str [n])) = some (.bl (adj ps a b)) := by
  rw [dIn_strs]
  congr 2
  rw [Bool.eq_iff_iff, adj, decide_eq_true_eq, decide_eq_true_eq]
  simp
/-! f_lots -/
theorem lotsL_turn (A : Sl) (acc : List Cs) (s : Nat) (h1 : acc.length ≤ 1000) (h2 : ∀ l ∈ acc, l.length ≤ 1000) : turn (put 2) b0f_lots (.str [s]) [A, .fz (.lst (acc.map .str)), .un, .un, .un] = .ok .nx [A, .fz (.lst ((acc ++ acc.map fun l => l ++ [s]).map .str)), .un, .un, .un] := by
  have e := lcx_of1 (e := fun l : Cs => R.of (dAdd (.str l) (.str [s]))) (fun l => D.str (l ++ [s])) (xs := acc) fun l hl => by
    have : l.length + 1 ≤ 16777216 := by have := h2 l hl; omega
    simp [this]
  have h3 : acc.length + acc.length ≤ 16777216 := by omega
  simp [b0f_lots]
  simp at e
  rw [e]
  simp [h3, Function.comp_def]
theorem ev_lots {ps : Ps} (g : Good ps) : gf_lots [Lot ps] = .ok (.lst ((lotsN (ord ps)).tail.map .str)) [] := by
  have e1 := forL_fold (t := put 2) (body := b0f_lots) (fun s : Nat => D.str [s]) (fun acc : List Cs => [.fz (Lot ps), .fz (.lst (acc.map .str)), .un, .un, .un]) (fun acc s => acc ++ acc.map fun l => l ++ [s]) (ord ps) [[]] (by
    intro ys zs x e
    have hl : ys.length ≤ 6 := by
      have := congrArg List.length e
      rw [ord_len] at this
      simp at this; have := g.six; omega
    refine lotsL_turn _ _ _ ?_ fun l hl' => ?_
    · show (lotsN ys).length ≤ 1000
      rw [lotsN_length]
      exact Nat.le_trans (Nat.pow_le_pow_right (by decide) hl) (by decide)
    · have := ((mem_lotsN ys).mp hl').length_le; omega)
  have h64 : ps.length < 64 := by have := g.six; omega
  have es := sorted_signs (c := names ps) (by simpa [names] using h64)
  simp only [names, List.map_map, Function.comp_def] at es
  simp only [List.map_cons, List.map_nil] at e1
  have e2 : (sortN (ps.map fun x => x.1)) = ord ps := rfl
  rw [e2] at es
  simp [gf_lots, mf_lots, entry, enc, l0f_lots, es, e1, lotsN]
/-! f_are_looks -/
theorem looks_up {l : Cs} (h : l.Pairwise (· < ·)) {k : Nat} (hk : k + 1 < l.length) : ([l[k]'(by omega)] : Cs) < [l[k + 1]] := by
  have := List.pairwise_iff_getElem.mp h k (k + 1) (by omega) hk (by omega)
  exact List.Lex.rel this
@[simp] theorem ev_are_looks {l : Cs} (h : Looks l) : gf_are_looks [.str l] = .ok (.bl true) [] := by
  have e : S_01234567 = figs8 := rfl
  have h0 := h.ne
  have h1 : ¬ ∃ x ∈ l, x ∉ figs8 := fun ⟨x, hx, hn⟩ => hn (h.fig x hx)
  have h8 := h.len
  have h2 : l.length - 1 ≤ 16777216 := by omega
  have hz : (l.length : Int) - 1 = ((l.length - 1 : Nat) : Int) := by
    have := List.length_pos_iff.mpr h0
    omega
  have hlt : ∀ k, k ∈ List.range (l.length - 1) → ((R.of ((l[k]?).map fun n => D.str [n])).bind fun x => (R.of ((l[k + 1]?).map fun n => D.str [n])).bind fun y => R.of (dLt x y)) = .ok (.bl true) := fun k hk => by
    have hk := List.mem_range.mp hk
    have e1 : l[k]? = some (l[k]'(by omega)) := List.getElem?_eq_getElem (by omega)
    have e2 : l[k + 1]? = some (l[k + 1]'(by omega)) := List.getElem?_eq_getElem (by omega)
    simp only [e1, e2, Option.map_some, R.of_some, R.bind_ok, dLt_str]
    rw [decide_eq_true (looks_up h.up (by omega))]
  simp [gf_are_looks, mf_are_looks, entry, enc, e, h0, h1, hz, h2]
  rw [lcx_of1 (fun _ => D.bl true) hlt]
  simp
/-! f_dip -/
theorem dipN_cast (j : J) {w : Nat} (h : 0 < w) : (dipN j w : Int) = if 0 < j.a then j.a % w else j.seed / 2048 % w := by
  unfold dipN
  split
  · exact Int.toNat_of_nonneg (Int.emod_nonneg _ (by omega))
  · exact Int.toNat_of_nonneg (Int.emod_nonneg _ (by omega))
theorem ev_dip' (j : J) (w : Nat) (h0 : 0 < w) (h : w < 18446744073709551616) : gf_dip [encJ j, .int (w : Int)] = .ok (.int (dipN j w)) [encJ (dipJ j w)] := by
  have h0' : (0 : Int) < w := by omega
  have hn : ¬ w = 0 := by omega
  have e1 : dFdv (.int j.a) (.int (w : Int)) = some (.int (j.a / w)) := dFdv_int h0' (by omega)
  have e2 : dMul (.int j.s) (.int 40692) = some (.int (j.s * 40692)) := dMul_r (by decide)
  have e3 : dMul (.int (j.t + 1)) (.int 52021) = some (.int ((j.t + 1) * 52021)) := dMul_r (by decide)
  have e4 : ∀ i, dFdv (.int i) (.int 2048) = some (.int (i / 2048)) := fun i => dFdv_int (by decide) (by decide)
  rw [dipN_cast j h0]
  unfold dipJ encJ
  by_cases ha : 0 < j.a
  · simp [gf_dip, mf_dip, entry, enc, ha, h0', hn, e1, atI, ixN]
  · simp [gf_dip, mf_dip, entry, enc, ha, h0', hn, e2, e3, e4, atI, ixN, J.seed]
@[simp] theorem ev_dip (j : J) (w : Int) (h0 : 0 < w) (h : w < 18446744073709551616) : gf_dip [encJ j, .int w] = .ok (.int (dipN j w.toNat)) [encJ (dipJ j w.toNat)] := by
  have := ev_dip' j w.toNat (by omega) (by omega)
  rwa [show (w.toNat : Int) = w by omega] at this
/-! f_is_cover -/
theorem notin_near (ps : Ps) (a b : Nat) : dNotIn (.str [b]) (.lst ((ngh ps a).map fun n => D.str [n])) = some (.bl (!adj ps a b)) := by
  rw [dNotIn_strs]
  congr 3
  rw [Bool.eq_iff_iff, adj, decide_eq_true_eq, decide_eq_true_eq]
  simp
theorem cov_in {ps : Ps} (g : Good ps) {x : Cs} (hx : x.Sublist (ord ps)) (hk : isKnot ps x = true) (A B : Sl) {a : Nat} (ha : a ∈ x) : turn (put 5) b0f_is_cover (.str [a]) [A, B, .fz (NearD ps), .fz (.lst ((lotsN (ord ps)).tail.map .str)), .fz (.str x), .un, .un] = .ok .nx [A, B, .fz (NearD ps), .fz (.lst ((lotsN (ord ps)).tail.map .str)), .fz (.str x), .un, .un] := by
  simp [b0f_is_cover, near_ix g (lot_mem hx ha), notin_near, -List.map_tail]
  simp only [isKnot, List.all_eq_true] at hk
  exact fun b hb => of_decide_eq_true (hk a ha b hb)
theorem cov_out {ps : Ps} (g : Good ps) {x : Cs} (hx : x ∈ (lotsN (ord ps)).tail) (hk : isKnot ps x = true) (A B : Sl) : turn (put 4) b2f_is_cover (.str x) [A, B, .fz (NearD ps), .fz (.lst ((lotsN (ord ps)).tail.map .str)), .un, .un, .un] = .ok .nx [A, B, .fz (NearD ps), .fz (.lst ((lotsN (ord ps)).tail.map .str)), .un, .un, .un] := by
  have e := forL_const (t := put 5) (body := b0f_is_cover) (fun a : Nat => D.str [a]) (xs := x) fun a ha => cov_in g (tail_lots hx) hk A B ha
  simp [b2f_is_cover, notin_texts, hx, l0f_is_cover, e, -List.map_tail]
/-! f_apart_lots -/
def lawApart (ps : Ps) (x : Cs) : Bool := x.all fun a => decide (x.filter (adj ps a) = [a])
theorem apart_turn {ps : Ps} (g : Good ps) {x : Cs} (hx : x.Sublist (ord ps)) (acc : List Cs) (h : acc.length < 1000) : turn (put 3) b0f_apart_lots (.str x) [.fz (Lot ps), .fz (NearD ps), .ow (.lst (acc.map .str)), .un, .un, .un, .un] = .ok .nx [.fz (Lot ps), .fz (NearD ps), .ow (.lst ((if lawApart ps x = true then acc ++ [x] else acc).map .str)), .un, .un, .un, .un] := by
  have h2 : acc.length < 16777216 := by omega
  have e1 : ∀ a ∈ x, ((lcx (fun b : Nat => (R.of (dIx (NearD ps) (.str [a]))).bind fun q => (R.of (dIn (.str [b]) q)).bind fun q => R.of (asB q)) (fun b : Nat => R.ok (D.str [b])) x).bind fun l => R.of (dEq (.lst l) (.lst [.str [a]]))) = .ok (.bl (decide (x.filter (adj ps a) = [a]))) := fun a ha => by
    rw [near_ix g (lot_mem hx ha)]
    simp only [R.of_some, R.bind_ok, in_near, asB_bl, lcx_ok]
    have := eq_signs (x.filter (adj ps a)) [a]
    simp only [List.map_cons, List.map_nil] at this
    rw [this]; rfl
  simp [b0f_apart_lots, h2]
  rw [lcx_of1 (fun a => D.bl (decide (x.filter (adj ps a) = [a]))) e1]
  cases hg : lawApart ps x with
  | true => simp; simpa [lawApart] using hg
  | false => simp; simpa [lawApart] using hg
def lawApartL (ps : Ps) : List Cs := (lotsN (ord ps)).tail.filter (lawApart ps)
theorem lot_up {ps : Ps} (g : Good ps) {x : Cs} (hx : x.Sublist (ord ps)) : x.Pairwise (· < ·) := (ord_up g).sublist hx
theorem ev_apart_lots {ps : Ps} (g : Good ps) : gf_apart_lots [Lot ps] = .ok (.lst ((sortS ((lawApartL ps).filter fun x => decide (x.length = mostL (lawApartL ps)))).map .str)) [] := by
  have e2 := forL_fold (t := put 3) (body := b0f_apart_lots) D.str (fun acc : List Cs => [.fz (Lot ps), .fz (NearD ps), .ow (.lst (acc.map .str)), .un, .un, .un, .un]) (fun acc x => if lawApart ps x = true then acc ++ [x] else acc) (lotsN (ord ps)).tail [] (by
    intro ys zs x e
    refine apart_turn g (tail_lots (mem_of_app e)) _ ?_
    have := foldl_filter (lawApart ps) (fun x : Cs => x) ys []
    rw [this]
    have h1 := List.length_filter_le (lawApart ps) ys
    have h2 := congrArg List.length e
    have h3 := lots63 g
    simp at h2 h3 ⊢
    omega)
  have e3 := foldl_filter (lawApart ps) (fun x : Cs => x) (lotsN (ord ps)).tail []
  rw [e3] at e2
  simp only [List.nil_append, List.map_id', List.map_nil] at e2
  have hl : (lawApartL ps).length < 64 := Nat.lt_of_le_of_lt (List.length_filter_le _ _) (lots63 g)
  have hl2 : (lawApartL ps).length ≤ 16777216 := by omega
  have hne : lawApartL ps ≠ [] := by
    have h2 := g.two
    cases e : ps with
    | nil => rw [e] at h2; simp at h2
    | cons p r =>
      have hp : p.1 ∈ names ps := by rw [e]; simp [names]
      rw [← e]
      refine List.ne_nil_of_mem (a := [p.1]) (List.mem_filter.mpr ⟨?_, ?_⟩)
      · obtain ⟨q, hq⟩ := lotsN_head (ord ps)
        have : [p.1] ∈ lotsN (ord ps) := (mem_lotsN _).mpr (List.singleton_sublist.mpr (mem_sortN.mpr hp))
        rw [hq] at this ⊢
        rcases List.mem_cons.mp this with h | h
        · cases h
        · exact h
      · simp [lawApart, adj_self g hp]
  have e4 := (mostL_spec hne).1
  simp only [lens] at e4
  have e5 := sorted_texts (l := (lawApartL ps).filter fun x => decide (x.length = mostL (lawApartL ps))) (Nat.lt_of_le_of_lt (List.length_filter_le _ _) hl)
  rw [show List.filter (lawApart ps) (lotsN (ord ps)).tail = lawApartL ps from rfl] at e2
  simp [gf_apart_lots, mf_apart_lots, entry, enc, ev_near g, l0f_apart_lots, ev_lots g, -List.map_tail]
  rw [e2]
  simp [hl2, e4, e5]
theorem filter_one {ps : Ps} (g : Good ps) {x : Cs} (hx : x.Sublist (ord ps)) {a : Nat} (ha : a ∈ x) : (x.filter (adj ps a) = [a]) ↔ ∀ b ∈ x, b ≠ a → adj ps a b = false := by
  constructor
  · intro h b hb hne
    cases e : adj ps a b with
    | false => rfl
    | true =>
      have : b ∈ x.filter (adj ps a) := List.mem_filter.mpr ⟨hb, e⟩
      rw [h] at this
      exact absurd (List.mem_singleton.mp this) hne
  · intro h
    refine up_eq ((lot_up g hx).filter _) (by simp) fun b => ?_
    rw [List.mem_filter, List.mem_singleton]
    constructor
    · rintro ⟨hb, e⟩
      by_cases hne : b = a
      · exact hne
      · rw [h b hb hne] at e; cases e
    · rintro rfl
      exact ⟨ha, adj_self g (lot_mem hx ha)⟩
/-! f_knot_lots -/
def lawKnot (ps : Ps) (x : Cs) : Bool := x.all fun a => decide (∀ b ∈ x, adj ps a b = true)
theorem knotL_turn {ps : Ps} (g : Good ps) {x : Cs} (hx : x.Sublist (ord ps)) (acc : List Cs) (h : acc.length < 1000) : turn (put 3) b0f_knot_lots (.str x) [.fz (Lot ps), .fz (NearD ps), .ow (.lst (acc.map .str)), .un, .un, .un, .un] = .ok .nx [.fz (Lot ps), .fz (NearD ps), .ow (.lst ((if lawKnot ps x = true then acc ++ [x] else acc).map .str)), .un, .un, .un, .un] := by
  have h2 : acc.length < 16777216 := by omega
  have e1 : ∀ a ∈ x, ((lcx (fun b : Nat => (R.of (dIx (NearD ps) (.str [a]))).bind fun q => (R.of (dIn (.str [b]) q)).bind fun q => R.of (asB q)) (fun b : Nat => R.ok (D.str [b])) x).bind fun l => R.of (dEq (.int (l.length : Int)) (.int (x.length : Int)))) = .ok (.bl (decide ((x.filter (adj ps a)).length = x.length))) := fun a ha => by
    rw [near_ix g (lot_mem hx ha)]
    simp only [R.of_some, R.bind_ok, in_near, asB_bl, lcx_ok, List.length_map, dEq_nat]
  simp [b0f_knot_lots, h2]
  simp at e1
  rw [lcx_of1 (fun a => D.bl (decide (∀ b ∈ x, adj ps a b = true))) e1]
  cases hg : lawKnot ps x with
  | true => simp; simpa [lawKnot] using hg
  | false => simp; simpa [lawKnot] using hg
def lawKnotL (ps : Ps) : List Cs := (lotsN (ord ps)).tail.filter (lawKnot ps)
def lawGreat (l : List Cs) (x : Cs) : Bool := !(l.any fun y => decide (x.length < y.length) && x.all fun a => decide (a ∈ y))
theorem great_turn (A B : Sl) (l acc : List Cs) (x : Cs) (h : acc.length < 1000) : turn (put 3) b2f_knot_lots (.str x) [A, B, .fz (.lst (l.map .str)), .un, .un, .un, .ow (.lst (acc.map .str))] = .ok .nx [A, B, .fz (.lst (l.map .str)), .un, .un, .un, .ow (.lst ((if lawGreat l x = true then acc ++ [x] else acc).map .str))] := by
  have h2 : acc.length < 16777216 := by omega
  cases hg : lawGreat l x with
  | true =>
    simp [b2f_knot_lots, h2]
    simpa [lawGreat] using hg
  | false =>
    simp [b2f_knot_lots, h2]
    simpa [lawGreat] using hg
theorem ev_knot_lots {ps : Ps} (g : Good ps) : gf_knot_lots [Lot ps] = .ok (.lst ((sortS ((lawKnotL ps).filter (lawGreat (lawKnotL ps)))).map .str)) [] := by
  have e2 := forL_fold (t := put 3) (body := b0f_knot_lots) D.str (fun acc : List Cs => [.fz (Lot ps), .fz (NearD ps), .ow (.lst (acc.map .str)), .un, .un, .un, .un]) (fun acc x => if lawKnot ps x = true then acc ++ [x] else acc) (lotsN (ord ps)).tail [] (by
    intro ys zs x e
    refine knotL_turn g (tail_lots (mem_of_app e)) _ ?_
    have := foldl_filter (lawKnot ps) (fun x : Cs => x) ys []
    rw [this]
    have h1 := List.length_filter_le (lawKnot ps) ys
    have h2 := congrArg List.length e
    have h3 := lots63 g
    simp at h2 h3 ⊢
    omega)
  rw [foldl_filter (lawKnot ps) (fun x : Cs => x) (lotsN (ord ps)).tail []] at e2
  simp only [List.nil_append, List.map_id', List.map_nil] at e2
  have hl : (lawKnotL ps).length < 64 := Nat.lt_of_le_of_lt (List.length_filter_le _ _) (lots63 g)
  have hl2 : (lawKnotL ps).length ≤ 16777216 := by omega
  have e3 := forL_fold (t := put 3) (body := b2f_knot_lots) D.str (fun acc : List Cs => [.fz (Lot ps), .fz (NearD ps), .fz (.lst ((lawKnotL ps).map .str)), .un, .un, .un, .ow (.lst (acc.map .str))]) (fun acc x => if lawGreat (lawKnotL ps) x = true then acc ++ [x] else acc) (lawKnotL ps) [] (by
    intro ys zs x e
    refine great_turn _ _ _ _ _ ?_
    have := foldl_filter (lawGreat (lawKnotL ps)) (fun x : Cs => x) ys []
    rw [this]
    have h1 := List.length_filter_le (lawGreat (lawKnotL ps)) ys
    have h2 := congrArg List.length e
    simp at h2 ⊢
    omega)
  rw [foldl_filter (lawGreat (lawKnotL ps)) (fun x : Cs => x) (lawKnotL ps) []] at e3
  simp only [List.nil_append, List.map_id', List.map_nil] at e3
  have hg64 : ((lawKnotL ps).filter (lawGreat (lawKnotL ps))).length < 64 := Nat.lt_of_le_of_lt (List.length_filter_le _ _) hl
  have hg2 : ((lawKnotL ps).filter (lawGreat (lawKnotL ps))).length ≤ 16777216 := by omega
  have e5 := sorted_texts hg64
  rw [show List.filter (lawKnot ps) (lotsN (ord ps)).tail = lawKnotL ps from rfl] at e2
  simp [gf_knot_lots, mf_knot_lots, entry, enc, ev_near g, l0f_knot_lots, ev_lots g, -List.map_tail]
  rw [e2]
  simp [hl2, l2f_knot_lots, e3, hg2, e5]
/-! f_is_pair -/
@[simp] theorem ev_is_pair {p : Nat × Cs} (h1 : p.1 ∈ abc) (h2 : Looks p.2) : gf_is_pair [encP p] = .ok (.bl true) [] := by
  have e1 := ev_is_letter p.1
  have e2 := ev_are_looks h2
  simp [gf_is_pair, mf_is_pair, entry, enc, encP, e1, e2, h1]
/-! f_glyphs -/
theorem erase_perm {α : Type} : ∀ {l : List α} {k : Nat} {x : α}, l[k]? = some x → (x :: l.eraseIdx k).Perm l
  | [], _, _, h => by simp at h
  | y :: l, 0, x, h => by simp at h; subst h; exact .refl _
  | y :: l, k + 1, x, h => by
    have := erase_perm (l := l) (k := k) (x := x) (by simpa using h)
    exact (List.Perm.swap y x _).trans (this.cons y)
theorem map_erase {α β : Type} (f : α → β) : ∀ (l : List α) (k : Nat), (l.map f).eraseIdx k = (l.eraseIdx k).map f
  | [], _ => rfl
  | _ :: _, 0 => rfl
  | x :: l, k + 1 => by simp [map_erase f l k]
def GlyP (ys : List Nat) (s : J × Cs × Cs) : Prop := s.2.2.length = ys.length ∧ (s.2.1 ++ s.2.2).Perm ltrs
theorem glyphs_ex (j : J) {n : Nat} (hn : n ≤ 11) : ∃ cs j', gf_glyphs [encJ j, .int (n : Int)] = .ok (.str cs) [encJ j'] ∧ cs.length = n ∧ cs.Nodup ∧ ∀ c ∈ cs, c ∈ ltrs := by
  obtain ⟨⟨j1, rest, cs⟩, e1, h1, h2⟩ := forL_inv' (t := put 4) (body := b0f_glyphs) (fun (i : Nat) => D.int (i : Int)) (fun (s : J × Cs × Cs) => [Sl.ow (encJ s.1), .fz (.int (n : Int)), .ow (.lst (s.2.1.map fun c => D.str [c])), .fz (.str s.2.2), .un]) GlyP (List.range n) [] (j, ltrs, [])
    ⟨rfl, by simp⟩ (by
      rintro ys zs x e ⟨j1, rest, cs⟩ ⟨h1, h2⟩
      have hl : ys.length < n := by
        have := congrArg List.length e
        simp at this; omega
      have hr : rest.length + cs.length = 11 := by
        have := h2.length_eq
        simp [ltrs] at this
        simpa using this
      have hy : cs.length = ys.length := by simpa using h1
      have hp : 0 < rest.length := by omega
      have e2 := ev_dip' j1 rest.length hp (by omega)
      have hlt := dipN_lt j1 hp
      have e3 : rest[dipN j1 rest.length]? = some rest[dipN j1 rest.length] := List.getElem?_eq_getElem hlt
      have hz : cs.length + 1 ≤ 16777216 := by omega
      have e4 := popR_ok (ds := rest.map fun c => D.str [c]) (n := dipN j1 rest.length) (d := D.str [rest[dipN j1 rest.length]]) (by omega) (by rw [List.getElem?_map, e3]; rfl)
      refine ⟨(dipJ j1 rest.length, rest.eraseIdx (dipN j1 rest.length), cs ++ [rest[dipN j1 rest.length]]), ?_, ?_, ?_⟩
      · simp [b0f_glyphs, e2, e4, hz, map_erase]
      · simp; omega
      · refine List.Perm.trans ?_ h2
        refine List.Perm.trans ?_ ((erase_perm e3).append_right cs)
        rw [← List.append_assoc]
        exact List.perm_append_singleton _ _)
  have hnd : (rest ++ cs).Nodup := h2.nodup_iff.mpr (by decide)
  have hn2 : n ≤ 16777216 := by omega
  refine ⟨cs, j1, ?_, by simpa using h1, (List.nodup_append.mp hnd).2.1, fun c hc => h2.mem_iff.mp (List.mem_append_right _ hc)⟩
  have e0 : S_abcdefmnxyz = ltrs := rfl
  simp [gf_glyphs, mf_glyphs, entry, enc, l0f_glyphs, hn2, e0, e1]
/-! f_pick -/
theorem ev_pick (j : J) {xs : List D} {x : D} (h : xs.length ≤ 1000) (hx : xs[dipN j xs.length]? = some x) : gf_pick [encJ j, .lst xs] = .ok x [encJ (dipJ j xs.length)] := by
  have h0 : xs.length ≠ 0 := by
    intro e
    have : xs = [] := List.length_eq_zero_iff.mp e
    subst this
    simp at hx
  have e := ev_dip' j xs.length (by omega) (by omega)
  simp [gf_pick, mf_pick, entry, enc, e, hx]
theorem pick_ex (j : J) {xs : List D} (h0 : xs ≠ []) (h : xs.length ≤ 1000) : ∃ x ∈ xs, gf_pick [encJ j, .lst xs] = .ok x [encJ (dipJ j xs.length)] := by
  have hl := dipN_lt j (List.length_pos_iff.mpr h0)
  exact ⟨_, List.getElem_mem hl, ev_pick j h (List.getElem?_eq_getElem hl)⟩
theorem pick_tup (j : J) {xs : List D} (h0 : xs ≠ []) (h : xs.length ≤ 1000) : ∃ x ∈ xs, gf_pick [encJ j, .tup xs] = .ok x [encJ (dipJ j xs.length)] := by
  have hl := dipN_lt j (List.length_pos_iff.mpr h0)
  have e := ev_dip' j xs.length (by omega) (by omega)
  have e2 : xs[dipN j xs.length]? = some xs[dipN j xs.length] := List.getElem?_eq_getElem hl
  exact ⟨_, List.getElem_mem hl, by simp [gf_pick, mf_pick, entry, enc, e, e2]⟩
theorem pick_str (j : J) {cs : Cs} (h0 : cs ≠ []) (h : cs.length ≤ 1000) : ∃ c ∈ cs, gf_pick [encJ j, .str cs] = .ok (.str [c]) [encJ (dipJ j cs.length)] := by
  have hl := dipN_lt j (List.length_pos_iff.mpr h0)
  have e := ev_dip' j cs.length (by omega) (by omega)
  have e2 : cs[dipN j cs.length]? = some cs[dipN j cs.length] := List.getElem?_eq_getElem hl
  exact ⟨_, List.getElem_mem hl, by simp [gf_pick, mf_pick, entry, enc, e, e2]⟩
/-! f_figs -/
def FigI (pool : Cs) (ys : Cs) (acc : List D) (_ : J) : Prop := ∃ c : Cs, acc = c.map (fun n => D.str [n]) ∧ c.Sublist ys
theorem figs_ex (j : J) {pool : Cs} (h0 : pool ≠ []) (h : pool.length ≤ 1000) : ∃ cs j', gf_figs [encJ j, .str pool] = .ok (.str cs) [encJ j'] ∧ cs ≠ [] ∧ cs.Sublist pool := by
  obtain ⟨ys, j1, e1, c, rfl, hs⟩ := lcM_st (src := seqS (v 1)) (vs := [3]) (t := put 3) (mt := tbM (op2 dEq (calR gf_dip 0 (argc (cn (.int 3)) args0)) (cn (.int 0)))) (me := v 3) (ρ := [.ow (encJ j), .fz (.str pool), .un, .un]) (fun n => D.str [n]) (fun j => [Sl.ow (encJ j), .fz (.str pool), .un, .un]) (FigI pool) (xs := pool) (s0 := j)
    (by simp) (by simp) ⟨[], rfl, List.Sublist.refl _⟩ (by
      rintro ys zs x e acc s ⟨c, rfl, hs⟩
      by_cases hd : dipN s 3 = 0
      · exact ⟨some (.str [x]), dipJ s 3, by simp [turnC, hd], c ++ [x], by simp, hs.append (List.Sublist.refl _)⟩
      · exact ⟨none, dipJ s 3, by simp [turnC, hd], c, by simp, hs.trans (List.sublist_append_left _ _)⟩)
  have hl : c.length ≤ 16777216 := by have := hs.length_le; omega
  by_cases hc : c = []
  · subst hc
    have hp : 0 < pool.length := List.length_pos_iff.mpr h0
    have e2 := ev_dip' j1 pool.length hp (by omega)
    have hlt := dipN_lt j1 hp
    have e3 : pool[dipN j1 pool.length]? = some pool[dipN j1 pool.length] := List.getElem?_eq_getElem hlt
    refine ⟨[pool[dipN j1 pool.length]], dipJ j1 pool.length, ?_, by simp, List.singleton_sublist.mpr (List.getElem_mem hlt)⟩
    simp [gf_figs, mf_figs, entry, enc, e1, e2, e3]
  · refine ⟨c, j1, ?_, hc, hs⟩
    simp [gf_figs, mf_figs, entry, enc, e1, hl, hc]
/-! f_fewest -/
def uniN (a b : Cs) : Cs := setN (a ++ b)
def nextL (K layer : List Cs) : List Cs := setS (layer.flatMap fun h => K.map fun x => uniN h x)
def layerN (K : List Cs) : Nat → List Cs
  | 0 => [[]]
  | k + 1 => nextL K (layerN K k)
theorem up_sub {x ls : Cs} (hx : x.Pairwise (· < ·)) (hl : ls.Pairwise (· < ·)) (h : ∀ a ∈ x, a ∈ ls) : x.Sublist ls := by
  have : x = ls.filter fun a => decide (a ∈ x) := up_eq hx (hl.filter _) fun a => by
    rw [List.mem_filter, decide_eq_true_eq]
    exact ⟨fun ha => ⟨h a ha, ha⟩, fun ha => ha.2⟩
  rw [this]; exact List.filter_sublist
theorem mem_uni {a b : Cs} {c : Nat} : c ∈ uniN a b ↔ c ∈ a ∨ c ∈ b := by unfold uniN; rw [mem_setN, List.mem_append]
theorem mem_next {K layer : List Cs} {h : Cs} : h ∈ nextL K layer ↔ ∃ h' ∈ layer, ∃ x ∈ K, h = uniN h' x := by
  unfold nextL
  rw [mem_setS]
  simp only [List.mem_flatMap, List.mem_map]
  constructor
  · rintro ⟨h', hh, x, hx, rfl⟩; exact ⟨h', hh, x, hx, rfl⟩
  · rintro ⟨h', hh, x, hx, rfl⟩; exact ⟨h', hh, x, hx, rfl⟩
theorem layer_sub {ps : Ps} (g : Good ps) {K : List Cs} (hK : ∀ x ∈ K, x.Sublist (ord ps)) : ∀ (k : Nat), ∀ h ∈ layerN K k, h.Sublist (ord ps)
  | 0, h, hh => by rw [List.mem_singleton.mp hh]; exact List.nil_sublist _
  | k + 1, h, hh => by
    obtain ⟨h', hh', x, hx, rfl⟩ := mem_next.mp hh
    refine up_sub (setN_up _) (ord_up g) fun a ha => ?_
    rcases mem_uni.mp ha with q | q
    · exact (layer_sub g hK k h' hh').subset q
    · exact (hK x hx).subset q
theorem layer_nodup (K : List Cs) : ∀ k, (layerN K k).Nodup
  | 0 => by simp [layerN]
  | k + 1 => setS_nodup _
theorem layer_len {ps : Ps} (g : Good ps) {K : List Cs} (hK : ∀ x ∈ K, x.Sublist (ord ps)) (k : Nat) : (layerN K k).length ≤ 64 :=
  Nat.le_trans (List.Nodup.length_le_of_subset (layer_nodup K k) fun h hh => (mem_lotsN (ord ps)).mpr (layer_sub g hK k h hh)) (lots64 g)
theorem next_len {ps : Ps} (g : Good ps) {K : List Cs} (hK : ∀ x ∈ K, x.Sublist (ord ps)) (hK0 : ∀ x ∈ K, x ≠ []) (k : Nat) : (nextL K (layerN K k)).length < 64 := by
  refine Nat.lt_of_le_of_lt (List.Nodup.length_le_of_subset (setS_nodup _) (l₂ := (lotsN (ord ps)).tail) fun h hh => ?_) (lots63 g)
  have hs := layer_sub g hK (k + 1) h hh
  obtain ⟨h', hh', x, hx, rfl⟩ := mem_next.mp hh
  have hne : uniN h' x ≠ [] := by
    cases e : x with
    | nil => exact absurd e (hK0 x hx)
    | cons a r =>
      have : a ∈ uniN h' (a :: r) := mem_uni.mpr (.inr List.mem_cons_self)
      exact List.ne_nil_of_mem this
  have := (mem_lotsN _).mpr hs
  obtain ⟨r, hr⟩ := lotsN_head (ord ps)
  rw [hr] at this ⊢
  rcases List.mem_cons.mp this with q | q
  · exact absurd q hne
  · exact q
theorem few_in {h x : Cs} (hh : h.length ≤ 6) (hx : x.length ≤ 6) (acc : List Cs) (ha : acc.length < 10000) (A B C E F : Sl) : turn (put 7) b0f_fewest (.str x) [A, B, C, E, F, .fz (.str h), .ow (.lst (acc.map .str)), .un] = .ok .nx [A, B, C, E, F, .fz (.str h), .ow (.lst ((acc ++ [uniN h x]).map .str)), .un] := by
  have h1 : h.length + x.length ≤ 16777216 := by omega
  have e := setA_text (cs := h ++ x) (by rw [List.length_append]; omega)
  have h2 : (setN (h ++ x)).length ≤ 16777216 := by
    have : (setN (h ++ x)).length ≤ (h ++ x).length := List.Nodup.length_le_of_subset ((setN_up (h ++ x)).imp fun {a b} h => Nat.ne_of_lt h) fun a ha => mem_setN.mp ha
    rw [List.length_append] at this
    omega
  have h3 : acc.length < 16777216 := by omega
  simp [b0f_fewest, h1, e, h2, h3, uniN]
theorem foldl_flat {α β : Type} (f : α → List β) : ∀ (xs : List α) (acc : List β), xs.foldl (fun s x => s ++ f x) acc = acc ++ xs.flatMap f
  | [], acc => by simp
  | x :: r, acc => by rw [List.foldl_cons, foldl_flat f r]; simp
theorem few_mid {ps : Ps} (g : Good ps) {K : List Cs} (hK : ∀ x ∈ K, x.Sublist (ord ps)) (hKl : K.length ≤ 20) {h : Cs} (hh : h.length ≤ 6) (acc : List Cs) (ha : acc.length < 5000) (A B E F : Sl) : turn (put 5) b2f_fewest (.str h) [A, B, .fz (.lst (K.map .str)), E, F, .un, .ow (.lst (acc.map .str)), .un] = .ok .nx [A, B, .fz (.lst (K.map .str)), E, F, .un, .ow (.lst ((acc ++ K.map fun x => uniN h x).map .str)), .un] := by
  have e := forL_fold (t := put 7) (body := b0f_fewest) D.str (fun acc : List Cs => [A, B, .fz (.lst (K.map .str)), E, F, .fz (.str h), .ow (.lst (acc.map .str)), .un]) (fun acc x => acc ++ [uniN h x]) K acc (by
    intro ys zs x e
    refine few_in hh (lot_len g (hK x (mem_of_app e))) _ ?_ _ _ _ _ _
    rw [foldl_snoc]
    have := congrArg List.length e
    simp at this ⊢
    omega)
  rw [foldl_snoc] at e
  simp [b2f_fewest, l0f_fewest]
  simp at e
  rw [e]
  simp
def fullB (n : Nat) (layer : List Cs) : Bool := layer.any fun h => decide (h.length = n)
theorem few_turn {ps : Ps} (g : Good ps) {K : List Cs} (hK : ∀ x ∈ K, x.Sublist (ord ps)) (hK0 : ∀ x ∈ K, x ≠ []) (hKl : K.length ≤ 20) (k : Nat) (d : D) : turn (put 4) b4f_fewest d [.fz (Lot ps), .fz (.lst ((layerN K k).map .str)), .fz (.lst (K.map .str)), .fz (.int (k : Int)), .un, .un, .un, .un] = if fullB ps.length (layerN K k) = true then .ok (.rt (.int (k : Int))) [.fz (Lot ps), .fz (.lst ((layerN K k).map .str)), .fz (.lst (K.map .str)), .fz (.int (k : Int)), .un, .un, .un, .un] else .ok .nx [.fz (Lot ps), .fz (.lst ((layerN K (k + 1)).map .str)), .fz (.lst (K.map .str)), .fz (.int ((k + 1 : Nat) : Int)), .un, .un, .un, .un] := by
  have hll := layer_len g hK k
  have hsub := layer_sub g hK k
  have flat : ∀ ys : List Cs, (ys.flatMap fun h => K.map fun x => uniN h x).length = ys.length * K.length := fun ys => by
    induction ys with
    | nil => simp
    | cons y r ih => simp [ih, Nat.succ_mul, Nat.add_comm]
  have e := forL_fold (t := put 5) (body := b2f_fewest) D.str (fun acc : List Cs => [.fz (Lot ps), .fz (.lst ((layerN K k).map .str)), .fz (.lst (K.map .str)), .fz (.int (k : Int)), .fz d, .un, .ow (.lst (acc.map .str)), .un]) (fun acc h => acc ++ K.map fun x => uniN h x) (layerN K k) [] (by
    intro ys zs x e
    refine few_mid g hK hKl (lot_len g (hsub x (mem_of_app e))) _ ?_ _ _ _ _
    rw [foldl_flat, List.nil_append, flat]
    have h1 := congrArg List.length e
    simp at h1
    have h2 : ys.length * K.length ≤ 64 * 20 := Nat.mul_le_mul (by omega) hKl
    omega)
  rw [foldl_flat, List.nil_append] at e
  have hfl : ((layerN K k).flatMap fun h => K.map fun x => uniN h x).length ≤ 1280 := by
    rw [flat]; exact Nat.mul_le_mul hll hKl
  have e2 := setA_lst (l := (layerN K k).flatMap fun h => K.map fun x => uniN h x) (by omega) (next_len g hK hK0 k)
  have e3 : layerN K (k + 1) = setS ((layerN K k).flatMap fun h => K.map fun x => uniN h x) := rfl
  have hfl2 : ((layerN K k).flatMap fun h => K.map fun x => uniN h x).length ≤ 16777216 := by omega
  simp only [List.map_nil] at e
  have hsum : (List.map (fun _ => K.length) (layerN K k)).sum ≤ 16777216 := by
    have : ∀ ys : List Cs, (List.map (fun _ => K.length) ys).sum = ys.length * K.length := fun ys => by
      induction ys with
      | nil => simp
      | cons y r ih => simp [ih, Nat.succ_mul, Nat.add_comm]
    rw [this]
    have := Nat.mul_le_mul hll hKl
    omega
  cases hf : fullB ps.length (layerN K k) with
  | true =>
    simp [b4f_fewest, l2f_fewest, e, hfl2, e2]
    intro hno
    simp only [fullB, List.any_eq_true, decide_eq_true_eq] at hf
    obtain ⟨x, hx, hl⟩ := hf
    exact absurd hl (hno x hx)
  | false =>
    have hno : ¬ ∃ x, x ∈ layerN K k ∧ List.length x = ps.length := fun ⟨x, hx, hl⟩ => by
      simp only [fullB, List.any_eq_false, decide_eq_true_eq] at hf
      exact hf x hx hl
    simp [b4f_fewest, l2f_fewest, e, hfl2, e2]
    rw [if_neg hno, if_pos hsum, e3]
/-- the number of layers until one holds all signs, at most n -/
def fewN (n : Nat) (K : List Cs) : Nat → Nat → Nat
  | 0, k => k
  | m + 1, k => if fullB n (layerN K k) = true then k else fewN n K m (k + 1)
theorem few_loop {ps : Ps} (g : Good ps) {K : List Cs} (hK : ∀ x ∈ K, x.Sublist (ord ps)) (hK0 : ∀ x ∈ K, x ≠ []) (hKl : K.length ≤ 20) : ∀ (ds : List D) (k : Nat), (∃ ρ, forL (put 4) b4f_fewest ds [.fz (Lot ps), .fz (.lst ((layerN K k).map .str)), .fz (.lst (K.map .str)), .fz (.int (k : Int)), .un, .un, .un, .un] = .ok (.rt (.int (fewN ps.length K ds.length k : Int))) ρ) ∨ forL (put 4) b4f_fewest ds [.fz (Lot ps), .fz (.lst ((layerN K k).map .str)), .fz (.lst (K.map .str)), .fz (.int (k : Int)), .un, .un, .un, .un] = .ok .nx [.fz (Lot ps), .fz (.lst ((layerN K (k + ds.length)).map .str)), .fz (.lst (K.map .str)), .fz (.int (fewN ps.length K ds.length k : Int)), .un, .un, .un, .un]
  | [], k => .inr rfl
  | d :: r, k => by
    have h := few_turn g hK hK0 hKl k d
    cases hf : fullB ps.length (layerN K k) with
    | true =>
      rw [hf, if_pos rfl] at h
      refine .inl ⟨[.fz (Lot ps), .fz (.lst ((layerN K k).map .str)), .fz (.lst (K.map .str)), .fz (.int (k : Int)), .un, .un, .un, .un], ?_⟩
      rw [forL_cons_rt h]
      simp only [List.length_cons, fewN, hf, if_true]
    | false =>
      rw [hf, if_neg Bool.false_ne_true] at h
      rw [forL_cons_nx h]
      have ih := few_loop g hK hK0 hKl r (k + 1)
      simp only [List.length_cons, fewN, hf, Bool.false_eq_true, if_false]
      rw [show k + (r.length + 1) = k + 1 + r.length by omega]
      exact ih
theorem ev_fewest' {ps : Ps} (g : Good ps) {K : List Cs} (hk : gf_knot_lots [Lot ps] = .ok (.lst (K.map .str)) []) (hK : ∀ x ∈ K, x.Sublist (ord ps)) (hK0 : ∀ x ∈ K, x ≠ []) (hKl : K.length ≤ 20) : gf_fewest [Lot ps] = .ok (.int (fewN ps.length K ps.length 0 : Int)) [] := by
  have h := few_loop g hK hK0 hKl ((List.range ps.length).map fun (i : Nat) => D.int (i : Int)) 0
  have e0 : layerN K 0 = [[]] := rfl
  rw [e0] at h
  simp only [List.map_cons, List.map_nil, List.length_map, List.length_range, Int.natCast_zero] at h
  have hz := g.sz
  rcases h with ⟨ρ, h⟩ | h
  · simp [gf_fewest, mf_fewest, entry, enc, hk, l4f_fewest, hz]
    rw [h]
    simp
  · simp [gf_fewest, mf_fewest, entry, enc, hk, l4f_fewest, hz]
    rw [h]
    simp
/-! f_Line__ucontains__ -/
@[simp] theorem ev_contains {ps : Ps} (g : Good ps) (n : Nat) : gf_Line__ucontains__ [LineD ps, .str [n]] = .ok (.bl (decide (n ∈ ps.map (·.1)))) [] := by
  by_cases hn : n ∈ abc
  · simp [gf_Line__ucontains__, mf_Line__ucontains__, entry, enc, ev_letters g, hn]
  · have : n ∉ ps.map (·.1) := fun h => by
      obtain ⟨p, hp, rfl⟩ := List.mem_map.mp h
      exact hn (g.ltr p hp)
    rw [decide_eq_false this]
    simp [gf_Line__ucontains__, mf_Line__ucontains__, entry, enc, ev_letters g, hn]
/-! f_check_signs -/
theorem ev_check_signs {ps : Ps} (g : Good ps) : gf_check_signs [Lot ps] = .ok .non [] := by
  have h6 := g.six
  have h2 := g.two
  have hs := g.sz
  have hne : deq (Lot ps) (.tup []) = false := by
    cases ps with
    | nil => simp at h2
    | cons a r => rfl
  have e0 : dEq (Lot ps) (.tup []) = some (.bl false) := by
    rw [dEq_of (isP_Lot ps) (by simp) (.inl (by have := dep_Lot ps; omega)), hne]
  have hl : ¬ ((ps.length : Int) < 2) := by omega
  have e2 : dIsi isiCls [Lot ps, .ty "tuple"] = some (.bl true) := rfl
  have turnB : ∀ k ∈ List.range ps.length, turn (put 1) b0f_check_signs (.int (k : Int)) [.fz (Lot ps), .un, .un, .un] = .ok .nx [.fz (Lot ps), .un, .un, .un] := fun k hk => by
    have hk : k < ps.length := List.mem_range.mp hk
    have hp : ps[k]? = some ps[k] := List.getElem?_eq_getElem hk
    have hm : ps[k] ∈ ps := List.getElem_mem hk
    have e3 := ev_is_pair (g.ltr _ hm) (g.lks _ hm)
    have hno : ¬ ∃ x ∈ ps.take k, x.1 = ps[k].1 := by
      rintro ⟨x, hx, he⟩
      have nd := g.nd
      rw [← List.take_append_drop k ps, List.map_append, List.drop_eq_getElem_cons hk, List.map_cons] at nd
      exact (List.nodup_append.mp nd).2.2 x.1 (List.mem_map.mpr ⟨x, hx, rfl⟩) ps[k].1 List.mem_cons_self he
    have h6' : ¬ (k : Int) = 6 := by omega
    have e5 : dSl (Lot ps) none (some (k : Int)) = some (Lot (ps.take k)) := by simp [Lot]
    have e7 : dIn (.str [ps[k].1]) (.lst ((ps.take k).map fun p => D.str [p.1])) = some (.bl false) := by
      rw [dIn_strs, decide_eq_false]
      rintro hm
      obtain ⟨x, hx, he⟩ := List.mem_map.mp hm
      exact hno ⟨x, hx, by simpa using he⟩
    simp [b0f_check_signs, e5, hp, e3, h6', e7, -List.map_take]
  have e1 := forL_inv (t := put 1) (body := b0f_check_signs) (fun (_ : Unit) => [.fz (Lot ps), .un, .un, .un]) (fun _ => True) ((List.range ps.length).map fun (i : Nat) => D.int (i : Int)) () trivial fun d hd _ _ => by
    obtain ⟨k, hk, rfl⟩ := List.mem_map.mp hd
    exact ⟨(), turnB k hk, trivial⟩
  obtain ⟨_, e1, _⟩ := e1
  simp [gf_check_signs, mf_check_signs, entry, enc, e0, e2, l0f_check_signs, hs, e1, hl]
/-! f_plain_line -/
def PlP (pool : Cs) (ys : Cs) (acc : List D) (_ : J) : Prop := ∃ ps : Ps, acc = ps.map encP ∧ ps.map (·.1) = ys ∧ ∀ p ∈ ps, Looks p.2
theorem plain_ex (j : J) : ∃ ps j', gf_plain_line [encJ j] = .ok (Lot ps) [encJ j'] ∧ Good ps ∧ ∀ p ∈ ps, p.1 ∈ ltrs := by
  obtain ⟨x, hx, e1⟩ := pick_ex j (xs := [.str [48, 49, 50], .str [48, 49, 50, 51], .str S_01234, .str S_01234567, .str [50, 52], .str S_034567]) (by simp) (by decide)
  have hpool : ∃ pool, x = .str pool ∧ Looks pool := by
    simp only [List.mem_cons, List.not_mem_nil, or_false] at hx
    rcases hx with h | h | h | h | h | h <;> exact ⟨_, h, ⟨by decide, by decide, by decide⟩⟩
  obtain ⟨pool, rfl, hp⟩ := hpool
  have hpl : pool.length ≤ 1000 := by have := hp.len; omega
  generalize dipJ j _ = j1 at e1
  obtain ⟨gl, j3, e3, g1, g2, g3⟩ := glyphs_ex (dipJ j1 5) (n := 2 + dipN j1 5) (by have := dipN_lt j1 (w := 5) (by decide); omega)
  have e3' : gf_glyphs [encJ (dipJ j1 5), .int (2 + (dipN j1 5 : Int))] = .ok (.str gl) [encJ j3] := by
    rw [← e3]; congr 1
  obtain ⟨ys, j4, e4, ps, rfl, h1, h2⟩ := lcM_st (src := seqS (calR gf_glyphs 0 (argc (op2 dAdd (cn (.int 2)) (calR gf_dip 0 (argc (cn (.int 5)) args0))) args0))) (vs := [2]) (t := put 2) (mt := ret true) (me := opL mkT (argc (v 2) (argc (calR gf_figs 0 (argc (v 1) args0)) args0))) (ρ := [.ow (encJ j1), .fz (.str pool), .un]) (fun n => D.str [n]) (fun j => [Sl.ow (encJ j), .fz (.str pool), .un]) (PlP pool) (xs := gl) (s0 := j3)
    (by simp [e3']) (by simp) ⟨[], rfl, rfl, fun _ h => nomatch h⟩ (by
      rintro ys zs x e acc s ⟨ps, rfl, h1, h2⟩
      obtain ⟨cs, s', f1, f2, f3⟩ := figs_ex s (pool := pool) hp.ne hpl
      refine ⟨some (encP (x, cs)), s', by simp [turnC, f1, encP], ps ++ [(x, cs)], by simp, by simp [h1], fun p hp' => ?_⟩
      rcases List.mem_append.mp hp' with h | h
      · exact h2 p h
      · rw [List.mem_singleton] at h; rw [h]; exact sub_looks hp f3 f2)
  have hlen : ps.length = 2 + dipN j1 5 := by rw [← g1, ← h1, List.length_map]
  have h5 := dipN_lt j1 (w := 5) (by decide)
  have hlt : ∀ p ∈ ps, p.1 ∈ ltrs := fun p hp' => g3 _ (by rw [← h1]; exact List.mem_map.mpr ⟨p, hp', rfl⟩)
  refine ⟨ps, j4, ?_, ⟨by omega, by omega, by rw [h1]; exact g2, fun p hp' => ltrs_abc _ (hlt p hp'), h2⟩, hlt⟩
  simp [gf_plain_line, mf_plain_line, entry, enc, e1, e4, Lot]
/-! f_ring_line -/
theorem sort_looks {c : Cs} (h0 : c ≠ []) (nd : c.Nodup) (hf : ∀ x ∈ c, x ∈ figs8) : Looks (sortN c) := by
  refine ⟨fun e => h0 ?_, sortN_up nd, fun x hx => hf x (mem_sortN.mp hx)⟩
  have := sortN_length c
  rw [e] at this
  exact List.length_eq_zero_iff.mp this.symm
theorem Good.perm {ps qs : Ps} (h : ps.Perm qs) (g : Good qs) : Good ps :=
  ⟨by rw [h.length_eq]; exact g.two, by rw [h.length_eq]; exact g.six, ((h.map _).nodup_iff).mpr g.nd, fun p hp => g.ltr p (h.mem_iff.mp hp), fun p hp => g.lks p (h.mem_iff.mp hp)⟩
/-- a ring of five signs, perhaps with a sixth one -/
def ringQ (a f : Nat → Nat) (own2 mo : Cs) : Ps := [(a 0, sortN [f 0, f 1]), (a 1, sortN [f 1, f 2]), (a 2, sortN own2), (a 3, sortN [f 3, f 4]), (a 4, sortN [f 4, f 0])] ++ (if mo = [] then [] else [(a 5, setN mo)])
structure Ringy (ps : Ps) (a f : Nat → Nat) (own2 mo : Cs) : Prop where
  an : [a 0, a 1, a 2, a 3, a 4, a 5].Nodup
  fn : [f 0, f 1, f 2, f 3, f 4, f 5, f 6].Nodup
  al : ∀ i < 6, a i ∈ ltrs
  fl : ∀ i < 7, f i ∈ figs8
  o2 : own2 = [f 2, f 3] ∨ own2 = [f 2, f 3, f 5]
  mm : mo ∈ [[], [f 6], [f 1, f 2], [f 0, f 1, f 2], [f 0], [f 0, f 1, f 2, f 3, f 4], [f 0, f 2], [], [f 6]]
  pe : ps.Perm (ringQ a f own2 mo)
theorem Ringy.ltr {ps : Ps} {a f : Nat → Nat} {own2 mo : Cs} (r : Ringy ps a f own2 mo) : ∀ p ∈ ps, p.1 ∈ ltrs := fun p hp => by
  have h := r.pe.mem_iff.mp hp
  have al := r.al
  unfold ringQ at h
  rcases List.mem_append.mp h with h | h
  · simp only [List.mem_cons, List.not_mem_nil, or_false] at h
    rcases h with rfl | rfl | rfl | rfl | rfl
    · exact al 0 (by decide)
    · exact al 1 (by decide)
    · exact al 2 (by decide)
    · exact al 3 (by decide)
    · exact al 4 (by decide)
  · split at h
    · cases h
    · rw [List.mem_singleton.mp h]; exact al 5 (by decide)
theorem Ringy.good {ps : Ps} {a f : Nat → Nat} {own2 mo : Cs} (r : Ringy ps a f own2 mo) : Good ps := by
  refine Good.perm r.pe ?_
  have fl := r.fl
  have al := r.al
  have hf := r.fn
  have ha := r.an
  simp only [List.nodup_cons, List.mem_cons, List.not_mem_nil, or_false, not_or, List.nodup_nil, not_false_eq_true, and_true] at hf ha
  have sub : ∀ c : Cs, (∀ x ∈ c, ∃ i < 7, x = f i) → ∀ x ∈ c, x ∈ figs8 := fun c h x hx => by
    obtain ⟨i, hi, rfl⟩ := h x hx
    exact fl i hi
  have l2 : ∀ i j, i < 7 → j < 7 → f i ≠ f j → Looks (sortN [f i, f j]) := fun i j hi hj hn => sort_looks (by simp) (by simpa using hn) (sub _ fun x hx => by
    simp at hx
    rcases hx with rfl | rfl
    · exact ⟨i, hi, rfl⟩
    · exact ⟨j, hj, rfl⟩)
  have lo : Looks (sortN own2) := by
    rcases r.o2 with h | h
    · rw [h]; exact l2 2 3 (by decide) (by decide) (by simp [hf])
    · rw [h]
      refine sort_looks (by simp) (by simp [hf]) (sub _ fun x hx => ?_)
      simp at hx
      rcases hx with rfl | rfl | rfl
      · exact ⟨2, by decide, rfl⟩
      · exact ⟨3, by decide, rfl⟩
      · exact ⟨5, by decide, rfl⟩
  have lm : mo ≠ [] → Looks (setN mo) := fun hne => by
    refine ⟨fun e => ?_, setN_up mo, fun x hx => ?_⟩
    · cases mo with
      | nil => exact hne rfl
      | cons b q =>
        have : b ∈ setN (b :: q) := mem_setN.mpr List.mem_cons_self
        rw [e] at this; cases this
    · rw [mem_setN] at hx
      have hm := r.mm
      simp only [List.mem_cons, List.not_mem_nil, or_false] at hm
      rcases hm with h | h | h | h | h | h | h | h | h <;> subst h <;> simp at hx <;> (try rcases hx with rfl | rfl | rfl | rfl | rfl) <;> (try rcases hx with rfl | rfl | rfl) <;> (try rcases hx with rfl | rfl) <;> (try subst hx) <;> exact fl _ (by decide)
  have abc' : ∀ i < 6, a i ∈ abc := fun i hi => ltrs_abc _ (al i hi)
  unfold ringQ
  by_cases hmo : mo = []
  · rw [if_pos hmo]
    refine ⟨by simp, by simp, by simp [ha], fun p hp => ?_, fun p hp => ?_⟩
    · simp at hp
      rcases hp with rfl | rfl | rfl | rfl | rfl <;> exact abc' _ (by decide)
    · simp at hp
      rcases hp with rfl | rfl | rfl | rfl | rfl
      · exact l2 0 1 (by decide) (by decide) (by simp [hf])
      · exact l2 1 2 (by decide) (by decide) (by simp [hf])
      · exact lo
      · exact l2 3 4 (by decide) (by decide) (by simp [hf])
      · exact l2 4 0 (by decide) (by decide) (fun e => hf.1.2.2.2.1 e.symm)
  · rw [if_neg hmo]
    refine ⟨by simp, by simp, by simp [ha], fun p hp => ?_, fun p hp => ?_⟩
    · simp at hp
      rcases hp with rfl | rfl | rfl | rfl | rfl | rfl <;> exact abc' _ (by decide)
    · simp at hp
      rcases hp with rfl | rfl | rfl | rfl | rfl | rfl
      · exact l2 0 1 (by decide) (by decide) (by simp [hf])
      · exact l2 1 2 (by decide) (by decide) (by simp [hf])
      · exact lo
      · exact l2 3 4 (by decide) (by decide) (by simp [hf])
      · exact l2 4 0 (by decide) (by decide) (fun e => hf.1.2.2.2.1 e.symm)
      · exact lm hmo
def RfP (ys : List Nat) (s : J × Cs × Cs) : Prop := s.2.2.length = ys.length ∧ (s.2.1 ++ s.2.2).Perm figs8
theorem ringF (j : J) (nm : D) : ∃ (j' : J) (rest got : Cs), forL (put 4) b0f_ring_line ((List.range 7).map fun (i : Nat) => D.int (i : Int)) [.ow (encJ j), .fz nm, .ow (.lst (figs8.map fun c => D.str [c])), .ow (.lst []), .un, .un, .un, .un, .un, .un, .un] = .ok .nx [.ow (encJ j'), .fz nm, .ow (.lst (rest.map fun c => D.str [c])), .ow (.lst (got.map fun c => D.str [c])), .un, .un, .un, .un, .un, .un, .un] ∧ got.length = 7 ∧ got.Nodup ∧ ∀ x ∈ got, x ∈ figs8 := by
  obtain ⟨⟨j1, rest, cs⟩, e1, h1, h2⟩ := forL_inv' (t := put 4) (body := b0f_ring_line) (fun (i : Nat) => D.int (i : Int)) (fun (s : J × Cs × Cs) => [Sl.ow (encJ s.1), .fz nm, .ow (.lst (s.2.1.map fun c => D.str [c])), .ow (.lst (s.2.2.map fun c => D.str [c])), .un, .un, .un, .un, .un, .un, .un]) RfP (List.range 7) [] (j, figs8, [])
    ⟨rfl, by simp⟩ (by
      rintro ys zs x e ⟨j1, rest, cs⟩ ⟨h1, h2⟩
      have hl : ys.length < 7 := by
        have := congrArg List.length e
        simp at this; omega
      have hr : rest.length + cs.length = 8 := by
        have := h2.length_eq
        simp [figs8] at this
        simpa using this
      have hy : cs.length = ys.length := by simpa using h1
      have hp : 0 < rest.length := by omega
      have e2 := ev_dip' j1 rest.length hp (by omega)
      have hlt := dipN_lt j1 hp
      have e3 : rest[dipN j1 rest.length]? = some rest[dipN j1 rest.length] := List.getElem?_eq_getElem hlt
      have e4 := popR_ok (ds := rest.map fun c => D.str [c]) (n := dipN j1 rest.length) (d := D.str [rest[dipN j1 rest.length]]) (by omega) (by rw [List.getElem?_map, e3]; rfl)
      have hz : cs.length < 16777216 := by omega
      refine ⟨(dipJ j1 rest.length, rest.eraseIdx (dipN j1 rest.length), cs ++ [rest[dipN j1 rest.length]]), ?_, ?_, ?_⟩
      · simp [b0f_ring_line, e2, e4, hz, map_erase]
      · simp; omega
      · refine List.Perm.trans ?_ h2
        refine List.Perm.trans ?_ ((erase_perm e3).append_right cs)
        rw [← List.append_assoc]
        exact List.perm_append_singleton _ _)
  have hnd : (rest ++ cs).Nodup := h2.nodup_iff.mpr (by decide)
  exact ⟨j1, rest, cs, e1, by simpa using h1, (List.nodup_append.mp hnd).2.1, fun c hc => h2.mem_iff.mp (List.mem_append_right _ hc)⟩
def RsP (qs : Ps) (ys : List Nat) (s : J × Ps × Ps) : Prop := s.2.2.length = ys.length ∧ (s.2.1 ++ s.2.2).Perm qs
theorem ringS (j : J) (qs : Ps) (hq : qs.length ≤ 1000) (A B C X Y : Sl) : ∃ (j' : J) (rest got : Ps), forL (put 4) b4f_ring_line ((List.range qs.length).map fun (i : Nat) => D.int (i : Int)) [.ow (encJ j), A, B, C, .un, .ow (.lst (qs.map encP)), .un, .un, X, Y, .ow (.lst [])] = .ok .nx [.ow (encJ j'), A, B, C, .un, .ow (.lst (rest.map encP)), .un, .un, X, Y, .ow (.lst (got.map encP))] ∧ got.Perm qs := by
  obtain ⟨⟨j1, rest, cs⟩, e1, h1, h2⟩ := forL_inv' (t := put 4) (body := b4f_ring_line) (fun (i : Nat) => D.int (i : Int)) (fun (s : J × Ps × Ps) => [Sl.ow (encJ s.1), A, B, C, .un, .ow (.lst (s.2.1.map encP)), .un, .un, X, Y, .ow (.lst (s.2.2.map encP))]) (RsP qs) (List.range qs.length) [] (j, qs, [])
    ⟨rfl, by simp⟩ (by
      rintro ys zs x e ⟨j1, rest, cs⟩ ⟨h1, h2⟩
      have hl : ys.length < qs.length := by
        have := congrArg List.length e
        simp at this; omega
      have hr : rest.length + cs.length = qs.length := by
        have := h2.length_eq
        simpa using this
      have hy : cs.length = ys.length := by simpa using h1
      have hp : 0 < rest.length := by omega
      have e2 := ev_dip' j1 rest.length hp (by omega)
      have hlt := dipN_lt j1 hp
      have e3 : rest[dipN j1 rest.length]? = some rest[dipN j1 rest.length] := List.getElem?_eq_getElem hlt
      have e4 := popR_ok (ds := rest.map encP) (n := dipN j1 rest.length) (d := encP rest[dipN j1 rest.length]) (by omega) (by rw [List.getElem?_map, e3]; rfl)
      have hz : cs.length < 16777216 := by omega
      refine ⟨(dipJ j1 rest.length, rest.eraseIdx (dipN j1 rest.length), cs ++ [rest[dipN j1 rest.length]]), ?_, ?_, ?_⟩
      · simp [b4f_ring_line, e2, e4, hz, map_erase]
      · simp; omega
      · refine List.Perm.trans ?_ h2
        refine List.Perm.trans ?_ ((erase_perm e3).append_right cs)
        rw [← List.append_assoc]
        exact List.perm_append_singleton _ _)
  have hr : rest = [] := by
    have := h2.length_eq
    have h1 : cs.length = qs.length := by simpa using h1
    simp at this
    exact List.length_eq_zero_iff.mp (by omega)
  subst hr
  exact ⟨j1, [], cs, e1, by simpa using h2⟩
theorem sorted2 (a b : Nat) : dSorted (.lst [.str [a], .str [b]]) = some (.lst ((sortN [a, b]).map fun n => D.str [n])) := sorted_signs (c := [a, b]) (by simp)
theorem sorted3 (a b c : Nat) : dSorted (.lst [.str [a], .str [b], .str [c]]) = some (.lst ((sortN [a, b, c]).map fun n => D.str [n])) := sorted_signs (c := [a, b, c]) (by simp)
theorem ringB (j : J) (a f : Nat → Nat) (B : Sl) : ∃ (j' : J) (own2 : Cs), (own2 = [f 2, f 3] ∨ own2 = [f 2, f 3, f 5]) ∧ forL (put 6) b2f_ring_line ((List.range 5).map fun (i : Nat) => D.int (i : Int)) [.ow (encJ j), .fz (.str [a 0, a 1, a 2, a 3, a 4, a 5]), B, .fz (.lst [.str [f 0], .str [f 1], .str [f 2], .str [f 3], .str [f 4], .str [f 5], .str [f 6]]), .un, .ow (.lst []), .un, .un, .un, .un, .un] = .ok .nx [.ow (encJ j'), .fz (.str [a 0, a 1, a 2, a 3, a 4, a 5]), B, .fz (.lst [.str [f 0], .str [f 1], .str [f 2], .str [f 3], .str [f 4], .str [f 5], .str [f 6]]), .un, .ow (.lst (([(a 0, sortN [f 0, f 1]), (a 1, sortN [f 1, f 2]), (a 2, sortN own2), (a 3, sortN [f 3, f 4]), (a 4, sortN [f 4, f 0])] : Ps).map encP)), .un, .un, .un, .un, .un] := by
  have e5 : List.range 5 = [0, 1, 2, 3, 4] := rfl
  by_cases hd : dipN j 3 = 0
  · refine ⟨dipJ j 3, [f 2, f 3, f 5], .inr rfl, ?_⟩
    simp [e5, b2f_ring_line, sorted2, sorted3, hd, encP]
  · refine ⟨dipJ j 3, [f 2, f 3], .inl rfl, ?_⟩
    simp [e5, b2f_ring_line, sorted2, sorted3, hd, encP]
theorem six_of {c : Cs} (h : c.length = 6) : ∃ a : Nat → Nat, c = [a 0, a 1, a 2, a 3, a 4, a 5] := by
  match c, h with
  | [a, b, c, d, e, f], _ => exact ⟨fun i => [a, b, c, d, e, f].getD i 0, rfl⟩
theorem seven_of {c : Cs} (h : c.length = 7) : ∃ a : Nat → Nat, c = [a 0, a 1, a 2, a 3, a 4, a 5, a 6] := by
  match c, h with
  | [a, b, c, d, e, f, g], _ => exact ⟨fun i => [a, b, c, d, e, f, g].getD i 0, rfl⟩
theorem ring_ex (j : J) : ∃ (ps : Ps) (j' : J), gf_ring_line [encJ j] = .ok (Lot ps) [encJ j'] ∧ ∃ a f own2 mo, Ringy ps a f own2 mo := by
  obtain ⟨nm, j1, e1, n1, n2, n3⟩ := glyphs_ex j (n := 6) (by decide)
  obtain ⟨a, rfl⟩ := six_of n1
  obtain ⟨j2, rest, got, e2, g1, g2, g3⟩ := ringF j1 (.str [a 0, a 1, a 2, a 3, a 4, a 5])
  obtain ⟨f, rfl⟩ := seven_of g1
  obtain ⟨j3, own2, o2, e3⟩ := ringB j2 a f (.ow (.lst (rest.map fun c => D.str [c])))
  obtain ⟨x, hx, e4⟩ := pick_ex j3 (xs := [.lst [], .lst [.str [f 6]], .lst [.str [f 1], .str [f 2]], .lst [.str [f 0], .str [f 1], .str [f 2]], .lst [.str [f 0]], .lst [.str [f 0], .str [f 1], .str [f 2], .str [f 3], .str [f 4]], .lst [.str [f 0], .str [f 2]], .lst [], .lst [.str [f 6]]]) (by simp) (by simp)
  have hmo : ∃ mo : Cs, x = .lst (mo.map fun n => D.str [n]) ∧ mo.length < 64 ∧ mo ∈ [[], [f 6], [f 1, f 2], [f 0, f 1, f 2], [f 0], [f 0, f 1, f 2, f 3, f 4], [f 0, f 2], [], [f 6]] := by
    simp only [List.mem_cons, List.not_mem_nil, or_false] at hx
    rcases hx with h | h | h | h | h | h | h | h | h
    · exact ⟨[], h, by simp, by simp⟩
    · exact ⟨[f 6], h, by simp, by simp⟩
    · exact ⟨[f 1, f 2], h, by simp, by simp⟩
    · exact ⟨[f 0, f 1, f 2], h, by simp, by simp⟩
    · exact ⟨[f 0], h, by simp, by simp⟩
    · exact ⟨[f 0, f 1, f 2, f 3, f 4], h, by simp, by simp⟩
    · exact ⟨[f 0, f 2], h, by simp, by simp⟩
    · exact ⟨[], h, by simp, by simp⟩
    · exact ⟨[f 6], h, by simp, by simp⟩
  obtain ⟨mo, rfl, hml, hmm⟩ := hmo
  obtain ⟨j5, r5, ps, e5, hp⟩ := ringS (dipJ j3 9) (ringQ a f own2 mo) (by unfold ringQ; split <;> simp) (.fz (.str [a 0, a 1, a 2, a 3, a 4, a 5])) (.ow (.lst (rest.map fun c => D.str [c]))) (.fz (.lst [.str [f 0], .str [f 1], .str [f 2], .str [f 3], .str [f 4], .str [f 5], .str [f 6]])) (.fz (.lst [.lst [], .lst [.str [f 6]], .lst [.str [f 1], .str [f 2]], .lst [.str [f 0], .str [f 1], .str [f 2]], .lst [.str [f 0]], .lst [.str [f 0], .str [f 1], .str [f 2], .str [f 3], .str [f 4]]])) (.fz (.lst (mo.map fun n => D.str [n])))
  have hr : Ringy ps a f own2 mo := ⟨n2, g2, fun i hi => n3 _ (by
    have : i = 0 ∨ i = 1 ∨ i = 2 ∨ i = 3 ∨ i = 4 ∨ i = 5 := by omega
    rcases this with rfl | rfl | rfl | rfl | rfl | rfl <;> simp), fun i hi => g3 _ (by
    have : i = 0 ∨ i = 1 ∨ i = 2 ∨ i = 3 ∨ i = 4 ∨ i = 5 ∨ i = 6 := by omega
    rcases this with rfl | rfl | rfl | rfl | rfl | rfl | rfl <;> simp), o2, hmm, hp⟩
  have hps : ps.length ≤ 16777216 := hr.good.sz
  refine ⟨ps, j5, ?_, a, f, own2, mo, hr⟩
  have es : S_01234567 = figs8 := rfl
  have e6 : (setN mo).length ≤ 16777216 := by
    have h1 : (setN mo).Nodup := (setN_up mo).imp fun {a b} h => Nat.ne_of_lt h
    have := List.Nodup.length_le_of_subset (l₂ := mo) h1 fun x hx => mem_setN.mp hx
    omega
  have e7 := sortedSet_signs hml
  simp only [List.length_cons, List.length_nil, Nat.zero_add, Nat.reduceAdd] at e4
  have e1' : gf_glyphs [encJ j, .int 6] = .ok (.str [a 0, a 1, a 2, a 3, a 4, a 5]) [encJ j1] := e1
  simp only [List.map_cons, List.map_nil] at e3
  by_cases hmo : mo = []
  · subst hmo
    simp only [ringQ, if_true, List.append_nil, List.length_cons, List.length_nil, Nat.zero_add, Nat.reduceAdd, List.map_cons, List.map_nil] at e5
    simp only [List.map_nil] at e4
    simp [gf_ring_line, mf_ring_line, entry, enc, e1', es, l0f_ring_line, e2, l2f_ring_line, e3, e4, l4f_ring_line, e5, hps, Lot]
  · simp only [ringQ, hmo, if_false, List.length_append, List.length_cons, List.length_nil, Nat.zero_add, Nat.reduceAdd, List.map_cons, List.map_nil, List.map_append] at e5
    simp [gf_ring_line, mf_ring_line, entry, enc, e1', es, l0f_ring_line, e2, l2f_ring_line, e3, e4, e7, hmo, e6, l4f_ring_line, hps, Lot]
    simp only [List.cons_append, List.nil_append] at e5
    rw [show D.tup [D.str [a 5], D.str (setN mo)] = encP (a 5, setN mo) from rfl, e5]
    simp [hps]
/-! f_any_line -/
theorem any_ex (j : J) : ∃ q : Ps × J, gf_any_line [encJ j] = .ok (Lot q.1) [encJ q.2] ∧ Good q.1 ∧ ∀ p ∈ q.1, p.1 ∈ ltrs := by
  by_cases hd : dipN j 2 = 0
  · obtain ⟨ps, j', e, g⟩ := plain_ex (dipJ j 2)
    exact ⟨(ps, j'), by simp [gf_any_line, mf_any_line, entry, enc, hd, e], g⟩
  · obtain ⟨ps, j', e, a, f, o, m, r⟩ := ring_ex (dipJ j 2)
    exact ⟨(ps, j'), by simp [gf_any_line, mf_any_line, entry, enc, hd, e], r.good, r.ltr⟩
noncomputable def anyQ (j : J) : Ps × J := Classical.choose (any_ex j)
@[simp] theorem ev_any (j : J) : gf_any_line [encJ j] = .ok (Lot (anyQ j).1) [encJ (anyQ j).2] := (Classical.choose_spec (any_ex j)).1
theorem anyQ_good (j : J) : Good (anyQ j).1 := (Classical.choose_spec (any_ex j)).2.1
theorem anyQ_ltr (j : J) : ∀ p ∈ (anyQ j).1, p.1 ∈ ltrs := (Classical.choose_spec (any_ex j)).2.2
/-! f_Line__uinit__ -/
@[simp] theorem ev_init {ps : Ps} (g : Good ps) : gf_Line__uinit__ [.ins "Line" [], Lot ps] = .ok .non [LineD ps] := by
  simp [gf_Line__uinit__, mf_Line__uinit__, entry, enc, ev_check_signs g, LineD]
/-! f_check_sign -/
theorem ev_check_sign {ps : Ps} (g : Good ps) {p : Nat × Cs} (hp : p ∈ ps) : gf_check_sign [LineD ps, .str [p.1]] = .ok .non [] := by
  have e := ev_contains g p.1
  rw [decide_eq_true (List.mem_map.mpr ⟨p, hp, rfl⟩)] at e
  simp [gf_check_sign, mf_check_sign, entry, enc, e]
/-! f_Line_looks_of -/
theorem idx_of {ps : Ps} (nd : (ps.map (·.1)).Nodup) {p : Nat × Cs} (h : p ∈ ps) : ∃ i, idx1 p.1 (ps.map (·.1)) = some i ∧ ps[i]? = some p := by
  induction ps with
  | nil => cases h
  | cons q r ih =>
    rw [List.map_cons, List.nodup_cons] at nd
    rcases List.mem_cons.mp h with rfl | h
    · exact ⟨0, by simp [idx1], rfl⟩
    · obtain ⟨i, h1, h2⟩ := ih nd.2 h
      have hne : q.1 ≠ p.1 := fun e => nd.1 (by rw [e]; exact List.mem_map.mpr ⟨p, h, rfl⟩)
      exact ⟨i + 1, by simp [idx1, hne, h1], by simpa using h2⟩
@[simp] theorem okLooks (ps : Ps) : okIns "Line" "looks_of" (LineD ps) = true := nrfl rfl
theorem ev_looks_of {ps : Ps} (g : Good ps) {p : Nat × Cs} (h : p ∈ ps) : gf_Line_looks_of [LineD ps, .str [p.1]] = .ok (.str p.2) [] := by
  obtain ⟨i, h1, h2⟩ := idx_of g.nd h
  have e3 : dIndex (.str (ps.map (·.1))) [.str [p.1]] = some (.int (i : Int)) := by
    show (idx1 p.1 (ps.map (·.1))).map (fun i => D.int (i : Nat)) = _
    rw [h1]; rfl
  simp [gf_Line_looks_of, mf_Line_looks_of, entry, enc, ev_check_sign g h, ev_letters g, e3, h2]
theorem ev_looks_at {ps : Ps} (g : Good ps) {a : Nat} (ha : a ∈ names ps) : gf_Line_looks_of [LineD ps, .str [a]] = .ok (.str (lkOf ps a)) [] := by
  obtain ⟨p, hp, rfl⟩ := mem_names ha
  rw [ev_looks_of g hp, lkOf_of g.nd hp]
/-! f_share_look -/
theorem ev_share_look {ps : Ps} (g : Good ps) {p q : Nat × Cs} (hp : p ∈ ps) (hq : q ∈ ps) : gf_share_look [LineD ps, .str [p.1], .str [q.1]] = .ok (.bl (mix p q)) [] := by
  simp [gf_share_look, mf_share_look, entry, enc, ev_looks_of g hp, ev_looks_of g hq, mix]
/-! f_mixed_table -/
theorem ev_mixed_table {ps : Ps} (g : Good ps) : gf_mixed_table [LineD ps] = .ok (TabD ps) [] := by
  have e1 := forL_fold (t := put 2) (body := b0f_mixed_table) (fun p : Nat × Cs => D.str [p.1]) (fun s => [Sl.fz (LineD ps), .ow (.dct s), .un, .un]) (fun s p => s ++ [(DK.s [p.1], D.str ((ps.filter fun q => mix p q).map (·.1)))]) ps [] (by
    intro ys zs x e
    have hx := mem_of_app e
    have hl : ys.length < 16777216 := by have := g.six; rw [e] at this; simp at this; omega
    rw [foldl_snoc]
    have hk : ∀ d, putK' (.s [x.1]) d (ys.map fun p => (DK.s [p.1], D.str ((ps.filter fun q => mix p q).map (·.1)))) = (ys.map fun p => (DK.s [p.1], D.str ((ps.filter fun q => mix p q).map (·.1)))) ++ [(DK.s [x.1], d)] := fun d => putK_new fun kv hkv => by
      obtain ⟨y, hy, rfl⟩ := List.mem_map.mp hkv
      have := nd_app g.nd e y hy
      simpa using this
    have e2 := lcx_of (t := fun q : Nat × Cs => (rF (gf_share_look [LineD ps, D.str [x.1], D.str [q.1]])).bind fun a => R.of (tru a)) (e := fun q => .ok (D.str [q.1])) (fun q => mix x q) (fun q => D.str [q.1]) (xs := ps) (fun q hq => by rw [ev_share_look g hx hq]; simp) (fun _ _ _ => rfl)
    have hf : (ps.filter fun q => mix x q).length ≤ 16777216 := Nat.le_trans (List.length_filter_le _ _) g.sz
    simp [b0f_mixed_table, ev_letters g, hl]
    rw [e2]
    simp [hf, hl, hk])
  rw [foldl_snoc] at e1
  simp [gf_mixed_table, mf_mixed_table, entry, enc, l0f_mixed_table, ev_letters g, Function.comp_def, e1, g.sz, TabD]
/-! f_all_apart -/
def apartL (ps : Ps) : List Cs := (lotsN (ord ps)).filter (isApart ps)
def allApart (ps : Ps) : List Cs := sortS ((apartL ps).filter fun x => decide (x.length = mostL (apartL ps)))
theorem nil_apart (ps : Ps) : [] ∈ apartL ps := List.mem_filter.mpr ⟨(mem_lotsN _).mpr (List.nil_sublist _), rfl⟩
theorem one_apart {ps : Ps} {a : Nat} (ha : a ∈ names ps) : [a] ∈ apartL ps := by
  refine List.mem_filter.mpr ⟨(mem_lotsN _).mpr (List.singleton_sublist.mpr (mem_sortN.mpr ha)), ?_⟩
  simp [isApart]
theorem most_pos {ps : Ps} (g : Good ps) : 1 ≤ mostL (apartL ps) := by
  have h2 := g.two
  cases e : ps with
  | nil => rw [e] at h2; simp at h2
  | cons p r =>
    have := (mostL_spec (l := apartL ps) (List.ne_nil_of_mem (nil_apart ps))).2.2 [p.1] (one_apart (by rw [e]; simp [names]))
    rw [e] at this
    simpa using this
theorem apart63 {ps : Ps} (g : Good ps) : ((apartL ps).filter fun x => decide (x.length = mostL (apartL ps))).length < 64 := by
  have hp := most_pos g
  obtain ⟨r, hr⟩ := lotsN_head (ord ps)
  have h64 := lots64 g
  have : (apartL ps).filter (fun x => decide (x.length = mostL (apartL ps))) = (r.filter (isApart ps)).filter fun x => decide (x.length = mostL (apartL ps)) := by
    generalize mostL (apartL ps) = m at hp
    unfold apartL
    rw [hr]
    have h0 : ¬ (0 = m) := by omega
    rw [List.filter_cons]
    split
    · rw [List.filter_cons]; simp [h0]
    · rfl
  rw [this]
  rw [hr, List.length_cons] at h64
  have h1 := List.length_filter_le (fun x : Cs => decide (x.length = mostL (apartL ps))) (r.filter (isApart ps))
  have h2 := List.length_filter_le (isApart ps) r
  omega
theorem ev_all_apart {ps : Ps} (g : Good ps) : gf_all_apart [LineD ps] = .ok (.lst ((allApart ps).map .str)) [] := by
  have h6 : (ps.map (·.1)).length ≤ 6 := by rw [List.length_map]; exact g.six
  have e1 := lcx_of (t := fun x : Cs => (rF (gf_is_apart [TabD ps, D.str x])).bind fun a => R.of (tru a)) (e := fun x => .ok (D.str x)) (isApart ps) D.str (xs := lotsN (ord ps)) (fun x hx => by rw [ev_is_apart g ((mem_lotsN _).mp hx)]; simp) (fun _ _ _ => rfl)
  have e2 := (mostL_spec (l := apartL ps) (List.ne_nil_of_mem (nil_apart ps))).1
  have e3 := sorted_texts (apart63 g)
  simp only [lens] at e2
  simp [gf_all_apart, mf_all_apart, entry, enc, ev_mixed_table g, ev_letters g, ev_lots_of h6]
  rw [show sortN (List.map (fun x => x.fst) ps) = ord ps from rfl, e1, show List.filter (isApart ps) (lotsN (ord ps)) = apartL ps from rfl]
  simp [e2, e3, allApart]
/-! f_all_knots -/
def knotL (ps : Ps) : List Cs := (lotsN (ord ps)).tail.filter (isKnot ps)
def greatest (l : List Cs) (x : Cs) : Bool := !(l.any fun y => !decide (y = x) && x.all fun a => decide (a ∈ y))
def allKnots (ps : Ps) : List Cs := sortS ((knotL ps).filter (greatest (knotL ps)))
theorem knots63 {ps : Ps} (g : Good ps) : ((knotL ps).filter (greatest (knotL ps))).length < 64 := by
  have h1 := List.length_filter_le (greatest (knotL ps)) (knotL ps)
  have h2 := List.length_filter_le (isKnot ps) (lotsN (ord ps)).tail
  have h3 := lots63 g
  unfold knotL at *
  omega
theorem knot_turn (T L : Sl) (l acc : List Cs) (x : Cs) (h : acc.length < 1000) : turn (put 3) b0f_all_knots (.str x) [L, T, .fz (.lst (l.map .str)), .un, .ow (.lst (acc.map .str)), .un, .un] = .ok .nx [L, T, .fz (.lst (l.map .str)), .un, .ow (.lst ((if greatest l x = true then acc ++ [x] else acc).map .str)), .un, .un] := by
  have h2 : acc.length < 16777216 := by omega
  cases hg : greatest l x with
  | true =>
    simp [b0f_all_knots, h2]
    simpa [greatest] using hg
  | false =>
    simp [b0f_all_knots, h2]
    simpa [greatest] using hg
theorem ev_all_knots {ps : Ps} (g : Good ps) : gf_all_knots [LineD ps] = .ok (.lst ((allKnots ps).map .str)) [] := by
  have h6 : (ps.map (·.1)).length ≤ 6 := by rw [List.length_map]; exact g.six
  have e1 := lcx_of (t := fun x : Cs => (rF (gf_is_knot [TabD ps, D.str x])).bind fun a => R.of (tru a)) (e := fun x => .ok (D.str x)) (isKnot ps) D.str (xs := (lotsN (ord ps)).tail) (fun x hx => by rw [ev_is_knot g (tail_lots hx)]; simp) (fun _ _ _ => rfl)
  have hl : (knotL ps).length < 64 := Nat.lt_of_le_of_lt (List.length_filter_le _ _) (lots63 g)
  have e2 := forL_fold (t := put 3) (body := b0f_all_knots) D.str (fun acc : List Cs => [.fz (LineD ps), .fz (TabD ps), .fz (.lst ((knotL ps).map .str)), .un, .ow (.lst (acc.map .str)), .un, .un]) (fun acc x => if greatest (knotL ps) x = true then acc ++ [x] else acc) (knotL ps) [] (by
    intro ys zs x e
    refine knot_turn _ _ _ _ _ ?_
    have := foldl_filter (greatest (knotL ps)) (fun x : Cs => x) ys []
    rw [this]
    have h1 := List.length_filter_le (greatest (knotL ps)) ys
    have h2 := congrArg List.length e
    simp at h2 ⊢
    omega)
  have e3 := foldl_filter (greatest (knotL ps)) (fun x : Cs => x) (knotL ps) []
  rw [e3] at e2
  simp only [List.nil_append, List.map_id', List.map_nil] at e2
  have e4 := sorted_texts (knots63 g)
  have hl2 : ((knotL ps).filter (greatest (knotL ps))).length ≤ 16777216 := by have := knots63 g; omega
  simp [gf_all_knots, mf_all_knots, entry, enc, ev_mixed_table g, ev_letters g, ev_lots_of h6, l0f_all_knots]
  rw [show sortN (List.map (fun x => x.fst) ps) = ord ps from rfl, lcx_tail, e1, show List.filter (isKnot ps) (lotsN (ord ps)).tail = knotL ps from rfl]
  simp [e2, hl2, e4, allKnots]
/-! f_most_apart -/
theorem allApart_spec {ps : Ps} (g : Good ps) : ∃ x r, allApart ps = x :: r ∧ x.length = mostL (apartL ps) := by
  obtain ⟨x, hx, hl⟩ := (mostL_spec (l := apartL ps) (List.ne_nil_of_mem (nil_apart ps))).2.1
  have hm : x ∈ allApart ps := sortS_mem.mpr (List.mem_filter.mpr ⟨hx, decide_eq_true hl⟩)
  cases e : allApart ps with
  | nil => rw [e] at hm; cases hm
  | cons y r =>
    have hy : y ∈ allApart ps := by rw [e]; exact List.mem_cons_self
    exact ⟨y, r, rfl, of_decide_eq_true (List.mem_filter.mp (sortS_mem.mp hy)).2⟩
theorem ev_most_apart {ps : Ps} (g : Good ps) : gf_most_apart [LineD ps] = .ok (.int (mostL (apartL ps))) [] := by
  obtain ⟨x, r, e, hl⟩ := allApart_spec g
  simp [gf_most_apart, mf_most_apart, entry, enc, ev_all_apart g, e, hl]
/-! f_least_cover -/
theorem knots_nodup {ps : Ps} (g : Good ps) : ((knotL ps).filter (greatest (knotL ps))).Nodup := by
  have h1 : (lotsN (ord ps)).Nodup := lotsN_nodup ((ord_up g).imp fun {a b} h => Nat.ne_of_lt h)
  exact ((h1.sublist (List.tail_sublist _)).filter _).filter _
theorem knots20 {ps : Ps} (g : Good ps) : (allKnots ps).length ≤ 20 := by
  unfold allKnots
  rw [sortS_len]
  refine chain_bound (ls := ord ps) (by rw [ord_len]; exact g.six) (knots_nodup g) (fun x hx => tail_lots (List.mem_filter.mp (List.mem_filter.mp hx).1).1) fun x hx y hy h => ?_
  have hg := (List.mem_filter.mp hx).2
  have hy' := (List.mem_filter.mp hy).1
  by_cases e : x = y
  · exact e
  · exfalso
    simp only [greatest, Bool.not_eq_true', List.any_eq_false, Bool.and_eq_true, decide_eq_true_eq, not_and, List.all_eq_true, decide_eq_false_iff_not] at hg
    exact hg y hy' (fun q => e q.symm) h
def covers (ps : Ps) (l : List Cs) : Bool := (names ps).all fun a => l.any fun x => decide (a ∈ x)
def coverAt (ps : Ps) (k : Nat) : Option (List Cs) := ((setsN (allKnots ps) k).filter fun l => decide (l.length = k)).find? (covers ps)
def leastCover (ps : Ps) : List Cs := match (List.range (allKnots ps).length).findSome? fun i => coverAt ps (i + 1) with
  | some c => c
  | none => allKnots ps
theorem cover_turn {ps : Ps} (g : Good ps) (A B : Sl) (l : List Cs) : turn (put 3) b0f_least_cover (encT l) [.fz (LineD ps), A, B, .un, .un, .un] = if covers ps l = true then .ok (.rt (encT l)) [.fz (LineD ps), A, B, .un, .un, .un] else .ok .nx [.fz (LineD ps), A, B, .un, .un, .un] := by
  cases hc : covers ps l with
  | true =>
    simp [b0f_least_cover, ev_letters g, encT]
    simpa [covers, names] using hc
  | false =>
    simp [b0f_least_cover, ev_letters g, encT]
    simpa [covers, names] using hc
theorem ev_least_cover {ps : Ps} (g : Good ps) : gf_least_cover [LineD ps] = .ok (encT (leastCover ps)) [] := by
  have h20 := knots20 g
  have step : ∀ i ∈ List.range (allKnots ps).length, (∃ d ρ', ((coverAt ps (i + 1)).map encT) = some d ∧ turn (put 2) b2f_least_cover (.int ((i + 1 : Nat) : Int)) [.fz (LineD ps), .fz (.lst ((allKnots ps).map .str)), .un, .un, .un, .un] = .ok (.rt d) ρ') ∨ (((coverAt ps (i + 1)).map encT) = none ∧ turn (put 2) b2f_least_cover (.int ((i + 1 : Nat) : Int)) [.fz (LineD ps), .fz (.lst ((allKnots ps).map .str)), .un, .un, .un, .un] = .ok .nx [.fz (LineD ps), .fz (.lst ((allKnots ps).map .str)), .un, .un, .un, .un]) := fun i _ => by
    have e1 := forL_find (t := put 3) (body := b0f_least_cover) encT [.fz (LineD ps), .fz (.lst ((allKnots ps).map .str)), .fz (.int ((i + 1 : Nat) : Int)), .un, .un, .un] (covers ps) encT (fun _ => [.fz (LineD ps), .fz (.lst ((allKnots ps).map .str)), .fz (.int ((i + 1 : Nat) : Int)), .un, .un, .un]) ((setsN (allKnots ps) (i + 1)).filter fun l => decide (l.length = i + 1)) fun l _ => cover_turn g _ _ l
    have e2 := ev_sets_of (i + 1) h20
    simp only [Int.natCast_add, Int.natCast_one] at e1 e2 ⊢
    cases hc : coverAt ps (i + 1) with
    | none =>
      unfold coverAt at hc
      rw [hc] at e1
      right
      refine ⟨rfl, ?_⟩
      simp [b2f_least_cover, l0f_least_cover, e2, e1]
    | some l =>
      unfold coverAt at hc
      rw [hc] at e1
      left
      refine ⟨_, [.fz (LineD ps), .fz (.lst ((allKnots ps).map .str)), .un, .un, .un, .un], rfl, ?_⟩
      simp [b2f_least_cover, l0f_least_cover, e2, e1]
  have hr := dRng2_1 (n := (allKnots ps).length) (by omega)
  rcases forL_some (t := put 2) (body := b2f_least_cover) (fun (i : Nat) => D.int ((i + 1 : Nat) : Int)) (fun i => (coverAt ps (i + 1)).map encT) step with ⟨d, ρ', h1, h2⟩ | ⟨h1, h2⟩
  · rw [findSome_map] at h1
    obtain ⟨l, hl, rfl⟩ := Option.map_eq_some_iff.mp h1
    simp [gf_least_cover, mf_least_cover, entry, enc, ev_all_knots g, l2f_least_cover, hr, leastCover, hl]
    simp only [Int.natCast_add, Int.natCast_one] at h2
    rw [h2]
    simp
  · rw [findSome_map] at h1
    have hl := Option.map_eq_none_iff.mp h1
    simp [gf_least_cover, mf_least_cover, entry, enc, ev_all_knots g, l2f_least_cover, hr, leastCover, hl]
    simp only [Int.natCast_add, Int.natCast_one] at h2
    rw [h2]
    simp [encT]
/-! f_cover -/
theorem ev_cover {ps : Ps} (g : Good ps) : gf_cover [LineD ps] = .ok (encT (leastCover ps)) [] := by
  simp [gf_cover, mf_cover, entry, enc, ev_least_cover g]
/-! f_fewest_knots -/
theorem ev_fewest_knots {ps : Ps} (g : Good ps) : gf_fewest_knots [LineD ps] = .ok (.int ((leastCover ps).length : Int)) [] := by
  have e : dLen [encT (leastCover ps)] = some (.int ((leastCover ps).length : Int)) := by simp [encT]
  simp [gf_fewest_knots, mf_fewest_knots, entry, enc, ev_least_cover g, e]
/-! f_is_whole -/
def isWhole (ps : Ps) : Bool := decide (mostL (apartL ps) = (leastCover ps).length)
theorem ev_is_whole {ps : Ps} (g : Good ps) : gf_is_whole [LineD ps] = .ok (.bl (isWhole ps)) [] := by
  simp [gf_is_whole, mf_is_whole, entry, enc, ev_most_apart g, ev_fewest_knots g, isWhole]
/-! f_law -/
theorem law_of (hr : ∀ j, ∃ j', gf_right [encJ j] = .ok (.bl true) [encJ j']) : ∀ ns : List Int, ns.length ≤ 63 → ∃ es, gf_law [.lst (ns.map .int)] = .ok (.bl true) es := by
  intro ns hl
  have turnL : ∀ k : Nat, k < 5 → turn (put 1) b0f_law (.int (k : Int)) [.fz (.lst (ns.map .int)), .un] = .ok .nx [.fz (.lst (ns.map .int)), .un] := fun k hk => by
    obtain ⟨j, e1⟩ := ev_jar (ns := ns) hk
    obtain ⟨j', e2⟩ := hr j
    simp [b0f_law, e1, e2]
  have loop : ∀ n : Nat, n ≤ 5 → forL (put 1) b0f_law ((List.range n).map fun (i : Nat) => D.int (i : Int)) [.fz (.lst (ns.map .int)), .un] = .ok .nx [.fz (.lst (ns.map .int)), .un] := fun n hn => by
    obtain ⟨_, e, _⟩ := forL_inv (t := put 1) (body := b0f_law) (fun (_ : Unit) => [.fz (.lst (ns.map .int)), .un]) (fun _ => True) ((List.range n).map fun (i : Nat) => D.int (i : Int)) () trivial fun d hd _ _ => by
      obtain ⟨k, hk, rfl⟩ := List.mem_map.mp hd
      exact ⟨(), turnL k (by have := List.mem_range.mp hk; omega), trivial⟩
    exact e
  have key : ∃ n : Nat, n ≤ 5 ∧ srcL dRng1 (argc (opL dMax2 (argc (cn (.int 2)) (argc (opL dMin2 (argc (opL dLen (argc (v 0) args0)) (argc (cn (.int 5)) args0))) args0))) args0) [.fz (.lst (ns.map .int)), .un] = .ok ((List.range n).map fun (i : Nat) => D.int (i : Int)) [.fz (.lst (ns.map .int)), .un] := by
    have hm : ∃ n : Nat, n ≤ 5 ∧ (if (if (5 : Int) < (ns.length : Int) then (5 : Int) else (ns.length : Int)) > 2 then (if (5 : Int) < (ns.length : Int) then (5 : Int) else (ns.length : Int)) else 2) = (n : Int) := by
      refine ⟨(if (if (5 : Int) < (ns.length : Int) then (5 : Int) else (ns.length : Int)) > 2 then (if (5 : Int) < (ns.length : Int) then (5 : Int) else (ns.length : Int)) else 2).toNat, ?_, ?_⟩
      · split <;> split <;> omega
      · split <;> split <;> omega
    obtain ⟨n, h1, h2⟩ := hm
    refine ⟨n, h1, ?_⟩
    have h3 : n ≤ 16777216 := by omega
    simp only [at_srcL, at_argc, at_opL, at_cn, at_v, at_args0, Out.b_ok, List.getElem?_cons_zero, fzR_fz, R.k_ok, dLen_lst, at_lift, R.of_some, List.length_map, dMin2_int, dMax2_int, h2, dRng1_nat, sz_val, h3, if_true]
  obtain ⟨n, h1, h2⟩ := key
  exact ⟨[], by simp only [gf_law, mf_law, l0f_law, at_fnM, entry, enc, List.length_cons, List.length_nil, at_seqM, at_preM, wipeA_cons, wipeA_nil, at_forM, at_retM, at_cn, Nat.reduceAdd, Nat.reduceSub, if_true, List.contains_nil, Bool.false_eq_true, if_false, List.replicate, List.cons_append, List.nil_append, List.set_cons_succ, List.set_cons_zero, h2, Out.b_ok, loop n h1, Out.s_nx, fin0_rt]⟩
/-! x_apart -/
/-! both looks at lots apart agree (isApart, lawApart) -/
theorem lawApart_eq {ps : Ps} (g : Good ps) {x : Cs} (hx : x.Sublist (ord ps)) : lawApart ps x = isApart ps x := by
  rw [Bool.eq_iff_iff]
  simp only [lawApart, List.all_eq_true, decide_eq_true_eq, isApart, Bool.not_eq_true', List.any_eq_false, List.mem_filter, Bool.not_eq_true, and_imp, decide_eq_false_iff_not]
  constructor
  · intro h a ha b hb hne
    exact (filter_one g hx ha).mp (h a ha) b hb hne
  · intro h a ha
    exact (filter_one g hx ha).mpr fun b hb hne => h a ha b hb hne
theorem lawApartL_eq {ps : Ps} (g : Good ps) : apartL ps = [] :: lawApartL ps := by
  obtain ⟨r, hr⟩ := lotsN_head (ord ps)
  have : lawApartL ps = (lotsN (ord ps)).tail.filter (isApart ps) := List.filter_congr fun x hx => lawApart_eq g (tail_lots hx)
  rw [this, apartL, hr]
  simp [isApart]
theorem apart_same {ps : Ps} (g : Good ps) : sortS ((lawApartL ps).filter fun x => decide (x.length = mostL (lawApartL ps))) = allApart ps := by
  have h1 := most_pos g
  have e := lawApartL_eq g
  have hm : mostL (lawApartL ps) = mostL (apartL ps) := by
    have s1 := mostL_spec (l := apartL ps) (List.ne_nil_of_mem (nil_apart ps))
    have hne : lawApartL ps ≠ [] := by
      intro h
      rw [h] at e
      obtain ⟨x, hx, hl⟩ := s1.2.1
      rw [e] at hx
      rw [List.mem_singleton.mp hx] at hl
      simp at hl
      omega
    have s2 := mostL_spec hne
    obtain ⟨x, hx, hl⟩ := s1.2.1
    obtain ⟨y, hy, hl'⟩ := s2.2.1
    have := s1.2.2 y (by rw [e]; exact List.mem_cons_of_mem _ hy)
    have hx' : x ∈ lawApartL ps := by
      rw [e] at hx
      rcases List.mem_cons.mp hx with h | h
      · rw [h] at hl; simp at hl; omega
      · exact h
    have := s2.2.2 x hx'
    omega
  unfold allApart
  rw [hm]
  congr 1
  generalize mostL (apartL ps) = m at h1
  rw [e, List.filter_cons]
  have : ¬ (0 = m) := by omega
  simp [this]
/-! x_cover -/
/-! ### covers by knots -/
theorem tail_ne {ps : Ps} (g : Good ps) {x : Cs} (h : x ∈ (lotsN (ord ps)).tail) : x ≠ [] := by
  have nd : (lotsN (ord ps)).Nodup := lotsN_nodup ((ord_up g).imp fun {a b} h => Nat.ne_of_lt h)
  obtain ⟨r, hr⟩ := lotsN_head (ord ps)
  rw [hr] at nd h
  intro e
  subst e
  exact (List.nodup_cons.mp nd).1 h
theorem knot_mem {ps : Ps} {x : Cs} (h : x ∈ allKnots ps) : x ∈ knotL ps ∧ greatest (knotL ps) x = true := List.mem_filter.mp (sortS_mem.mp h)
theorem knot_sub {ps : Ps} {x : Cs} (h : x ∈ allKnots ps) : x.Sublist (ord ps) := tail_lots (List.mem_filter.mp (knot_mem h).1).1
theorem knot_is {ps : Ps} {x : Cs} (h : x ∈ allKnots ps) : isKnot ps x = true := (List.mem_filter.mp (knot_mem h).1).2
theorem mem_tail {ps : Ps} {x : Cs} (hs : x.Sublist (ord ps)) (hn : x ≠ []) : x ∈ (lotsN (ord ps)).tail := by
  have := (mem_lotsN _).mpr hs
  obtain ⟨r, hr⟩ := lotsN_head (ord ps)
  rw [hr] at this ⊢
  rcases List.mem_cons.mp this with h | h
  · exact absurd h hn
  · exact h
theorem longest {l : List Cs} {p : Cs → Prop} (h : ∃ x ∈ l, p x) (b : Nat) (hb : ∀ x ∈ l, x.length ≤ b) : ∃ x ∈ l, p x ∧ ∀ y ∈ l, p y → y.length ≤ x.length := by
  obtain ⟨x, hx, px⟩ := h
  have key : ∀ n (x : Cs), x ∈ l → p x → b - x.length ≤ n → ∃ x ∈ l, p x ∧ ∀ y ∈ l, p y → y.length ≤ x.length := by
    intro n
    induction n with
    | zero =>
      intro x hx px hn
      exact ⟨x, hx, px, fun y hy _ => by have := hb y hy; omega⟩
    | succ n ih =>
      intro x hx px hn
      by_cases hc : ∀ y ∈ l, p y → y.length ≤ x.length
      · exact ⟨x, hx, px, hc⟩
      · obtain ⟨y, hy⟩ := Classical.not_forall.mp hc
        obtain ⟨hy1, hy2⟩ := Classical.not_imp.mp hy
        obtain ⟨py, hy3⟩ := Classical.not_imp.mp hy2
        exact ih y hy1 py (by have := hb y hy1; omega)
  exact key _ x hx px (Nat.le_refl _)
/-- each sign is in a knot -/
theorem in_knot {ps : Ps} (g : Good ps) {a : Nat} (ha : a ∈ names ps) : ∃ x ∈ allKnots ps, a ∈ x := by
  have h1 : [a] ∈ knotL ps := List.mem_filter.mpr ⟨mem_tail (List.singleton_sublist.mpr (mem_sortN.mpr ha)) (by simp), by simp [isKnot, adj_self g ha]⟩
  have hb : ∀ x ∈ knotL ps, x.length ≤ 6 := fun x hx => lot_len g (tail_lots (List.mem_filter.mp hx).1)
  obtain ⟨x, hx, hax, hmax⟩ := longest (l := knotL ps) (p := fun x => a ∈ x) ⟨[a], h1, by simp⟩ 6 hb
  refine ⟨x, sortS_mem.mpr (List.mem_filter.mpr ⟨hx, ?_⟩), hax⟩
  simp only [greatest, Bool.not_eq_true', List.any_eq_false, Bool.and_eq_true, decide_eq_true_eq, not_and, List.all_eq_true, decide_eq_false_iff_not]
  intro y hy hne hsub
  have hx1 := (ord_up g).sublist (tail_lots (List.mem_filter.mp hx).1)
  have hy1 := (ord_up g).sublist (tail_lots (List.mem_filter.mp hy).1)
  exact hne (eq_of_sub_len hx1 hy1 hsub (hmax y hy (hsub a hax))).symm
theorem covers_iff {ps : Ps} {l : List Cs} : covers ps l = true ↔ ∀ a ∈ names ps, ∃ x ∈ l, a ∈ x := by
  simp [covers]
theorem covers_all {ps : Ps} (g : Good ps) : covers ps (allKnots ps) = true := covers_iff.mpr fun _ ha => in_knot g ha
theorem knots_pos {ps : Ps} (g : Good ps) : 1 ≤ (allKnots ps).length := by
  have h2 := g.two
  cases e : ps with
  | nil => rw [e] at h2; simp at h2
  | cons p r =>
    obtain ⟨x, hx, _⟩ := in_knot g (a := p.1) (by rw [e]; simp [names])
    rw [e] at hx
    exact List.length_pos_of_mem hx
theorem allKnots_nodup {ps : Ps} (g : Good ps) : (allKnots ps).Nodup := (isort_perm leS _).nodup_iff.mpr (knots_nodup g)
theorem findSome_first {β : Type} {f : Nat → Option β} : ∀ {n : Nat} {b : β}, (List.range n).findSome? f = some b → ∃ i < n, f i = some b ∧ ∀ k < i, f k = none
  | 0, b, h => by simp at h
  | n + 1, b, h => by
    rw [List.range_succ, List.findSome?_append] at h
    cases e : (List.range n).findSome? f with
    | some c =>
      rw [e] at h
      simp at h
      subst h
      obtain ⟨i, hi, h1, h2⟩ := findSome_first e
      exact ⟨i, by omega, h1, h2⟩
    | none =>
      rw [e] at h
      simp at h
      refine ⟨n, by omega, h, fun k hk => ?_⟩
      exact List.findSome?_eq_none_iff.mp e k (List.mem_range.mpr hk)
/-- the told cover: knots, in their order, that hold all signs, and no fewer do -/
theorem least_spec {ps : Ps} (g : Good ps) : (leastCover ps).Sublist (allKnots ps) ∧ covers ps (leastCover ps) = true ∧ 1 ≤ (leastCover ps).length ∧ ∀ l : List Cs, (∀ x ∈ l, x ∈ allKnots ps) → covers ps l = true → (leastCover ps).length ≤ l.length := by
  have at_some : ∀ {k : Nat} {l : List Cs}, coverAt ps k = some l → l.Sublist (allKnots ps) ∧ covers ps l = true ∧ l.length = k := fun {k l} h => by
    have h1 := List.mem_of_find?_eq_some h
    have h2 := List.find?_some h
    obtain ⟨h3, h4⟩ := List.mem_filter.mp h1
    exact ⟨((mem_setsN _ _).mp h3).1, h2, of_decide_eq_true h4⟩
  have at_of : ∀ {l : List Cs}, l.Sublist (allKnots ps) → covers ps l = true → ∃ c, coverAt ps l.length = some c := fun {l} h1 h2 => by
    cases h : coverAt ps l.length with
    | some c => exact ⟨c, rfl⟩
    | none =>
      have := List.find?_eq_none.mp h l (List.mem_filter.mpr ⟨(mem_setsN _ _).mpr ⟨h1, Nat.le_refl _⟩, decide_eq_true rfl⟩)
      exact absurd h2 this
  have hp := knots_pos g
  obtain ⟨c0, hc0⟩ := at_of (List.Sublist.refl (allKnots ps)) (covers_all g)
  cases hf : (List.range (allKnots ps).length).findSome? fun i => coverAt ps (i + 1) with
  | none =>
    have := List.findSome?_eq_none_iff.mp hf ((allKnots ps).length - 1) (List.mem_range.mpr (by omega))
    rw [show (allKnots ps).length - 1 + 1 = (allKnots ps).length by omega, hc0] at this
    cases this
  | some c =>
    have hl : leastCover ps = c := by unfold leastCover; rw [hf]
    obtain ⟨i, hi, h1, h2⟩ := findSome_first hf
    obtain ⟨s1, s2, s3⟩ := at_some h1
    rw [hl]
    refine ⟨s1, s2, by omega, fun l hlk hcov => ?_⟩
    -- the knots of l, each once, in their order
    have k1 : ((allKnots ps).filter fun x => decide (x ∈ l)).Sublist (allKnots ps) := List.filter_sublist
    have k2 : covers ps ((allKnots ps).filter fun x => decide (x ∈ l)) = true := covers_iff.mpr fun a ha => by
      obtain ⟨x, hx, hax⟩ := covers_iff.mp hcov a ha
      exact ⟨x, List.mem_filter.mpr ⟨hlk x hx, decide_eq_true hx⟩, hax⟩
    have k3 : ((allKnots ps).filter fun x => decide (x ∈ l)).length ≤ l.length := List.Nodup.length_le_of_subset ((allKnots_nodup g).filter _) fun x hx => of_decide_eq_true (List.mem_filter.mp hx).2
    have k4 : 1 ≤ ((allKnots ps).filter fun x => decide (x ∈ l)).length := by
      have h2 := g.two
      cases e : ps with
      | nil => rw [e] at h2; simp at h2
      | cons p r =>
        obtain ⟨x, hx, _⟩ := covers_iff.mp k2 p.1 (by rw [e]; simp [names])
        rw [← e]
        exact List.length_pos_of_mem hx
    obtain ⟨c2, hc2⟩ := at_of k1 k2
    by_cases hlt : ((allKnots ps).filter fun x => decide (x ∈ l)).length < i + 1
    · have := h2 (((allKnots ps).filter fun x => decide (x ∈ l)).length - 1) (by omega)
      rw [show ((allKnots ps).filter fun x => decide (x ∈ l)).length - 1 + 1 = ((allKnots ps).filter fun x => decide (x ∈ l)).length by omega, hc2] at this
      cases this
    · omega
/-- no more signs apart than knots -/
theorem most_le {ps : Ps} (g : Good ps) : mostL (apartL ps) ≤ (leastCover ps).length := by
  obtain ⟨x, hx, hl⟩ := (mostL_spec (l := apartL ps) (List.ne_nil_of_mem (nil_apart ps))).2.1
  obtain ⟨hx1, hx2⟩ := List.mem_filter.mp hx
  have hxs := (mem_lotsN _).mp hx1
  have hup := (ord_up g).sublist hxs
  have nd : x.Nodup := hup.imp fun {a b} h => Nat.ne_of_lt h
  obtain ⟨c1, c2, _, _⟩ := least_spec g
  have pickK : ∀ a ∈ x, ∃ k ∈ leastCover ps, a ∈ k := fun a ha => covers_iff.mp c2 a (lot_mem hxs ha)
  rw [← hl]
  have key : ∀ (y : Cs), y.Nodup → (∀ a ∈ y, a ∈ x) → ∃ m : List Cs, m.Nodup ∧ m.length = y.length ∧ ∀ k ∈ m, k ∈ leastCover ps ∧ ∃ a ∈ y, a ∈ k := by
    intro y
    induction y with
    | nil => intro _ _; exact ⟨[], List.nodup_nil, rfl, fun _ h => nomatch h⟩
    | cons a r ih =>
      intro ndy hy
      obtain ⟨n1, n2⟩ := List.nodup_cons.mp ndy
      obtain ⟨m, m1, m2, m3⟩ := ih n2 fun b hb => hy b (List.mem_cons_of_mem _ hb)
      obtain ⟨k, hk, hak⟩ := pickK a (hy a List.mem_cons_self)
      refine ⟨k :: m, List.nodup_cons.mpr ⟨fun hkm => ?_, m1⟩, by simp [m2], fun k' hk' => ?_⟩
      · obtain ⟨_, b, hb, hbk⟩ := m3 k hkm
        have hne : b ≠ a := fun e => n1 (by rw [← e]; exact hb)
        have hadj : adj ps a b = true := by
          have := knot_is (c1.subset hk)
          simp only [isKnot, List.all_eq_true] at this
          exact this a hak b hbk
        simp only [isApart, Bool.not_eq_true', List.any_eq_false, List.mem_filter, Bool.not_eq_true, and_imp, decide_eq_false_iff_not] at hx2
        have := hx2 a (hy a List.mem_cons_self) b (hy b (List.mem_cons_of_mem _ hb)) hne
        rw [hadj] at this; cases this
      · rcases List.mem_cons.mp hk' with rfl | h
        · exact ⟨hk, a, List.mem_cons_self, hak⟩
        · obtain ⟨q1, b, q2, q3⟩ := m3 k' h
          exact ⟨q1, b, List.mem_cons_of_mem _ q2, q3⟩
  obtain ⟨m, m1, m2, m3⟩ := key x nd fun _ h => h
  rw [← m2]
  exact List.Nodup.length_le_of_subset m1 fun k hk => (m3 k hk).1
theorem allKnots_sorted (ps : Ps) : (allKnots ps).Pairwise fun a b => leS a b = true := isort_sorted leS_tr leS_tot _
theorem perm_of_nd {l m : List Cs} (h1 : l.Nodup) (h2 : m.Nodup) (h : ∀ x, x ∈ l ↔ x ∈ m) : l.Perm m := by
  refine (List.perm_ext_iff_of_nodup h1 h2).mpr h
theorem setS_self {l : List Cs} (nd : l.Nodup) (hs : l.Pairwise fun a b => leS a b = true) : setS l = l := by
  unfold setS sortS
  refine (isort_eq leS_tr leS_tot leS_anti (perm_of_nd nd (dd_nodup' l [] List.nodup_nil) fun x => ?_) hs).symm
  rw [dd_mem]; simp
/-! x_iscover -/
theorem ev_is_cover {ps : Ps} (g : Good ps) {c : List Cs} (h1 : c.Sublist (allKnots ps)) (h2 : covers ps c = true) : gf_is_cover [Lot ps, encT c] = .ok (.bl true) [] := by
  have hl : c.length ≤ 20 := Nat.le_trans h1.length_le (knots20 g)
  have hs : setS c = c := setS_self ((allKnots_nodup g).sublist h1) ((allKnots_sorted ps).sublist h1)
  have e1 := setA_tup (l := c) (by omega) (by rw [hs]; omega)
  rw [hs] at e1
  have e2 := forL_const (t := put 4) (body := b2f_is_cover) D.str (xs := c) fun x hx => cov_out g (List.mem_filter.mp (knot_mem (h1.subset hx)).1).1 (knot_is (h1.subset hx)) (.fz (Lot ps)) (.fz (encT c))
  unfold encT at e2 ⊢
  simp [gf_is_cover, mf_is_cover, entry, enc, ev_near g, ev_lots g, e1, ne_texts_self, l2f_is_cover, e2, -List.map_tail]
  exact fun a b hab => covers_iff.mp h2 a (List.mem_map.mpr ⟨(a, b), hab, rfl⟩)
/-! x_knots -/
/-! both looks at knots agree -/
theorem lawKnot_eq (ps : Ps) (x : Cs) : lawKnot ps x = isKnot ps x := by
  rw [Bool.eq_iff_iff]
  simp [lawKnot, isKnot]
theorem lawKnotL_eq (ps : Ps) : lawKnotL ps = knotL ps := List.filter_congr fun x _ => lawKnot_eq ps x
theorem knots_same {ps : Ps} (g : Good ps) : sortS ((lawKnotL ps).filter (lawGreat (lawKnotL ps))) = allKnots ps := by
  unfold allKnots
  rw [lawKnotL_eq]
  congr 1
  refine List.filter_congr fun x hx => ?_
  have hx1 : x.Pairwise (· < ·) := (ord_up g).sublist (tail_lots (List.mem_filter.mp hx).1)
  unfold lawGreat greatest
  congr 1
  rw [Bool.eq_iff_iff]
  simp only [List.any_eq_true, Bool.and_eq_true, decide_eq_true_eq, List.all_eq_true, Bool.not_eq_true', decide_eq_false_iff_not]
  constructor
  · rintro ⟨y, hy, h1, h2⟩
    exact ⟨y, hy, fun e => by rw [e] at h1; exact Nat.lt_irrefl _ h1, h2⟩
  · rintro ⟨y, hy, h1, h2⟩
    have hy1 : y.Pairwise (· < ·) := (ord_up g).sublist (tail_lots (List.mem_filter.mp hy).1)
    refine ⟨y, hy, ?_, h2⟩
    by_cases h : x.length < y.length
    · exact h
    · exact absurd (eq_of_sub_len hx1 hy1 h2 (by omega)).symm h1
/-! x_fewest -/
/-! ### the law's own search finds as few -/
theorem layer_iff {ps : Ps} (g : Good ps) {K : List Cs} : ∀ (k : Nat) (h : Cs), h ∈ layerN K k ↔ ∃ l : List Cs, l.length = k ∧ (∀ x ∈ l, x ∈ K) ∧ h = setN l.flatten
  | 0, h => by
    constructor
    · intro hh; exact ⟨[], rfl, (fun _ q => nomatch q), List.mem_singleton.mp hh⟩
    · rintro ⟨l, hl, _, rfl⟩
      rw [List.length_eq_zero_iff.mp hl]; exact List.mem_singleton.mpr rfl
  | k + 1, h => by
    rw [show layerN K (k + 1) = nextL K (layerN K k) from rfl, mem_next]
    constructor
    · rintro ⟨h', hh', x, hx, rfl⟩
      obtain ⟨l, hl, hlK, rfl⟩ := (layer_iff g k h').mp hh'
      refine ⟨l ++ [x], by simp [hl], fun y hy => ?_, ?_⟩
      · rcases List.mem_append.mp hy with q | q
        · exact hlK y q
        · rw [List.mem_singleton.mp q]; exact hx
      · refine up_eq (setN_up _) (setN_up _) fun a => ?_
        rw [mem_uni, mem_setN, mem_setN, List.flatten_append, List.mem_append]
        simp
    · rintro ⟨l, hl, hlK, rfl⟩
      have hne : l ≠ [] := by intro e; rw [e] at hl; cases hl
      have hsplit := List.dropLast_concat_getLast hne
      refine ⟨setN l.dropLast.flatten, (layer_iff g k _).mpr ⟨l.dropLast, by rw [List.length_dropLast]; omega, fun x hx => hlK x ((List.dropLast_sublist l).subset hx), rfl⟩, l.getLast hne, hlK _ (List.getLast_mem hne), ?_⟩
      refine up_eq (setN_up _) (setN_up _) fun a => ?_
      unfold uniN
      rw [mem_setN, mem_setN, List.mem_append, mem_setN]
      conv => lhs; rw [← hsplit, List.flatten_append, List.mem_append]
      simp
theorem full_iff {ps : Ps} (g : Good ps) (k : Nat) : fullB ps.length (layerN (allKnots ps) k) = true ↔ ∃ l : List Cs, l.length = k ∧ (∀ x ∈ l, x ∈ allKnots ps) ∧ covers ps l = true := by
  simp only [fullB, List.any_eq_true, decide_eq_true_eq]
  constructor
  · rintro ⟨h, hh, hl⟩
    have hs := layer_sub g (K := allKnots ps) (fun x hx => knot_sub hx) k h hh
    obtain ⟨l, h1, h2, h3⟩ := (layer_iff g k h).mp hh
    refine ⟨l, h1, h2, covers_iff.mpr fun a ha => ?_⟩
    have he : h = ord ps := hs.eq_of_length (by rw [ord_len]; exact hl)
    have : a ∈ h := by rw [he]; exact mem_sortN.mpr ha
    rw [h3, mem_setN] at this
    obtain ⟨x, hx, hax⟩ := List.mem_flatten.mp this
    exact ⟨x, hx, hax⟩
  · rintro ⟨l, h1, h2, h3⟩
    have hm := (layer_iff g k (setN l.flatten)).mpr ⟨l, h1, h2, rfl⟩
    refine ⟨_, hm, ?_⟩
    have hs := layer_sub g (K := allKnots ps) (fun x hx => knot_sub hx) k _ hm
    have : setN l.flatten = ord ps := up_eq (setN_up _) (ord_up g) fun a => ⟨fun ha => hs.subset ha, fun ha => by
      rw [mem_setN]
      obtain ⟨x, hx, hax⟩ := covers_iff.mp h3 a (mem_sortN.mp ha)
      exact List.mem_flatten.mpr ⟨x, hx, hax⟩⟩
    rw [this, ord_len]
theorem least_le {ps : Ps} (g : Good ps) : (leastCover ps).length ≤ ps.length := by
  obtain ⟨_, _, _, h4⟩ := least_spec g
  have key : ∀ qs : Ps, (∀ p ∈ qs, p ∈ ps) → ∃ l : List Cs, l.length = qs.length ∧ (∀ x ∈ l, x ∈ allKnots ps) ∧ ∀ p ∈ qs, ∃ x ∈ l, p.1 ∈ x := by
    intro qs
    induction qs with
    | nil => intro _; exact ⟨[], rfl, (fun _ h => nomatch h), (fun _ h => nomatch h)⟩
    | cons p r ih =>
      intro hq
      obtain ⟨l, l1, l2, l3⟩ := ih fun q hq' => hq q (List.mem_cons_of_mem _ hq')
      obtain ⟨x, hx, hax⟩ := in_knot g (a := p.1) (List.mem_map.mpr ⟨p, hq p List.mem_cons_self, rfl⟩)
      refine ⟨x :: l, by simp [l1], fun y hy => ?_, fun q hq' => ?_⟩
      · rcases List.mem_cons.mp hy with rfl | h
        · exact hx
        · exact l2 y h
      · rcases List.mem_cons.mp hq' with rfl | h
        · exact ⟨x, List.mem_cons_self, hax⟩
        · obtain ⟨y, hy, h'⟩ := l3 q h
          exact ⟨y, List.mem_cons_of_mem _ hy, h'⟩
  obtain ⟨l, l1, l2, l3⟩ := key ps fun _ h => h
  rw [← l1]
  refine h4 l l2 (covers_iff.mpr fun a ha => ?_)
  obtain ⟨p, hp, rfl⟩ := mem_names ha
  exact l3 p hp
theorem fewN_eq {n : Nat} {K : List Cs} {c : Nat} (h1 : ∀ k < c, fullB n (layerN K k) = false) (h2 : fullB n (layerN K c) = true) : ∀ (m k : Nat), k ≤ c → c ≤ k + m → fewN n K m k = c
  | 0, k, hk, hc => by simp only [fewN]; omega
  | m + 1, k, hk, hc => by
    unfold fewN
    by_cases e : k = c
    · subst e; rw [h2, if_pos rfl]
    · rw [h1 k (by omega), if_neg Bool.false_ne_true]
      exact fewN_eq h1 h2 m (k + 1) (by omega) (by omega)
theorem ev_fewest {ps : Ps} (g : Good ps) : gf_fewest [Lot ps] = .ok (.int ((leastCover ps).length : Int)) [] := by
  have hk := ev_knot_lots g
  rw [knots_same g] at hk
  have e := ev_fewest' g hk (fun x hx => knot_sub hx) (fun x hx => tail_ne g (List.mem_filter.mp (knot_mem hx).1).1) (knots20 g)
  obtain ⟨s1, s2, s3, s4⟩ := least_spec g
  have : fewN ps.length (allKnots ps) ps.length 0 = (leastCover ps).length := by
    refine fewN_eq (fun k hk => ?_) ((full_iff g _).mpr ⟨leastCover ps, rfl, fun x hx => s1.subset hx, s2⟩) _ _ (Nat.zero_le _) (by have := least_le g; omega)
    cases hf : fullB ps.length (layerN (allKnots ps) k) with
    | false => rfl
    | true =>
      obtain ⟨l, l1, l2, l3⟩ := (full_iff g k).mp hf
      have := s4 l l2 l3
      omega
  rw [this] at e
  exact e
/-! lw -/
theorem rep_few {ps : Ps} (g : Good ps) (b : Bool) : ∃ s, dRepr (.lst [.int ((leastCover ps).length : Int), .int ((leastCover ps).length : Int), .bl b, .bl b]) = some (.str s) := by
  have h1 := Rp.nat (m := (leastCover ps).length) (by have := least_le g; have := g.six; omega)
  have h2 := Rp.bl b
  have h1' := h1.mono (Nat.le_refl 0) (show 1 ≤ 5 by decide)
  have := Rp.lst (k := 0) (n := 5) (m := 4) (xs := [.int ((leastCover ps).length : Int), .int ((leastCover ps).length : Int), .bl b, .bl b]) (by simp [h1', h2]) (by simp)
  exact ⟨_, this.rep (by decide) (by decide)⟩
theorem ev_right (j : J) : ∃ j', gf_right [encJ j] = .ok (.bl true) [encJ j'] := by
  obtain ⟨j', e, _⟩ := forL_inv (t := put 1) (body := b0f_right) (fun (j : J) => [.ow (encJ j), .un, .un, .un, .un, .un, .un]) (fun _ => True) ((List.range 3).map fun (i : Nat) => D.int (i : Int)) j trivial fun d hd j _ => by
    refine ⟨(anyQ j).2, ?_, trivial⟩
    have g := anyQ_good j
    obtain ⟨s1, s2, s3, s4⟩ := least_spec g
    obtain ⟨s, r1⟩ := rep_few g (isWhole (anyQ j).1)
    obtain ⟨x, r, e0, hl⟩ := allApart_spec g
    have e0' : (allApart (anyQ j).1)[0]? = some x := by rw [e0]; rfl
    have e1 : dLen [encT (leastCover (anyQ j).1)] = some (.int ((leastCover (anyQ j).1).length : Int)) := by simp [encT]
    have e2 : dNe (encT (leastCover (anyQ j).1)) (encT (leastCover (anyQ j).1)) = some (.bl false) := ne_tup_self _
    have e3 := ev_is_cover g s1 s2
    have hw : decide (mostL (apartL (anyQ j).1) = (leastCover (anyQ j).1).length) = isWhole (anyQ j).1 := rfl
    have hm := most_le g
    have hm' : ¬ ((leastCover (anyQ j).1).length < mostL (apartL (anyQ j).1)) := by omega
    simp [b0f_right, ev_init g, ev_fewest g, ev_cover g, e3, e1, e2, pick, ev_apart_lots g, apart_same g, e0', hl, ev_fewest_knots g, ev_is_whole g, ev_most_apart g, hm', hw, r1]
  exact ⟨j', by simp [gf_right, mf_right, entry, enc, l0f_right, e]⟩
theorem law_true : ∀ ns : List Int, ns.length ≤ 63 → ∃ es, gf_law [.lst (ns.map .int)] = .ok (.bl true) es := law_of ev_right
end LW

namespace LW
open PySem L2 DL PyProof.Rows
theorem fin {l : PySem.W.OpenLaw} {w : World} {K : PySem.W.Frag} {h : Heap} {mg : Str → Option Value} {fa f : Addr} {oc : Value} {od an : Option Addr} {sl : Array (Option Value)} {kV dc pm cd ct : Value} (X : K.In h) (G : h.Ns mainGlobals mg) (hfa : mg "law" = some (.ref fa)) (a : PySem.W.nsIn K mainGlobals "law" = some (some (.ref f)))
    (hl : K.lookup f = some ⟨oc, od, .func (PySem.W.fnOf "law" "law" (defArgs sf_law) (defBody sf_law) (defScope sf_law) .none kV dc pm an cd ct), sl⟩) (c : PySem.W.codeIn K cd "law" = true) (k : PySem.W.keepIn K (.ref f) = true) (T : ∀ base, Top (mkB l.prog w K mg base)) :
    ∃ fd : FuncData, (∀ (s : Shared) (u : Value), BindsTo s fd ⟨[u], []⟩ [("_law_script", u)]) ∧ ∀ base : Heap, K.In base → base.Ns mainGlobals mg → ∃ g, FnG l.prog w K mg base 13 fa fd ["_law_script"] (spF ⟨l.prog, w, K, mg, base, []⟩ [] g) ∧ ∀ ns : List Int, ns.length ≤ 63 → ∃ es, g [.lst (ns.map .int)] = .ok (.bl true) es := by
  cases hfa.symm.trans (PySem.W.mg_of X G a)
  have F := fun_mk (st := sf_law) hl c k
  exact ⟨_, fun s v => .of_eq rfl, fun base _ _ => ⟨gf_law, fn_ok (b := mkB l.prog w K mg base) F scf_law (by decide) (df_law (T base)), law_true⟩⟩
end LW
open PySem PySem.W PyProof.Rows DL in
set_option maxRecDepth 100000 in
set_option maxHeartbeats 0 in
theorem PySem.Challenge.cw_nevermixed_k09_whole_covers_by_knots_holds : PySem.Challenge.rw_nevermixed_k09_whole_covers_by_knots.Holds := by
  w_on; o_law; k_head; (case hw => w_witness2)
  k_fill
  refine DL.walk_ofG (l := PySem.Challenge.rw_nevermixed_k09_whole_covers_by_knots) (n := 63) (k := 13) (x := "_law_script") rfl (by decide) rfl ⟨rfl, by decide, by decide⟩ (fun w h Y => PySem.W.kIn_of Y) ?NL ?F
  case NL => intro w; exact noList_of (by kernel_rfl)
  case F =>
    intro w mg fa h KX G hmg
    refine' LW.fin KX G hmg ?a ?l ?c ?k ?T
    (case a => k_is)
    (case l => k_is)
    (case c => k_is)
    (case k => k_is)
    refine' top_cls (Ts := []) (P := PySem.Challenge.rw_nevermixed_k09_whole_covers_by_knots.prog) (w := w) (cl := "Line") KX G ?ca ?cp ?ch ?co ?cs ?cr_Line
    (case ca => k_is)
    (case cp => k_is)
    (case ch => k_is)
    (case co => k_is)
    (case cs => k_is)
    intro c_Line
    intro base
    exact {
      b_abs := top_none KX G (by k_is)
      b_all := top_none KX G (by k_is)
      b_any := top_none KX G (by k_is)
      b_int := top_none KX G (by k_is)
      b_isinstance := top_none KX G (by k_is)
      b_len := top_none KX G (by k_is)
      b_list := top_none KX G (by k_is)
      b_max := top_none KX G (by k_is)
      b_min := top_none KX G (by k_is)
      b_range := top_none KX G (by k_is)
      b_repr := top_none KX G (by k_is)
      b_set := top_none KX G (by k_is)
      b_sorted := top_none KX G (by k_is)
      b_str := top_none KX G (by k_is)
      b_tuple := top_none KX G (by k_is)
      g_FIGURES := by
        refine' top_str KX G ?a ?e
        (case a => k_is)
        (case e => kernel_rfl)
      g_LEAST_SIGNS := by
        refine' top_int KX G ?a
        (case a => k_is)
      g_LETTERS := by
        refine' top_str KX G ?a ?e
        (case a => k_is)
        (case e => kernel_rfl)
      g_MOST_SIGNS := by
        refine' top_int KX G ?a
        (case a => k_is)
      k_Line := ⟨_, (c_Line base).g⟩
      isi := by
        refine' top_isi1 (top_clI c_Line ?ha ?hn ?ht ?hm) ?tb ?bt
        (case ha => k_is)
        (case hn => k_is)
        (case ht => k_is)
        (case hm => k_is)
        (case tb => kernel_rfl)
        (case bt => kernel_rfl)
      l_Line_lot := top_fld c_Line (by k_is)
      tf_jar := by
        refine' top_fn KX G ?a ?l ?c ?k
        (case a => k_is)
        (case l => k_is)
        (case c => k_is)
        (case k => k_is)
      tf_check_line := by
        refine' top_fn KX G ?a ?l ?c ?k
        (case a => k_is)
        (case l => k_is)
        (case c => k_is)
        (case k => k_is)
      tf_lots_of := by
        refine' top_fn KX G ?a ?l ?c ?k
        (case a => k_is)
        (case l => k_is)
        (case c => k_is)
        (case k => k_is)
      tf_Line_letters := by
        refine' top_pro c_Line ?pa ?pg ?pt ?pr ?pl ?pc ?pk
        (case pa => k_is)
        (case pg => k_is)
        (case pt => k_is)
        (case pr => k_is)
        (case pl => k_is)
        (case pc => k_is)
        (case pk => k_is)
      tf_is_apart := by
        refine' top_fn KX G ?a ?l ?c ?k
        (case a => k_is)
        (case l => k_is)
        (case c => k_is)
        (case k => k_is)
      tf_is_letter := by
        refine' top_fn KX G ?a ?l ?c ?k
        (case a => k_is)
        (case l => k_is)
        (case c => k_is)
        (case k => k_is)
      tf_sets_of := by
        refine' top_fn KX G ?a ?l ?c ?k
        (case a => k_is)
        (case l => k_is)
        (case c => k_is)
        (case k => k_is)
      tf_is_knot := by
        refine' top_fn KX G ?a ?l ?c ?k
        (case a => k_is)
        (case l => k_is)
        (case c => k_is)
        (case k => k_is)
      tf_near := by
        refine' top_fn KX G ?a ?l ?c ?k
        (case a => k_is)
        (case l => k_is)
        (case c => k_is)
        (case k => k_is)
      tf_lots := by
        refine' top_fn KX G ?a ?l ?c ?k
        (case a => k_is)
        (case l => k_is)
        (case c => k_is)
        (case k => k_is)
      tf_are_looks := by
        refine' top_fn KX G ?a ?l ?c ?k
        (case a => k_is)
        (case l => k_is)
        (case c => k_is)
        (case k => k_is)
      tf_dip := by
        refine' top_fn KX G ?a ?l ?c ?k
        (case a => k_is)
        (case l => k_is)
        (case c => k_is)
        (case k => k_is)
      tf_is_cover := by
        refine' top_fn KX G ?a ?l ?c ?k
        (case a => k_is)
        (case l => k_is)
        (case c => k_is)
        (case k => k_is)
      tf_apart_lots := by
        refine' top_fn KX G ?a ?l ?c ?k
        (case a => k_is)
        (case l => k_is)
        (case c => k_is)
        (case k => k_is)
      tf_knot_lots := by
        refine' top_fn KX G ?a ?l ?c ?k
        (case a => k_is)
        (case l => k_is)
        (case c => k_is)
        (case k => k_is)
      tf_is_pair := by
        refine' top_fn KX G ?a ?l ?c ?k
        (case a => k_is)
        (case l => k_is)
        (case c => k_is)
        (case k => k_is)
      tf_glyphs := by
        refine' top_fn KX G ?a ?l ?c ?k
        (case a => k_is)
        (case l => k_is)
        (case c => k_is)
        (case k => k_is)
      tf_pick := by
        refine' top_fn KX G ?a ?l ?c ?k
        (case a => k_is)
        (case l => k_is)
        (case c => k_is)
        (case k => k_is)
      tf_figs := by
        refine' top_fn KX G ?a ?l ?c ?k
        (case a => k_is)
        (case l => k_is)
        (case c => k_is)
        (case k => k_is)
      tf_fewest := by
        refine' top_fn KX G ?a ?l ?c ?k
        (case a => k_is)
        (case l => k_is)
        (case c => k_is)
        (case k => k_is)
      tf_Line__ucontains__ := by
        refine' top_met c_Line ?a ?i ?l ?c ?k
        (case a => k_is)
        (case i => k_is)
        (case l => k_is)
        (case c => k_is)
        (case k => k_is)
      tf_check_signs := by
        refine' top_fn KX G ?a ?l ?c ?k
        (case a => k_is)
        (case l => k_is)
        (case c => k_is)
        (case k => k_is)
      tf_plain_line := by
        refine' top_fn KX G ?a ?l ?c ?k
        (case a => k_is)
        (case l => k_is)
        (case c => k_is)
        (case k => k_is)
      tf_ring_line := by
        refine' top_fn KX G ?a ?l ?c ?k
        (case a => k_is)
        (case l => k_is)
        (case c => k_is)
        (case k => k_is)
      tf_any_line := by
        refine' top_fn KX G ?a ?l ?c ?k
        (case a => k_is)
        (case l => k_is)
        (case c => k_is)
        (case k => k_is)
      tf_Line__uinit__ := by
        refine' top_ini c_Line ?im ?ip ?ia ?ii ?il ?ic ?ik
        (case im => k_is)
        (case ip => k_is)
        (case ia => k_is)
        (case ii => k_is)
        (case il => k_is)
        (case ic => k_is)
        (case ik => k_is)
      tf_check_sign := by
        refine' top_fn KX G ?a ?l ?c ?k
        (case a => k_is)
        (case l => k_is)
        (case c => k_is)
        (case k => k_is)
      tf_Line_looks_of := by
        refine' top_met c_Line ?a ?i ?l ?c ?k
        (case a => k_is)
        (case i => k_is)
        (case l => k_is)
        (case c => k_is)
        (case k => k_is)
      tf_share_look := by
        refine' top_fn KX G ?a ?l ?c ?k
        (case a => k_is)
        (case l => k_is)
        (case c => k_is)
        (case k => k_is)
      tf_mixed_table := by
        refine' top_fn KX G ?a ?l ?c ?k
        (case a => k_is)
        (case l => k_is)
        (case c => k_is)
        (case k => k_is)
      tf_all_apart := by
        refine' top_fn KX G ?a ?l ?c ?k
        (case a => k_is)
        (case l => k_is)
        (case c => k_is)
        (case k => k_is)
      tf_all_knots := by
        refine' top_fn KX G ?a ?l ?c ?k
        (case a => k_is)
        (case l => k_is)
        (case c => k_is)
        (case k => k_is)
      tf_most_apart := by
        refine' top_fn KX G ?a ?l ?c ?k
        (case a => k_is)
        (case l => k_is)
        (case c => k_is)
        (case k => k_is)
      tf_least_cover := by
        refine' top_fn KX G ?a ?l ?c ?k
        (case a => k_is)
        (case l => k_is)
        (case c => k_is)
        (case k => k_is)
      tf_cover := by
        refine' top_fn KX G ?a ?l ?c ?k
        (case a => k_is)
        (case l => k_is)
        (case c => k_is)
        (case k => k_is)
      tf_fewest_knots := by
        refine' top_fn KX G ?a ?l ?c ?k
        (case a => k_is)
        (case l => k_is)
        (case c => k_is)
        (case k => k_is)
      tf_is_whole := by
        refine' top_fn KX G ?a ?l ?c ?k
        (case a => k_is)
        (case l => k_is)
        (case c => k_is)
        (case k => k_is)
      tf_right := by
        refine' top_fn KX G ?a ?l ?c ?k
        (case a => k_is)
        (case l => k_is)
        (case c => k_is)
        (case k => k_is)
      tf_law := by
        refine' top_fn KX G ?a ?l ?c ?k
        (case a => k_is)
        (case l => k_is)
        (case c => k_is)
        (case k => k_is)
    }
