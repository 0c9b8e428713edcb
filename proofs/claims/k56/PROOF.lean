import PyProof.Rows.All
import Wide.All
import OpenK.AllK
import Wide.FinOn
import HandS.ForMost
import HandS.ForExc
import HandS.CallSlots
import HandS.Deep
import HandS.TupAny
import HandS.IsInst
import HandS.Text
import HandS.Flow
import HandS.TupLen
import HandS.Walk
import HandS.Zip
import HandS.RevRange
import HandS.Rev
import HandS.Defaults
import HandS.Iter
import HandS.ExcInit
import HandS.ExcField
import KE.KStateDown
import HandS.Head0
import HandS.Head1
import HandS.Head2
import HandS.HeadEnd
import HandS.HeadHook1
import HandS.HeadHook2
import HandS.ExcIs
import HandS.Conv
import HandS.WideBits
import KE.KDictZip
import KE.KDictItemsList
import HandS.MapObj
import HandS.ListItems
import HandS.ExcOwn
import HandS.CallLocal
import HandS.TryOnly
import HandS.HeadHook3
import Wide.WTab
import HandS.Exc
import HandS.SetFor
import HandS.Strs
import HandS.Dict
import HandS.FStr
import HandS.Replace
import HandS.ReplaceLit
import HandS.ReplaceDef
import HandS.Style
import KE.SortData
import PyProof.StrOps2
import PyProof.P3Eq
import PySem.Challenge.RW_topiary_k56_whole_codes_of_least_length
section
set_option Elab.async false
set_option linter.all false
set_option maxRecDepth 100000
set_option maxHeartbeats 4000000
namespace Dl
open PySem L2

/-! plain data -/
inductive D where
  | non | bl (b : Bool) | int (i : Int) | str (x : Str)
  | lst (xs : List D) | tup (xs : List D) | rd (xs : List D)
  | dic (kvs : List (Key × D)) | obj (C : Addr) (fs : List (Str × D)) | dct (kvs : List (List Key × D)) | fn (f : Addr)
deriving Inhabited

mutual
inductive Rep (K : PySem.W.Frag) (R : Hp) : D → V → Prop
  | non : Rep K R .non .non
  | bl (b : Bool) : Rep K R (.bl b) (.bl b)
  | int (i : Int) : Rep K R (.int i) (.int i)
  | str (x : Str) : Rep K R (.str x) (.str x)
  | lst {xs : List D} {p : Addr} {vs : List V} : R p = some (.lst vs) → RepL K R xs vs → Rep K R (.lst xs) (.ref p)
  | rd {xs : List D} {p : Addr} {vs : List V} : SqL K R p vs → RepL K R xs vs → Rep K R (.rd xs) (.ref p)
  | tup {xs : List D} {p : Addr} {vs : List V} : R p = some (.tup vs) → RepL K R xs vs → Rep K R (.tup xs) (.ref p)
  | dic {kvs : List (Key × D)} {p : Addr} {ws : List (Key × V)} : R p = some (.dK ws) → ws.map (·.1) = kvs.map (·.1) → RepL K R (kvs.map (·.2)) (ws.map (·.2)) → Rep K R (.dic kvs) (.ref p)
  | obj {C : Addr} {fs : List (Str × D)} {p dx : Addr} {ws : List (Str × V)} : R p = some (.ins C dx ws) → ws.map (·.1) = fs.map (·.1) → RepL K R (fs.map (·.2)) (ws.map (·.2)) → Rep K R (.obj C fs) (.ref p)
  | dct {kvs : List (List Key × D)} {p : Addr} {ws : List (List Key × V)} : R p = some (.dT ws) → ws.map (·.1) = kvs.map (·.1) → RepL K R (kvs.map (·.2)) (ws.map (·.2)) → Rep K R (.dct kvs) (.ref p)
  | fn (f : Addr) : Rep K R (.fn f) (.ref f)
inductive RepL (K : PySem.W.Frag) (R : Hp) : List D → List V → Prop
  | nil : RepL K R [] []
  | cons {d : D} {v : V} {ds : List D} {vs : List V} : Rep K R d v → RepL K R ds vs → RepL K R (d :: ds) (v :: vs)
end

theorem sameT {K : PySem.W.Frag} {H H' : Hp} {a : Addr} {xs : List V} (e : Same H H') (h : SqT K H a xs) : SqT K H' a xs := by
  rcases h with (h | ⟨o, h⟩) | h
  · exact .inl (.inl (e _ _ h))
  · exact .inl (.inr ⟨o, e _ _ h⟩)
  · exact .inr h

mutual
theorem Rep.mono {K : PySem.W.Frag} {R R' : Hp} (s : Same R R') : ∀ {d : D} {v : V}, Rep K R d v → Rep K R' d v
  | _, _, .non => .non
  | _, _, .bl b => .bl b
  | _, _, .int i => .int i
  | _, _, .str x => .str x
  | _, _, .lst a b => .lst (s _ _ a) (RepL.mono s b)
  | _, _, .rd a b => .rd (s.seq a) (RepL.mono s b)
  | _, _, .tup a b => .tup (s _ _ a) (RepL.mono s b)
  | _, _, .dic a e b => .dic (s _ _ a) e (RepL.mono s b)
  | _, _, .obj a e b => .obj (s _ _ a) e (RepL.mono s b)
  | _, _, .dct a e b => .dct (s _ _ a) e (RepL.mono s b)
  | _, _, .fn f => .fn f
theorem RepL.mono {K : PySem.W.Frag} {R R' : Hp} (s : Same R R') : ∀ {ds : List D} {vs : List V}, RepL K R ds vs → RepL K R' ds vs
  | _, _, .nil => .nil
  | _, _, .cons a b => .cons (Rep.mono s a) (RepL.mono s b)
end

section
variable {K : PySem.W.Frag} {R : Hp}
theorem RepL.length : ∀ {ds : List D} {vs : List V}, RepL K R ds vs → ds.length = vs.length
  | _, _, .nil => rfl
  | _, _, .cons _ b => by simp [b.length]
theorem RepL.get : ∀ {ds : List D} {vs : List V} {i : Nat} {d : D}, RepL K R ds vs → ds[i]? = some d → ∃ v, vs[i]? = some v ∧ Rep K R d v
  | _, _, i, _, .nil, e => by simp at e
  | _, _, 0, _, .cons a _, e => by simp at e; subst e; exact ⟨_, rfl, a⟩
  | _, _, i + 1, _, .cons _ b, e => by
    obtain ⟨v, h1, h2⟩ := b.get (i := i) (by simpa using e)
    exact ⟨v, by simpa using h1, h2⟩
theorem RepL.get2 : ∀ {ds : List D} {vs : List V} {i : Nat} {v : V}, RepL K R ds vs → vs[i]? = some v → ∃ d, ds[i]? = some d ∧ Rep K R d v
  | _, _, i, _, .nil, e => by simp at e
  | _, _, 0, _, .cons a _, e => by simp at e; subst e; exact ⟨_, rfl, a⟩
  | _, _, i + 1, _, .cons _ b, e => by
    obtain ⟨v, h1, h2⟩ := b.get2 (i := i) (by simpa using e)
    exact ⟨v, by simpa using h1, h2⟩
theorem RepL.append : ∀ {ds es : List D} {vs us : List V}, RepL K R ds vs → RepL K R es us → RepL K R (ds ++ es) (vs ++ us)
  | _, _, _, _, .nil, h => h
  | _, _, _, _, .cons a b, h => .cons a (b.append h)
theorem RepL.take : ∀ {ds : List D} {vs : List V} (n : Nat), RepL K R ds vs → RepL K R (ds.take n) (vs.take n)
  | _, _, 0, _ => by simp; exact .nil
  | _, _, _ + 1, .nil => .nil
  | _, _, n + 1, .cons a b => .cons a (b.take n)
theorem RepL.drop : ∀ {ds : List D} {vs : List V} (n : Nat), RepL K R ds vs → RepL K R (ds.drop n) (vs.drop n)
  | _, _, 0, h => h
  | _, _, _ + 1, .nil => .nil
  | _, _, n + 1, .cons a b => b.drop n
theorem RepL.set : ∀ {ds : List D} {vs : List V} {d : D} {v : V} (i : Nat), RepL K R ds vs → Rep K R d v → RepL K R (ds.set i d) (vs.set i v)
  | _, _, _, _, _, .nil, _ => .nil
  | _, _, _, _, 0, .cons _ b, h => .cons h b
  | _, _, _, _, i + 1, .cons a b, h => .cons a (b.set i h)
theorem RepL.reverse : ∀ {ds : List D} {vs : List V}, RepL K R ds vs → RepL K R ds.reverse vs.reverse
  | _, _, .nil => .nil
  | _, _, .cons a b => by
    rw [List.reverse_cons, List.reverse_cons]
    exact b.reverse.append (.cons a .nil)
theorem RepL.erase : ∀ {ds : List D} {vs : List V} (i : Nat), RepL K R ds vs → RepL K R (ds.eraseIdx i) (vs.eraseIdx i)
  | _, _, _, .nil => .nil
  | _, _, 0, .cons _ b => b
  | _, _, i + 1, .cons a b => .cons a (b.erase i)
theorem RepL.ints : ∀ {ns : List Int}, RepL K R (ns.map D.int) (ns.map V.int)
  | [] => .nil
  | n :: ns => .cons (.int n) RepL.ints
theorem RepL.ints_inv : ∀ {ns : List Int} {vs : List V}, RepL K R (ns.map D.int) vs → vs = ns.map V.int
  | [], _, .nil => rfl
  | n :: ns, _, .cons a b => by
    cases a
    rw [b.ints_inv]
    rfl
end

/-! values of slots and cells -/
inductive W where
  | d (x : D) | loc (n : Nat)
deriving Inhabited
inductive Cell where
  | lst (xs : List D) | dic (kvs : List (Key × D)) | obj (C : Addr) (fs : List (Str × W)) | lw (ws : List W) | dct (kvs : List (List Key × D))
deriving Inhabited

def RepW (K : PySem.W.Frag) (R : Hp) (ρ : Nat → Addr) : W → V → Prop
  | .d x, v => Rep K R x v
  | .loc n, v => v = .ref (ρ n)
theorem RepW.mono {K : PySem.W.Frag} {R R' : Hp} {ρ : Nat → Addr} (s : Same R R') : ∀ {w : W} {v : V}, RepW K R ρ w v → RepW K R' ρ w v
  | .d _, _, h => Rep.mono s h
  | .loc _, _, h => h

def CellAt (K : PySem.W.Frag) (R : Hp) (ρ : Nat → Addr) (H : Hp) (a : Addr) : Cell → Prop
  | .lst xs => ∃ vs, H a = some (.lst vs) ∧ RepL K R xs vs
  | .dic kvs => ∃ ws, H a = some (.dK ws) ∧ ws.map (·.1) = kvs.map (·.1) ∧ RepL K R (kvs.map (·.2)) (ws.map (·.2))
  | .obj C fs => ∃ dx ws, H a = some (.ins C dx ws) ∧ ws.map (·.1) = fs.map (·.1) ∧ Paired (RepW K R ρ) (fs.map (·.2)) (ws.map (·.2))
  | .lw us => ∃ vs, H a = some (.lst vs) ∧ Paired (RepW K R ρ) us vs
  | .dct kvs => ∃ ws, H a = some (.dT ws) ∧ ws.map (·.1) = kvs.map (·.1) ∧ RepL K R (kvs.map (·.2)) (ws.map (·.2))

theorem CellAt.some {K : PySem.W.Frag} {R : Hp} {ρ : Nat → Addr} {H : Hp} {a : Addr} {c : Cell} (h : CellAt K R ρ H a c) : ∃ o, H a = some o := by
  cases c with
  | lst xs => obtain ⟨_, h, _⟩ := h; exact ⟨_, h⟩
  | dic xs => obtain ⟨_, h, _⟩ := h; exact ⟨_, h⟩
  | obj C fs => obtain ⟨_, _, h, _⟩ := h; exact ⟨_, h⟩
  | lw xs => obtain ⟨_, h, _⟩ := h; exact ⟨_, h⟩
  | dct xs => obtain ⟨_, h, _⟩ := h; exact ⟨_, h⟩

/-- does w stand for the cell n -/
def isLoc (n : Nat) : W → Bool
  | .loc m => m == n
  | .d _ => false
def Cell.refs (n : Nat) : Cell → Bool
  | .obj _ fs => fs.any fun f => isLoc n f.2
  | .lw us => us.any (isLoc n)
  | _ => false

theorem Paired.monoMem {α β : Type} {F G : α → β → Prop} : ∀ {l : List α} {m : List β}, Paired F l m → (∀ a b, a ∈ l → F a b → G a b) → Paired G l m
  | _, _, .nil, _ => .nil
  | _, _, .cons r t, f => .cons (f _ _ List.mem_cons_self r) (Paired.monoMem t fun a b h => f a b (List.mem_cons_of_mem _ h))

/-- the cell's description leans on its own address, on R, and on ρ at the cells that it names -/
theorem CellAt.mono {K : PySem.W.Frag} {R R' : Hp} {ρ ρ' : Nat → Addr} {H H' : Hp} {a : Addr} {c : Cell} (h : CellAt K R ρ H a c) (s : Same R R') (e : H' a = H a)
    (r : ∀ n, c.refs n = true → ρ' n = ρ n) : CellAt K R' ρ' H' a c := by
  have wm : ∀ (w : W) (v : V), (∀ n, isLoc n w = true → ρ' n = ρ n) → RepW K R ρ w v → RepW K R' ρ' w v := fun w v q x => by
    cases w with
    | d y => exact Rep.mono s x
    | loc n =>
      show v = .ref (ρ' n)
      rw [q n (by simp [isLoc])]
      exact x
  cases c with
  | lst xs => obtain ⟨vs, h1, h2⟩ := h; exact ⟨vs, by rw [e]; exact h1, RepL.mono s h2⟩
  | dic kvs => obtain ⟨vs, h1, h2, h3⟩ := h; exact ⟨vs, by rw [e]; exact h1, h2, RepL.mono s h3⟩
  | dct kvs => obtain ⟨vs, h1, h2, h3⟩ := h; exact ⟨vs, by rw [e]; exact h1, h2, RepL.mono s h3⟩
  | obj C fs =>
    obtain ⟨dx, ws, h1, h2, h3⟩ := h
    refine ⟨dx, ws, by rw [e]; exact h1, h2, Paired.monoMem h3 fun u v hm x => wm u v (fun n hn => r n ?_) x⟩
    obtain ⟨f, hf, hq⟩ := List.mem_map.mp hm
    show fs.any _ = true
    rw [List.any_eq_true]
    exact ⟨f, hf, by rw [hq]; exact hn⟩
  | lw us =>
    obtain ⟨vs, h1, h2⟩ := h
    refine ⟨vs, by rw [e]; exact h1, Paired.monoMem h2 fun u v hm x => wm u v (fun n hn => r n ?_) x⟩
    show us.any _ = true
    rw [List.any_eq_true]
    exact ⟨u, hm, hn⟩

/-! the state -/
structure Env where
  ws : List (Option W)
  M : List (Option Cell)
  np : Nat
def Env.slot (e : Env) (i : Nat) : Option W := (e.ws[i]?).join
def Env.cell (e : Env) (n : Nat) : Option Cell := (e.M[n]?).join
def Env.setS (e : Env) (i : Nat) (w : Option W) : Env := { e with ws := e.ws.set i w }
def Env.setC (e : Env) (n : Nat) (c : Option Cell) : Env := { e with M := e.M.set n c }
/-- no slot and no cell names the cell n -/
def Env.noRef (e : Env) (n : Nat) : Bool := (e.ws.all fun o => match o with | some w => !isLoc n w | none => true) && (e.M.all fun o => match o with | some c => !c.refs n | none => true)

theorem Env.cell_setC (e : Env) (n m : Nat) (c : Option Cell) : (e.setC n c).cell m = if n = m then (if n < e.M.length then c else none) else e.cell m := by
  unfold Env.setC Env.cell
  rw [List.getElem?_set]
  by_cases h : n = m
  · subst h
    by_cases h2 : n < e.M.length
    · simp [h2]
    · simp [h2]
  · simp [h]
theorem Env.cell_lt {e : Env} {n : Nat} {c : Cell} (h : e.cell n = some c) : n < e.M.length := by
  unfold Env.cell at h
  by_cases q : n < e.M.length
  · exact q
  · rw [List.getElem?_eq_none (by omega)] at h; cases h
theorem Env.slot_setS (e : Env) (i j : Nat) (w : Option W) : (e.setS i w).slot j = if i = j then (if i < e.ws.length then w else none) else e.slot j := by
  unfold Env.setS Env.slot
  rw [List.getElem?_set]
  by_cases h : i = j
  · subst h
    by_cases h2 : i < e.ws.length
    · simp [h2]
    · simp [h2]
  · simp [h]
theorem Env.noRef_slot {e : Env} {n i : Nat} {w : W} (h : e.noRef n = true) (hs : e.slot i = some w) : isLoc n w = false := by
  unfold Env.noRef at h
  rw [Bool.and_eq_true] at h
  have h1 := List.all_eq_true.mp h.1
  unfold Env.slot at hs
  cases q : e.ws[i]? with
  | none => rw [q] at hs; cases hs
  | some o =>
    rw [q] at hs
    have e1 : o = some w := hs
    have h2 := h1 o (List.mem_of_getElem? q)
    rw [e1] at h2
    simpa using h2
theorem Env.noRef_cell {e : Env} {n m : Nat} {c : Cell} (h : e.noRef n = true) (hs : e.cell m = some c) : c.refs n = false := by
  unfold Env.noRef at h
  rw [Bool.and_eq_true] at h
  have h1 := List.all_eq_true.mp h.2
  unfold Env.cell at hs
  cases q : e.M[m]? with
  | none => rw [q] at hs; cases hs
  | some o =>
    rw [q] at hs
    have e1 : o = some c := hs
    have h2 := h1 o (List.mem_of_getElem? q)
    rw [e1] at h2
    simpa using h2

structure Bs where
  R_0 : Hp
  H_0 : Hp
  r_0 : List Addr

structure Md (K : PySem.W.Frag) (b : Bs) (R : Hp) (ρ : Nat → Addr) (e : Env) (σ : St) (H : Hp) : Prop where
  slot : ∀ i w, e.slot i = some w → ∃ v, σ[i]? = some (some v) ∧ RepW K R ρ w v
  cell : ∀ n c, e.cell n = some c → CellAt K R ρ H (ρ n) c
  inj : ∀ n m c c', e.cell n = some c → e.cell m = some c' → ρ n = ρ m → n = m
  own : ∀ n c, e.cell n = some c → R (ρ n) = none ∧ (n < e.np ∨ b.H_0 (ρ n) = none)
  par : ∀ n, n < e.np → b.r_0[n]? = some (ρ n)
  npl : b.r_0.length = e.np
  sub : Same R H
  ext : Same b.R_0 R
  new : ∀ a o, R a = some o → b.R_0 a = some o ∨ b.H_0 a = none
  frame : ∀ a o, b.H_0 a = some o → a ∉ b.r_0 → H a = some o
  there : ∀ a o, b.H_0 a = some o → ∃ o', H a = some o'
  len : σ.length = e.ws.length

section
variable {K : PySem.W.Frag} {b : Bs} {R : Hp} {ρ : Nat → Addr} {e : Env} {σ : St} {H : Hp}
theorem Md.fresh0 (m : Md K b R ρ e σ H) {p : Addr} (hp : H p = none) : b.H_0 p = none := by
  cases q : b.H_0 p with
  | none => rfl
  | some o => obtain ⟨o', h⟩ := m.there p o q; rw [hp] at h; cases h
theorem Md.freshR (m : Md K b R ρ e σ H) {p : Addr} (hp : H p = none) : R p = none := m.sub.free hp
theorem Md.ne (m : Md K b R ρ e σ H) {p : Addr} (hp : H p = none) {n : Nat} {c : Cell} (hc : e.cell n = some c) : ρ n ≠ p := by
  obtain ⟨o, h⟩ := (m.cell n c hc).some
  exact ne_of_none h hp
theorem same_upd {H : Hp} {p : Addr} {o : HO} (hp : H p = none) : Same H (upd H p o) := fun a u h => by
  rw [upd_ne (ne_of_none h hp)]
  exact h
theorem same_upd2 {R H : Hp} {p : Addr} {o : HO} (s : Same R H) : Same (upd R p o) (upd H p o) := fun a u h => by
  by_cases q : a = p
  · subst q; rw [upd_same] at h ⊢; exact h
  · rw [upd_ne q] at h ⊢; exact s a u h

/-- only the heap grows (nothing of it is tracked by us) -/
theorem Md.grow (m : Md K b R ρ e σ H) {H' : Hp} (s : Same H H') : Md K b R ρ e σ H' where
  slot := m.slot
  cell := fun n c hc => by
    have h := m.cell n c hc
    obtain ⟨o, ho⟩ := h.some
    exact h.mono (Same.refl R) (by rw [s _ _ ho, ho]) fun _ _ => rfl
  inj := m.inj
  own := m.own
  par := m.par
  npl := m.npl
  sub := m.sub.trans s
  ext := m.ext
  new := m.new
  frame := fun a o h n => s _ _ (m.frame a o h n)
  there := fun a o h => let ⟨o', q⟩ := m.there a o h; ⟨o', s _ _ q⟩
  len := m.len

/-- a new frozen object -/
theorem Md.freshD (m : Md K b R ρ e σ H) {p : Addr} (hp : H p = none) (o : HO) : Md K b (upd R p o) ρ e σ (upd H p o) where
  slot := fun i w h => let ⟨v, h1, h2⟩ := m.slot i w h; ⟨v, h1, h2.mono (same_upd (m.freshR hp))⟩
  cell := fun n c hc => (m.cell n c hc).mono (same_upd (m.freshR hp)) (upd_ne (m.ne hp hc)) fun _ _ => rfl
  inj := m.inj
  own := fun n c hc => ⟨by rw [upd_ne (m.ne hp hc)]; exact (m.own n c hc).1, (m.own n c hc).2⟩
  par := m.par
  npl := m.npl
  sub := same_upd2 m.sub
  ext := m.ext.trans (same_upd (m.freshR hp))
  new := fun a u h => by
    by_cases q : a = p
    · subst q; exact .inr (m.fresh0 hp)
    · rw [upd_ne q] at h; exact m.new a u h
  frame := fun a u h n => by
    rw [upd_ne (fun q => by subst q; rw [m.fresh0 hp] at h; cases h)]
    exact m.frame a u h n
  there := fun a u h => by
    rw [upd_ne (fun q => by subst q; rw [m.fresh0 hp] at h; cases h)]
    exact m.there a u h
  len := m.len

def setR (ρ : Nat → Addr) (k : Nat) (p : Addr) : Nat → Addr := fun n => if n = k then p else ρ n
theorem setR_same (ρ : Nat → Addr) (k : Nat) (p : Addr) : setR ρ k p k = p := if_pos rfl
theorem setR_ne {ρ : Nat → Addr} {k n : Nat} {p : Addr} (h : n ≠ k) : setR ρ k p n = ρ n := if_neg h

/-- a new own object in the free register k -/
theorem Md.freshC (m : Md K b R ρ e σ H) {p : Addr} (hp : H p = none) {o : HO} {k : Nat} {c : Cell} (hk : e.cell k = none) (hnp : e.np ≤ k) (hr : e.noRef k = true) (hc : CellAt K R (setR ρ k p) (upd H p o) p c) :
    Md K b R (setR ρ k p) (e.setC k (some c)) σ (upd H p o) where
  slot := fun i w h => by
    obtain ⟨v, h1, h2⟩ := m.slot i w h
    refine ⟨v, h1, ?_⟩
    have q := Env.noRef_slot hr h
    cases w with
    | d x => exact h2
    | loc n =>
      show v = .ref (setR ρ k p n)
      rw [setR_ne (fun z => by subst z; simp [isLoc] at q)]
      exact h2
  cell := fun n c' h => by
    rw [Env.cell_setC] at h
    by_cases q : k = n
    · subst q
      rw [if_pos rfl] at h
      split at h
      · cases h; rw [setR_same]; exact hc
      · cases h
    · rw [if_neg q] at h
      rw [setR_ne (Ne.symm q)]
      refine (m.cell n c' h).mono (Same.refl R) (upd_ne (m.ne hp h)) fun j hj => setR_ne fun z => ?_
      subst z
      rw [Env.noRef_cell hr h] at hj
      cases hj
  inj := fun n n' c1 c2 h1 h2 hq => by
    rw [Env.cell_setC] at h1 h2
    by_cases q1 : k = n
    · by_cases q2 : k = n'
      · exact q1.symm.trans q2
      · rw [if_neg q2] at h2
        subst q1
        rw [setR_same, setR_ne (Ne.symm q2)] at hq
        exact absurd hq.symm (m.ne hp h2)
    · rw [if_neg q1] at h1
      by_cases q2 : k = n'
      · subst q2
        rw [setR_same, setR_ne (Ne.symm q1)] at hq
        exact absurd hq (m.ne hp h1)
      · rw [if_neg q2] at h2
        rw [setR_ne (Ne.symm q1), setR_ne (Ne.symm q2)] at hq
        exact m.inj n n' c1 c2 h1 h2 hq
  own := fun n c' h => by
    rw [Env.cell_setC] at h
    by_cases q : k = n
    · subst q; rw [setR_same]; exact ⟨m.freshR hp, .inr (m.fresh0 hp)⟩
    · rw [if_neg q] at h; rw [setR_ne (Ne.symm q)]; exact m.own n c' h
  par := fun n h => by
    have h' : n < e.np := h
    rw [setR_ne (by omega)]
    exact m.par n h
  npl := m.npl
  sub := m.sub.trans (same_upd hp)
  ext := m.ext
  new := m.new
  frame := fun a u h n => by
    rw [upd_ne (fun q => by subst q; rw [m.fresh0 hp] at h; cases h)]
    exact m.frame a u h n
  there := fun a u h => by
    rw [upd_ne (fun q => by subst q; rw [m.fresh0 hp] at h; cases h)]
    exact m.there a u h
  len := m.len

/-- a cell is written -/
theorem Md.write (m : Md K b R ρ e σ H) {n : Nat} {c c' : Cell} {o : HO} (hc : e.cell n = some c) (hc' : CellAt K R ρ (upd H (ρ n) o) (ρ n) c') : Md K b R ρ (e.setC n (some c')) σ (upd H (ρ n) o) where
  slot := m.slot
  cell := fun k c1 h => by
    rw [Env.cell_setC] at h
    by_cases q : n = k
    · subst q
      rw [if_pos rfl, if_pos (Env.cell_lt hc)] at h
      cases h
      exact hc'
    · rw [if_neg q] at h
      exact (m.cell k c1 h).mono (Same.refl R) (upd_ne fun z => q (m.inj n k c c1 hc h z.symm)) fun _ _ => rfl
  inj := fun k j c1 c2 h1 h2 hq => by
    have lv : ∀ {i : Nat} {c3 : Cell}, (e.setC n (some c')).cell i = some c3 → ∃ c4, e.cell i = some c4 := fun {i c3} h => by
      rw [Env.cell_setC] at h
      by_cases q : n = i
      · subst q; exact ⟨c, hc⟩
      · rw [if_neg q] at h; exact ⟨_, h⟩
    obtain ⟨c3, h3⟩ := lv h1
    obtain ⟨c4, h4⟩ := lv h2
    exact m.inj k j c3 c4 h3 h4 hq
  own := fun k c1 h => by
    rw [Env.cell_setC] at h
    by_cases q : n = k
    · subst q; exact m.own n c hc
    · rw [if_neg q] at h; exact m.own k c1 h
  par := m.par
  npl := m.npl
  sub := fun a u h => by
    rw [upd_ne fun q => by subst q; rw [(m.own n c hc).1] at h; cases h]
    exact m.sub a u h
  ext := m.ext
  new := m.new
  frame := fun a u h hn => by
    rw [upd_ne fun q => by
      subst q
      rcases (m.own n c hc).2 with z | z
      · exact hn (List.mem_of_getElem? (m.par n z))
      · rw [z] at h; cases h]
    exact m.frame a u h hn
  there := fun a u h => by
    by_cases q : a = ρ n
    · subst q; exact ⟨_, upd_same⟩
    · rw [upd_ne q]; exact m.there a u h
  len := m.len

theorem Md.setS (m : Md K b R ρ e σ H) {i : Nat} {w : W} {v : V} (r : RepW K R ρ w v) : Md K b R ρ (e.setS i (some w)) (σ.set i (some v)) H where
  slot := fun j w' h => by
    rw [Env.slot_setS] at h
    by_cases q : i = j
    · subst q
      rw [if_pos rfl] at h
      split at h
      · rename_i hl
        cases h
        refine ⟨v, ?_, r⟩
        rw [List.getElem?_set_self (by rw [m.len]; exact hl)]
      · cases h
    · rw [if_neg q] at h
      rw [List.getElem?_set_ne q]
      exact m.slot j w' h
  cell := m.cell
  inj := m.inj
  own := m.own
  par := m.par
  npl := m.npl
  sub := m.sub
  ext := m.ext
  new := m.new
  frame := m.frame
  there := m.there
  len := by
    show (σ.set i (some v)).length = (e.ws.set i (some w)).length
    rw [List.length_set, List.length_set]; exact m.len

/-- fewer claims -/
theorem Md.less (m : Md K b R ρ e σ H) {e' : Env} (hs : ∀ i w, e'.slot i = some w → e.slot i = some w) (hc : ∀ n c, e'.cell n = some c → e.cell n = some c) (hnp : e'.np = e.np) (hl : e'.ws.length = e.ws.length) : Md K b R ρ e' σ H where
  slot := fun i w h => m.slot i w (hs i w h)
  cell := fun n c h => m.cell n c (hc n c h)
  inj := fun n k c c' h h' q => m.inj n k c c' (hc n c h) (hc k c' h') q
  own := fun n c h => by rw [hnp]; exact m.own n c (hc n c h)
  par := fun n h => m.par n (by rw [← hnp]; exact h)
  npl := m.npl.trans hnp.symm
  sub := m.sub
  ext := m.ext
  new := m.new
  frame := m.frame
  there := m.there
  len := m.len.trans hl.symm
end
end Dl
end
section
set_option Elab.async false
set_option linter.all false
set_option maxRecDepth 100000
set_option maxHeartbeats 4000000
namespace Dl
open PySem L2

/-! freezing a cell -/
def substW (k : Nat) (x : D) : W → W
  | .loc n => if n = k then .d x else .loc n
  | .d y => .d y
def Cell.subst (k : Nat) (x : D) : Cell → Cell
  | .obj C fs => .obj C (fs.map fun f => (f.1, substW k x f.2))
  | .lw us => .lw (us.map (substW k x))
  | .lst xs => .lst xs
  | .dic kvs => .dic kvs
  | .dct kvs => .dct kvs
def toDs : List W → Option (List D)
  | [] => some []
  | .d x :: r => (toDs r).map (x :: ·)
  | .loc _ :: _ => none
def toDf : List (Str × W) → Option (List (Str × D))
  | [] => some []
  | (n, .d x) :: r => (toDf r).map ((n, x) :: ·)
  | (_, .loc _) :: _ => none
def Cell.toD : Cell → Option D
  | .lst xs => some (.lst xs)
  | .dic kvs => some (.dic kvs)
  | .dct kvs => some (.dct kvs)
  | .obj C fs => (toDf fs).map (.obj C)
  | .lw us => (toDs us).map .lst
def mapO {α β : Type} (f : α → β) : List (Option α) → List (Option β)
  | [] => []
  | some x :: r => some (f x) :: mapO f r
  | none :: r => none :: mapO f r
theorem mapO_eq {α β : Type} (f : α → β) : ∀ l : List (Option α), mapO f l = l.map (Option.map f)
  | [] => rfl
  | some x :: r => by rw [mapO, List.map_cons, mapO_eq f r]; rfl
  | none :: r => by rw [mapO, List.map_cons, mapO_eq f r]; rfl
def Env.sub (e : Env) (k : Nat) (x : D) : Env := { ws := mapO (substW k x) e.ws, M := (mapO (Cell.subst k x) e.M).set k none, np := e.np }
def frz (k : Nat) (e : Env) : Option Env :=
  if e.np ≤ k then
    match e.cell k with
    | some c => match c.toD with
      | some x => some (e.sub k x)
      | none => none
    | none => none
  else none

theorem toDs_rep {K : PySem.W.Frag} {R : Hp} {ρ : Nat → Addr} : ∀ {us : List W} {ds : List D} {vs : List V}, toDs us = some ds → Paired (RepW K R ρ) us vs → RepL K R ds vs
  | [], ds, _, h, .nil => by
    have e : [] = ds := Option.some.inj h
    subst e; exact .nil
  | .d x :: r, ds, _, h, .cons a t => by
    unfold toDs at h
    cases q : toDs r with
    | none => rw [q] at h; cases h
    | some es =>
      rw [q] at h
      have e : x :: es = ds := Option.some.inj h
      subst e
      exact .cons a (toDs_rep q t)
  | .loc _ :: _, _, _, h, _ => by cases h
theorem toDf_rep {K : PySem.W.Frag} {R : Hp} {ρ : Nat → Addr} : ∀ {us : List (Str × W)} {ds : List (Str × D)} {vs : List V}, toDf us = some ds → Paired (RepW K R ρ) (us.map (·.2)) vs → RepL K R (ds.map (·.2)) vs ∧ ds.map (·.1) = us.map (·.1)
  | [], ds, _, h, .nil => by
    have e : [] = ds := Option.some.inj h
    subst e; exact ⟨.nil, rfl⟩
  | (n, .d x) :: r, ds, _, h, .cons a t => by
    unfold toDf at h
    cases q : toDf r with
    | none => rw [q] at h; cases h
    | some es =>
      rw [q] at h
      have e : (n, x) :: es = ds := Option.some.inj h
      subst e
      obtain ⟨h1, h2⟩ := toDf_rep q t
      exact ⟨.cons a h1, by rw [List.map_cons, List.map_cons, h2]⟩
  | (_, .loc _) :: _, _, _, h, _ => by cases h

section
variable {K : PySem.W.Frag} {b : Bs} {R : Hp} {ρ : Nat → Addr} {e e' : Env} {σ : St} {H : Hp}
theorem slot_sub {k : Nat} {x : D} {i : Nat} {w : W} (h : (e.sub k x).slot i = some w) : ∃ w0, e.slot i = some w0 ∧ w = substW k x w0 := by
  unfold Env.slot Env.sub at h
  rw [mapO_eq, List.getElem?_map] at h
  unfold Env.slot
  cases q : e.ws[i]? with
  | none => rw [q] at h; cases h
  | some o =>
    rw [q] at h
    cases o with
    | none => cases h
    | some w0 => exact ⟨w0, rfl, (Option.some.inj h).symm⟩
theorem cell_sub {k : Nat} {x : D} {n : Nat} {c : Cell} (h : (e.sub k x).cell n = some c) : n ≠ k ∧ ∃ c0, e.cell n = some c0 ∧ c = c0.subst k x := by
  unfold Env.cell Env.sub at h
  simp only [mapO_eq] at h
  rw [List.getElem?_set] at h
  unfold Env.cell
  by_cases q : k = n
  · subst q
    rw [if_pos rfl] at h
    split at h <;> cases h
  · rw [if_neg q, List.getElem?_map] at h
    refine ⟨Ne.symm q, ?_⟩
    cases q2 : e.M[n]? with
    | none => rw [q2] at h; cases h
    | some o =>
      rw [q2] at h
      cases o with
      | none => cases h
      | some c0 => exact ⟨c0, rfl, (Option.some.inj h).symm⟩
theorem Md.frz {k : Nat} (m : Md K b R ρ e σ H) (h : frz k e = some e') : ∃ R', Same R R' ∧ Md K b R' ρ e' σ H := by
  unfold Dl.frz at h
  split at h
  · rename_i hnp
    cases hc : e.cell k with
    | none => rw [hc] at h; cases h
    | some c =>
      rw [hc] at h
      cases hx : c.toD with
      | none => simp only [hx] at h; cases h
      | some x =>
        simp only [hx] at h
        have h := Option.some.inj h
        subst h
        obtain ⟨o, ho⟩ := (m.cell k c hc).some
        have hRk : R (ρ k) = none := (m.own k c hc).1
        have sR : Same R (upd R (ρ k) o) := same_upd hRk
        have rep : Rep K (upd R (ρ k) o) x (.ref (ρ k)) := by
          have hk := m.cell k c hc
          cases c with
          | lst xs =>
            obtain ⟨vs, h1, h2⟩ := hk
            have e1 : D.lst xs = x := Option.some.inj hx
            subst e1
            rw [h1] at ho; cases ho
            exact .lst upd_same (RepL.mono sR h2)
          | dic kvs =>
            obtain ⟨ws, h1, h2, h3⟩ := hk
            have e1 : D.dic kvs = x := Option.some.inj hx
            subst e1
            rw [h1] at ho; cases ho
            exact .dic upd_same h2 (RepL.mono sR h3)
          | dct kvs =>
            obtain ⟨ws, h1, h2, h3⟩ := hk
            have e1 : D.dct kvs = x := Option.some.inj hx
            subst e1
            rw [h1] at ho; cases ho
            exact .dct upd_same h2 (RepL.mono sR h3)
          | obj C fs =>
            obtain ⟨dx, ws, h1, h2, h3⟩ := hk
            have hx : (toDf fs).map (D.obj C) = some x := hx
            cases q : toDf fs with
            | none => rw [q] at hx; cases hx
            | some ds =>
              rw [q] at hx
              have e1 : D.obj C ds = x := Option.some.inj hx
              subst e1
              rw [h1] at ho; cases ho
              obtain ⟨r1, r2⟩ := toDf_rep q h3
              exact .obj upd_same (h2.trans r2.symm) (RepL.mono sR r1)
          | lw us =>
            obtain ⟨vs, h1, h2⟩ := hk
            have hx : (toDs us).map D.lst = some x := hx
            cases q : toDs us with
            | none => rw [q] at hx; cases hx
            | some ds =>
              rw [q] at hx
              have e1 : D.lst ds = x := Option.some.inj hx
              subst e1
              rw [h1] at ho; cases ho
              exact .lst upd_same (RepL.mono sR (toDs_rep q h2))
        have wsub : ∀ (w : W) (v : V), RepW K R ρ w v → RepW K (upd R (ρ k) o) ρ (substW k x w) v := fun w v r => by
          cases w with
          | d y => exact Rep.mono sR r
          | loc n =>
            show RepW K (upd R (ρ k) o) ρ (if n = k then .d x else .loc n) v
            by_cases q : n = k
            · rw [if_pos q]
              have r' : v = .ref (ρ n) := r
              subst q; subst r'
              exact rep
            · rw [if_neg q]; exact r
        refine ⟨upd R (ρ k) o, sR, ?_⟩
        refine ⟨fun i w h => ?_, fun n c' h => ?_, fun n n' c1 c2 h1 h2 q => ?_, fun n c' h => ?_, m.par, m.npl, fun a u h => ?_, m.ext.trans sR, fun a u h => ?_, m.frame, m.there, ?_⟩
        · obtain ⟨w0, h0, rfl⟩ := slot_sub h
          obtain ⟨v, h1, h2⟩ := m.slot i w0 h0
          exact ⟨v, h1, wsub _ _ h2⟩
        · obtain ⟨hn, c0, h0, rfl⟩ := cell_sub h
          have hc0 := m.cell n c0 h0
          cases c0 with
          | lst xs => exact hc0.mono (R' := upd R (ρ k) o) sR rfl fun _ _ => rfl
          | dic xs => exact hc0.mono (R' := upd R (ρ k) o) sR rfl fun _ _ => rfl
          | dct xs => exact hc0.mono (R' := upd R (ρ k) o) sR rfl fun _ _ => rfl
          | obj C fs =>
            obtain ⟨dx, ws, q1, q2, q3⟩ := hc0
            refine ⟨dx, ws, q1, by rw [q2, List.map_map]; rfl, ?_⟩
            have e1 : (fs.map fun f => (f.1, substW k x f.2)).map (·.2) = (fs.map (·.2)).map (substW k x) := by rw [List.map_map, List.map_map]; rfl
            rw [e1]
            exact go wsub q3
          | lw us =>
            obtain ⟨vs, q1, q2⟩ := hc0
            exact ⟨vs, q1, go wsub q2⟩
        · obtain ⟨_, c3, h3, _⟩ := cell_sub h1
          obtain ⟨_, c4, h4, _⟩ := cell_sub h2
          exact m.inj n n' c3 c4 h3 h4 q
        · obtain ⟨hn, c0, h0, _⟩ := cell_sub h
          exact ⟨by rw [upd_ne fun z => hn (m.inj n k c0 c h0 hc z)]; exact (m.own n c0 h0).1, (m.own n c0 h0).2⟩
        · by_cases q : a = ρ k
          · subst q; rw [upd_same] at h; cases h; exact ho
          · rw [upd_ne q] at h; exact m.sub a u h
        · by_cases q : a = ρ k
          · subst q
            rcases (m.own k c hc).2 with z | z
            · omega
            · exact .inr z
          · rw [upd_ne q] at h; exact m.new a u h
        · show σ.length = (mapO (substW k x) e.ws).length
          rw [mapO_eq, List.length_map]; exact m.len
  · cases h
where
  go {F G : W → V → Prop} {g : W → W} (f : ∀ w v, F w v → G (g w) v) : ∀ {us : List W} {vs : List V}, Paired F us vs → Paired G (us.map g) vs
    | _, _, .nil => .nil
    | _, _, .cons a t => .cons (f _ _ a) (go f t)
end
end Dl
end
section
set_option Elab.async false
set_option linter.all false
set_option maxRecDepth 100000
set_option maxHeartbeats 4000000
namespace Dl
open PySem L2

/-! results -/
structure Xn where
  C : Addr
  fs : Option (List (Str × D))
def ExR (K : PySem.W.Frag) (R : Hp) (x : Xn) (cls : Value) (d : Option Addr) : Prop :=
  cls = .ref x.C ∧ match x.fs with
    | none => d = none
    | some fs => ∃ a ws, d = some a ∧ R a = some (.xd ws) ∧ ws.map (·.1) = fs.map (·.1) ∧ RepL K R (fs.map (·.2)) (ws.map (·.2))
theorem ExR.mono {K : PySem.W.Frag} {R R' : Hp} {x : Xn} {cls : Value} {d : Option Addr} (s : Same R R') (h : ExR K R x cls d) : ExR K R' x cls d := by
  refine ⟨h.1, ?_⟩
  have q := h.2
  cases e : x.fs with
  | none => rw [e] at q; exact q
  | some fs =>
    rw [e] at q
    obtain ⟨a, ws, h1, h2, h3, h4⟩ := q
    exact ⟨a, ws, h1, s _ _ h2, h3, RepL.mono s h4⟩

inductive Rs (α : Type) where
  | ok (a : α) (e : Env)
  | exn (x : Xn) (e : Env)
  | fail
def Rs.bind {α γ : Type} (r : Rs α) (k : α → Env → Rs γ) : Rs γ :=
  match r with
  | .ok a e => k a e
  | .exn x e => .exn x e
  | .fail => .fail
abbrev Ev := Env → Rs W

def Live (e e' : Env) (ρ ρ' : Nat → Addr) : Prop := ∀ n c, e.cell n = some c → ρ' n = ρ n ∧ ∃ c', e'.cell n = some c'
theorem Live.refl (e : Env) (ρ : Nat → Addr) : Live e e ρ ρ := fun n c h => ⟨rfl, c, h⟩
theorem Live.trans {e e1 e2 : Env} {ρ ρ1 ρ2 : Nat → Addr} (a : Live e e1 ρ ρ1) (b : Live e1 e2 ρ1 ρ2) : Live e e2 ρ ρ2 := fun n c h => by
  obtain ⟨h1, c1, h2⟩ := a n c h
  obtain ⟨h3, c2, h4⟩ := b n c1 h2
  exact ⟨h3.trans h1, c2, h4⟩
def wl (e : Env) : W → Bool
  | .d _ => true
  | .loc n => (e.cell n).isSome
theorem RepW.later {K : PySem.W.Frag} {R R' : Hp} {e e' : Env} {ρ ρ' : Nat → Addr} {w : W} {v : V} (h : RepW K R ρ w v) (l : wl e w = true) (s : Same R R') (lv : Live e e' ρ ρ') : RepW K R' ρ' w v := by
  cases w with
  | d x => exact Rep.mono s h
  | loc n =>
    obtain ⟨c, hc⟩ := Option.isSome_iff_exists.mp (show (e.cell n).isSome = true from l)
    show v = .ref (ρ' n)
    rw [(lv n c hc).1]
    exact h

section
variable {K : PySem.W.Frag} {Wx : WX} {b : Bs} {R : Hp} {ρ : Nat → Addr} {e : Env} {σ : St} {H : Hp} {α β γ δ : Type}
/-- the relation of a result and what the machine hands over -/
abbrev Rl (α β : Type) := Hp → (Nat → Addr) → α → β → Prop
def OkR (K : PySem.W.Frag) (Wx : WX) (L : Rl α β) (b : Bs) (R : Hp) (ρ : Nat → Addr) (e : Env) (σ : St) (Q : β → Hp → Prop) : Rs α → Prop
  | .ok a e' => ∀ R' ρ' v H', Same R R' → Live e e' ρ ρ' → Md K b R' ρ' e' σ H' → L R' ρ' a v → Q v H'
  | .exn x e' => ∀ R' ρ' σ' H' cls d, Same R R' → Md K b R' ρ' e' σ' H' → ExR K R' x cls d → Wx cls d σ' H'
  | .fail => False
def tG (K : PySem.W.Frag) (Wx : WX) (L : Rl α β) (f : Env → Rs α) : St → Hp → (β → Hp → Prop) → Prop := fun σ H Q => ∃ b R ρ e, Md K b R ρ e σ H ∧ OkR K Wx L b R ρ e σ Q (f e)
abbrev lW (K : PySem.W.Frag) : Rl W V := fun R ρ => RepW K R ρ
abbrev lA (K : PySem.W.Frag) : Rl (List W) (List V) := fun R ρ => Paired (RepW K R ρ)
abbrev lB : Rl Bool Bool := fun _ _ => Eq
abbrev tD (K : PySem.W.Frag) (Wx : WX) (f : Ev) : TE := tG K Wx (lW K) f
abbrev tDA (K : PySem.W.Frag) (Wx : WX) (f : Env → Rs (List W)) : TA := tG K Wx (lA K) f
abbrev tDT (K : PySem.W.Frag) (Wx : WX) (f : Env → Rs Bool) : TT := tG K Wx lB f

theorem OkR.rebase {L : Rl α β} {R1 : Hp} {ρ1 : Nat → Addr} {e1 : Env} {Q : β → Hp → Prop} {r : Rs α} (s : Same R R1) (l : Live e e1 ρ ρ1) (h : OkR K Wx L b R ρ e σ Q r) : OkR K Wx L b R1 ρ1 e1 σ Q r := by
  cases r with
  | ok a e' => exact fun R' ρ' v H' s' l' m r => h R' ρ' v H' (s.trans s') (l.trans l') m r
  | exn x e' => exact fun R' ρ' σ' H' cls d s' m r => h R' ρ' σ' H' cls d (s.trans s') m r
  | fail => exact h
theorem OkR.bind {L : Rl α β} {L2 : Rl γ δ} {Q : δ → Hp → Prop} {r : Rs α} {k : α → Env → Rs γ} (h : OkR K Wx L2 b R ρ e σ Q (r.bind k)) :
    OkR K Wx L b R ρ e σ (fun v H1 => ∃ R1 ρ1 e1 a, Same R R1 ∧ Live e e1 ρ ρ1 ∧ Md K b R1 ρ1 e1 σ H1 ∧ L R1 ρ1 a v ∧ r = .ok a e1 ∧ OkR K Wx L2 b R1 ρ1 e1 σ Q (k a e1)) r := by
  cases r with
  | ok a e' => exact fun R' ρ' v H' s l m rp => ⟨R', ρ', e', a, s, l, m, rp, rfl, h.rebase s l⟩
  | exn x e' => exact h
  | fail => exact h
theorem OkR.imp {L : Rl α β} {Q Q' : β → Hp → Prop} {r : Rs α} (h : OkR K Wx L b R ρ e σ Q r) (hq : ∀ v H, Q v H → Q' v H) : OkR K Wx L b R ρ e σ Q' r := by
  cases r with
  | ok a e' => exact fun R' ρ' v H' s l m rp => hq _ _ (h R' ρ' v H' s l m rp)
  | exn x e' => exact h
  | fail => exact h
/-- one operand, then what the rule asks -/
theorem tG_one {L : Rl α β} {L2 : Rl γ δ} {f : Env → Rs α} {k : α → Env → Rs γ} {Q : δ → Hp → Prop} {Z : β → Hp → Prop} (h : tG K Wx L2 (fun e => (f e).bind k) σ H Q)
    (z : ∀ b R ρ e H a v, Md K b R ρ e σ H → L R ρ a v → OkR K Wx L2 b R ρ e σ Q (k a e) → Z v H) : tG K Wx L f σ H Z := by
  obtain ⟨b, R, ρ, e, m, h⟩ := h
  refine ⟨b, R, ρ, e, m, (OkR.bind (L := L) h).imp fun v H1 h1 => ?_⟩
  obtain ⟨R1, ρ1, e1, a, _, _, m1, r1, _, q⟩ := h1
  exact z b R1 ρ1 e1 H1 a v m1 r1 q
def bin2 (f1 f2 : Ev) (k : W → W → Env → Rs γ) : Env → Rs γ := fun e => (f1 e).bind fun w1 e1 => if wl e1 w1 = true then (f2 e1).bind (k w1) else .fail
theorem tG_two {L2 : Rl γ δ} {f1 f2 : Ev} {k : W → W → Env → Rs γ} {Q : δ → Hp → Prop} {Z : V → V → Hp → Prop} (h : tG K Wx L2 (bin2 f1 f2 k) σ H Q)
    (z : ∀ b R ρ e H w1 w2 v1 v2, Md K b R ρ e σ H → RepW K R ρ w1 v1 → RepW K R ρ w2 v2 → OkR K Wx L2 b R ρ e σ Q (k w1 w2 e) → Z v1 v2 H) : tD K Wx f1 σ H fun x H1 => tD K Wx f2 σ H1 fun y H2 => Z x y H2 := by
  refine tG_one h fun b R ρ e H1 w1 v1 m1 r1 q => ?_
  split at q
  · rename_i hl
    refine ⟨b, R, ρ, e, m1, (OkR.bind (L := lW K) q).imp fun v H2 h2 => ?_⟩
    obtain ⟨R2, ρ2, e2, w2, s2, l2, m2, r2, _, q2⟩ := h2
    exact z b R2 ρ2 e2 H2 w1 w2 v1 v m2 (r1.later hl s2 l2) r2 q2
  · exact q.elim

/-- the end of an operation that changes nothing -/
theorem OkR.fin {L : Rl α β} {Q : β → Hp → Prop} {a : α} {v : β} (h : OkR K Wx L b R ρ e σ Q (.ok a e)) (m : Md K b R ρ e σ H) (r : L R ρ a v) : Q v H := h R ρ v H (Same.refl R) (Live.refl e ρ) m r
/-- .. that lays a new frozen object -/
theorem OkR.finD {Q : VK} {z : D} {p : Addr} {o : HO} (h : OkR K Wx (lW K) b R ρ e σ Q (.ok (.d z) e)) (m : Md K b R ρ e σ H) (hp : H p = none) (r : Rep K (upd R p o) z (.ref p)) : Q (.ref p) (upd H p o) :=
  h _ ρ _ _ (same_upd (m.freshR hp)) (Live.refl e ρ) (m.freshD hp o) r
end

theorem _root_.L2.PE.imp {X : Cx} {a : Expr} {t t' : TE} (h : PE X a t) (i : ∀ σ H Q, t' σ H Q → t σ H Q) : PE X a t' := ⟨fun pins s σ H Q I q => h.run pins s σ H Q I (i σ H Q q)⟩
theorem _root_.L2.PT.imp {X : Cx} {a : Expr} {t t' : TT} (h : PT X a t) (i : ∀ σ H Q, t' σ H Q → t σ H Q) : PT X a t' := ⟨fun pins s σ H Q I q => h.run pins s σ H Q I (i σ H Q q)⟩
theorem _root_.L2.PW.imp {X : Cx} {a : Expr} {t t' : TT} (h : PW X a t) (i : ∀ σ H Q, t' σ H Q → t σ H Q) : PW X a t' := ⟨fun wh pins s σ H Q I q => h.run wh pins s σ H Q I (i σ H Q q)⟩
theorem _root_.L2.PA.imp {X : Cx} {a : List Expr} {t t' : TA} (h : PA X a t) (i : ∀ σ H Q, t' σ H Q → t σ H Q) : PA X a t' := ⟨fun pos pins s σ H Q I q => h.run pos pins s σ H Q I (i σ H Q q)⟩
theorem _root_.L2.PS.imp {X : Cx} {a : Stmt} {t t' : TS} (h : PS X a t) (i : ∀ D σ H, t' D σ H → t D σ H) : PS X a t' := ⟨fun pins s σ H D I q => h.run pins s σ H D I (i D σ H q)⟩
theorem _root_.L2.PSs.imp {X : Cx} {a : List Stmt} {t t' : TS} (h : PSs X a t) (i : ∀ D σ H, t' D σ H → t D σ H) : PSs X a t' := ⟨fun pins s σ H D I q => h.run pins s σ H D I (i D σ H q)⟩
theorem _root_.L2.PI.imp {X : Cx} {tg a : Expr} {t t' : TI} (h : PI X tg a t) (i : ∀ σ H Q, t' σ H Q → t σ H Q) : PI X tg a t' := ⟨fun pins s σ H Q I q => h.run pins s σ H Q I (i σ H Q q)⟩

section
variable {X : Cx} {Wx : WX} {a b c : Expr} {es : List Expr} {pos : Pos}

/-! names, constants -/
def eVar (i : Nat) : Ev := fun e => match e.slot i with | some w => .ok w e | none => .fail
def eC (d : D) : Ev := fun e => .ok (.d d) e
theorem d_var {i : Nat} {x : Str} {pos : Pos} (h : PE X (.Name x pos) (tVar i)) : PE X (.Name x pos) (tD X.K Wx (eVar i)) := h.imp fun σ H Q ⟨b, R, ρ, e, m, q⟩ => by
  unfold eVar at q
  cases hw : e.slot i with
  | none => rw [hw] at q; exact q.elim
  | some w =>
    rw [hw] at q
    obtain ⟨v, h1, h2⟩ := m.slot i w hw
    exact ⟨v, h1, q.fin m h2⟩
theorem d_c {d : D} {v : V} (h : PE X a (tC v)) (r : ∀ R, Rep X.K R d v) : PE X a (tD X.K Wx (eC d)) := h.imp fun σ H Q ⟨b, R, ρ, e, m, q⟩ => q.fin m (r R)
theorem d_int {i j pos} : PE X (.Constant (.int i) j pos) (tD X.K Wx (eC (.int i))) := d_c pe_int fun _ => .int i
theorem d_bl {i j pos} : PE X (.Constant (.bool i) j pos) (tD X.K Wx (eC (.bl i))) := d_c pe_bl fun _ => .bl i
theorem d_str {i j pos} : PE X (.Constant (.str i) j pos) (tD X.K Wx (eC (.str i))) := d_c pe_str fun _ => .str i
theorem d_non {j pos} : PE X (.Constant .none j pos) (tD X.K Wx (eC .non)) := d_c pe_non fun _ => .non

/-! operators by values -/
/-- a two-place operation on frozen data, no new object -/
def kD2 (g : D → D → Option D) (w1 w2 : W) : Ev := fun e => match w1, w2 with
  | .d x, .d y => match g x y with | some z => .ok (.d z) e | none => .fail
  | _, _ => .fail
def eOp (g : D → D → Option D) (f1 f2 : Ev) : Ev := bin2 f1 f2 (kD2 g)
/-- what a rule asks follows from the data's answer: it changes nothing, or lays one new object -/
def OpD (K : PySem.W.Frag) (g : D → D → Option D) (r : R2) : Prop :=
  ∀ (x y z : D) (v u : V) (R H : Hp) (Q : VK), g x y = some z → Rep K R x v → Rep K R y u → Same R H → (∀ q, Rep K R z q → Q q H) → (∀ p o, H p = none → Rep K (upd R p o) z (.ref p) → Q (.ref p) (upd H p o)) → r v u H Q
theorem OpD.run {K : PySem.W.Frag} {g : D → D → Option D} {r : R2} (o : OpD K g r) {bs : Bs} {R : Hp} {ρ : Nat → Addr} {e : Env} {σ : St} {H : Hp} {w1 w2 : W} {v1 v2 : V} {Q : VK} (m : Md K bs R ρ e σ H) (r1 : RepW K R ρ w1 v1) (r2 : RepW K R ρ w2 v2)
    (q : OkR K Wx (lW K) bs R ρ e σ Q (kD2 g w1 w2 e)) : r v1 v2 H Q := by
  cases w1 with
  | loc n => exact q.elim
  | d x =>
    cases w2 with
    | loc n => exact q.elim
    | d y =>
      unfold kD2 at q
      cases hg : g x y with
      | none => simp only [hg] at q; exact q.elim
      | some z =>
        simp only [hg] at q
        exact o x y z v1 v2 R H Q hg r1 r2 m.sub (fun u ru => q.fin m ru) fun p ob hp rp => q.finD m hp rp
theorem d_op {op : Operator} {r : R2} {g : D → D → Option D} {f1 f2 : Ev} (ho : OpR X (binaryOp op) r) (hd : OpD X.K g r) (ha : PE X a (tD X.K Wx f1)) (hb : PE X b (tD X.K Wx f2)) : PE X (.BinOp a op b pos) (tD X.K Wx (eOp g f1 f2)) :=
  (pe_op ho ha hb).imp fun σ H Q h => tG_two h fun bs R ρ e H w1 w2 v1 v2 m r1 r2 q => hd.run (Wx := Wx) m r1 r2 q
theorem d_cmp {op : CmpOp} {r : R2} {g : D → D → Option D} {f1 f2 : Ev} (ho : OpR X (compareOp op) r) (hd : OpD X.K g r) (ha : PE X a (tD X.K Wx f1)) (hb : PE X b (tD X.K Wx f2)) (hm : behindInMarks op b = false) : PE X (.Compare a [op] [b] pos) (tD X.K Wx (eOp g f1 f2)) :=
  (pe_cmpR ho ha hb hm).imp fun σ H Q h => tG_two h fun bs R ρ e H w1 w2 v1 v2 m r1 r2 q => hd.run (Wx := Wx) m r1 r2 q
/-- .. as a test -/
def kB2 (g : D → D → Option Bool) (w1 w2 : W) : Env → Rs Bool := fun e => match w1, w2 with
  | .d x, .d y => match g x y with | some z => .ok z e | none => .fail
  | _, _ => .fail
def bOp (g : D → D → Option Bool) (f1 f2 : Ev) : Env → Rs Bool := bin2 f1 f2 (kB2 g)
def blG (g : D → D → Option Bool) : D → D → Option D := fun x y => match g x y with | some z => some (.bl z) | none => none
def OpB (K : PySem.W.Frag) (g : D → D → Option Bool) (r : R2) : Prop :=
  ∀ (x y : D) (z : Bool) (v u : V) (R H : Hp) (Q : VK), g x y = some z → Rep K R x v → Rep K R y u → Same R H → Q (.bl z) H → r v u H Q
theorem OpB.d {K : PySem.W.Frag} {g : D → D → Option Bool} {r : R2} (o : OpB K g r) : OpD K (blG g) r := fun x y z v u R H Q hg r1 r2 s q _ => by
  unfold blG at hg
  cases hz : g x y with
  | none => rw [hz] at hg; cases hg
  | some k =>
    rw [hz] at hg
    have e : D.bl k = z := Option.some.inj hg
    subst e
    exact o x y k v u R H Q hz r1 r2 s (q _ (.bl k))
theorem OpB.run {K : PySem.W.Frag} {g : D → D → Option Bool} {r : R2} (o : OpB K g r) {bs : Bs} {R : Hp} {ρ : Nat → Addr} {e : Env} {σ : St} {H : Hp} {w1 w2 : W} {v1 v2 : V} {Q : Bool → Hp → Prop} (m : Md K bs R ρ e σ H) (r1 : RepW K R ρ w1 v1) (r2 : RepW K R ρ w2 v2)
    (q : OkR K Wx lB bs R ρ e σ Q (kB2 g w1 w2 e)) : r v1 v2 H (fun x H' => ∃ k, x = .bl k ∧ Q k H') := by
  cases w1 with
  | loc n => exact q.elim
  | d x =>
    cases w2 with
    | loc n => exact q.elim
    | d y =>
      unfold kB2 at q
      cases hg : g x y with
      | none => simp only [hg] at q; exact q.elim
      | some z =>
        simp only [hg] at q
        exact o x y z v1 v2 R H _ hg r1 r2 m.sub ⟨z, rfl, q.fin m rfl⟩
theorem t_cmp {op : CmpOp} {r : R2} {g : D → D → Option Bool} {f1 f2 : Ev} (ho : OpR X (compareOp op) r) (hd : OpB X.K g r) (ha : PE X a (tD X.K Wx f1)) (hb : PE X b (tD X.K Wx f2)) (hm : behindInMarks op b = false) : PT X (.Compare a [op] [b] pos) (tDT X.K Wx (bOp g f1 f2)) :=
  (pt_cmpR ho ha hb hm).imp fun σ H Q h => tG_two h fun bs R ρ e H w1 w2 v1 v2 m r1 r2 q => hd.run (Wx := Wx) m r1 r2 q
/-- a op b op c -/
def bChain (g g' : D → D → Option Bool) (f1 f2 f3 : Ev) : Env → Rs Bool := bin2 f1 f2 fun w1 w2 e => (kB2 g w1 w2 e).bind fun k e1 => if k = true then (if wl e1 w2 = true then (f3 e1).bind (kB2 g' w2) else .fail) else .ok false e1
theorem t_chain {op op' : CmpOp} {r r' : R2} {g g' : D → D → Option Bool} {f1 f2 f3 : Ev} (ho : OpR X (compareOp op) r) (ho' : OpR X (compareOp op') r') (hd : OpB X.K g r) (hd' : OpB X.K g' r') (ha : PE X a (tD X.K Wx f1)) (hb : PE X b (tD X.K Wx f2)) (hc : PE X c (tD X.K Wx f3))
    (hm : lastMarks [op, op'] [b, c] = false := by with_unfolding_all rfl) : PT X (.Compare a [op, op'] [b, c] pos) (tDT X.K Wx (bChain g g' f1 f2 f3)) := by
  refine (pt_chain ho ho' ha hb hc hm).imp fun σ H Q h => ?_
  show tD X.K Wx f1 σ H fun x H1 => tD X.K Wx f2 σ H1 fun y H2 => r x y H2 fun z H3 => ∃ k, z = .bl k ∧ (if k = true then tD X.K Wx f3 σ H3 fun w' H4 => r' y w' H4 (fun x H' => ∃ k, x = .bl k ∧ Q k H') else ∃ k', V.bl false = .bl k' ∧ Q k' H3)
  refine tG_two h fun bs R ρ e H2 w1 w2 v1 v2 m r1 r2 q => ?_
  cases w1 with
  | loc n => exact q.elim
  | d x =>
    cases w2 with
    | loc n => exact q.elim
    | d y =>
      unfold kB2 at q
      cases hg : g x y with
      | none => simp only [hg] at q; exact q.elim
      | some z =>
        simp only [hg, Rs.bind] at q
        refine hd x y z v1 v2 R H2 _ hg r1 r2 m.sub ⟨z, rfl, ?_⟩
        cases z with
        | false => exact ⟨false, rfl, q.fin m rfl⟩
        | true =>
          rw [if_pos rfl] at q
          rw [if_pos rfl]
          have q : OkR X.K Wx lB bs R ρ e σ Q ((f3 e).bind (kB2 g' (W.d y))) := q
          refine ⟨bs, R, ρ, e, m, (OkR.bind (L := lW X.K) q).imp fun v H4 h2 => ?_⟩
          obtain ⟨R2, ρ2, e2, w3, s2, l2, m2, r3, _, q2⟩ := h2
          exact hd'.run (Wx := Wx) m2 (RepW.mono (w := .d y) s2 r2) r3 q2
/-- .. as a value -/
theorem d_test {f : Env → Rs Bool} (h : PE X a (fun σ H Q => tDT X.K Wx f σ H fun k H1 => Q (.bl k) H1)) : PE X a (tD X.K Wx fun e => (f e).bind fun k e1 => .ok (.d (.bl k)) e1) := h.imp fun σ H Q q =>
  tG_one q fun bs R ρ e H k v m r q2 => by
    have e1 : k = v := r
    subst e1
    exact q2.fin m (Rep.bl k)

/-! tests -/
theorem t_not {f : Env → Rs Bool} (h : PT X a (tDT X.K Wx f)) : PT X (.UnaryOp .Not a pos) (tDT X.K Wx fun e => (f e).bind fun k e1 => .ok (!k) e1) := (pt_not h).imp fun σ H Q q =>
  tG_one q fun bs R ρ e H k v m r q2 => by
    have e1 : k = v := r
    subst e1
    exact q2.fin m rfl
def bAnd (f g : Env → Rs Bool) : Env → Rs Bool := fun e => (f e).bind fun k e1 => if k = true then g e1 else .ok false e1
def bOr (f g : Env → Rs Bool) : Env → Rs Bool := fun e => (f e).bind fun k e1 => if k = true then .ok true e1 else g e1
theorem w_and1 {f : Env → Rs Bool} (h : PT X a (tDT X.K Wx f)) : PW X (.BoolOp .And [a] pos) (tDT X.K Wx f) := pw_and1 h
theorem w_or1 {f : Env → Rs Bool} (h : PT X a (tDT X.K Wx f)) : PW X (.BoolOp .Or [a] pos) (tDT X.K Wx f) := pw_or1 h
theorem w_and {f g : Env → Rs Bool} (h : PT X a (tDT X.K Wx f)) (h2 : PW X (.BoolOp .And (b :: es) pos) (tDT X.K Wx g)) : PW X (.BoolOp .And (a :: b :: es) pos) (tDT X.K Wx (bAnd f g)) := (pw_and h h2).imp fun σ H Q q =>
  tG_one q fun bs R ρ e H k v m r q2 => by
    have e1 : k = v := r
    subst e1
    cases k with
    | true => rw [if_pos rfl] at q2 ⊢; exact ⟨bs, R, ρ, e, m, q2⟩
    | false => exact q2.fin m rfl
theorem w_or {f g : Env → Rs Bool} (h : PT X a (tDT X.K Wx f)) (h2 : PW X (.BoolOp .Or (b :: es) pos) (tDT X.K Wx g)) : PW X (.BoolOp .Or (a :: b :: es) pos) (tDT X.K Wx (bOr f g)) := (pw_or h h2).imp fun σ H Q q =>
  tG_one q fun bs R ρ e H k v m r q2 => by
    have e1 : k = v := r
    subst e1
    cases k with
    | false => exact ⟨bs, R, ρ, e, m, q2⟩
    | true => exact q2.fin m rfl
/-- truth of a value -/
def truD : D → Option Bool
  | .non => some false
  | .bl b => some b
  | .int i => some (i != 0)
  | .str x => if x.length ≤ sizeLine then some ((x.length : Int) != 0) else none
  | .lst xs => some (!xs.isEmpty)
  | .rd xs => some (!xs.isEmpty)
  | .tup xs => some (!xs.isEmpty)
  | .dic kvs => some (!kvs.isEmpty)
  | .obj _ _ => none
  | .dct _ => none
  | .fn _ => none
def kTru (w : W) : Env → Rs Bool := fun e => match w with
  | .d x => match truD x with | some k => .ok k e | none => .fail
  | .loc n => match e.cell n with
    | some (.lst xs) => .ok (!xs.isEmpty) e
    | _ => .fail
def bTru (f : Ev) : Env → Rs Bool := fun e => (f e).bind kTru
theorem RepL.isEmpty {K : PySem.W.Frag} {R : Hp} {ds : List D} {vs : List V} (h : RepL K R ds vs) : vs.isEmpty = ds.isEmpty := by cases h <;> rfl
theorem t_truth {f : Ev} (ha : PE X a (tD X.K Wx f)) (he : ∀ whole, isTrue a X.env whole = (do let v ← whole; standAt a.pos; holding [v] (truthy v))) : PT X a (tDT X.K Wx (bTru f)) := (pt_truth ha he).imp fun σ H Q q =>
  tG_one q fun bs R ρ e H w v m r q2 => by
    cases w with
    | loc n =>
      unfold kTru at q2
      cases hc : e.cell n with
      | none => simp only [hc] at q2; exact q2.elim
      | some c =>
        simp only [hc] at q2
        cases c with
        | lst xs =>
          obtain ⟨vs, h1, h2⟩ := m.cell n _ hc
          have e1 : v = .ref (ρ n) := r
          subst e1
          exact ⟨!xs.isEmpty, .inl ⟨vs, SqL.of h1, by rw [h2.isEmpty]⟩, q2.fin m rfl⟩
        | _ => exact q2.elim
    | d x =>
      unfold kTru at q2
      cases ht : truD x with
      | none => simp only [ht] at q2; exact q2.elim
      | some k =>
        simp only [ht] at q2
        refine ⟨k, ?_, q2.fin m rfl⟩
        have r : Rep X.K R x v := r
        cases r with
        | non => cases ht; rfl
        | bl c => cases ht; rfl
        | int i => cases ht; rfl
        | str y =>
          have ht : (if y.length ≤ sizeLine then some ((y.length : Int) != 0) else none) = some k := ht
          by_cases hl : y.length ≤ sizeLine
          · rw [if_pos hl] at ht
            cases ht
            exact ⟨hl, rfl⟩
          · rw [if_neg hl] at ht
            cases ht
        | lst h1 h2 => cases ht; exact .inl ⟨_, SqL.of (m.sub _ _ h1), by rw [h2.isEmpty]⟩
        | rd h1 h2 => cases ht; exact .inl ⟨_, m.sub.seq h1, by rw [h2.isEmpty]⟩
        | tup h1 h2 => cases ht; exact .inr (.inl ⟨_, (SqT.of (m.sub _ _ h1)), by rw [h2.isEmpty]⟩)
        | dic h1 h2 h3 =>
          cases ht
          refine .inr (.inr ⟨_, m.sub _ _ h1, ?_⟩)
          have e1 := congrArg List.isEmpty h2
          rw [List.isEmpty_map, List.isEmpty_map] at e1
          rw [e1]
        | obj h1 h2 h3 => cases ht
        | dct h1 h2 h3 => cases ht
        | fn f => cases ht
/-- a test that is a truth value -/
def kBl (w : W) : Env → Rs Bool := fun e => match w with
  | .d (.bl k) => .ok k e
  | _ => .fail
def bVal (f : Ev) : Env → Rs Bool := fun e => (f e).bind kBl
theorem d_ifExp {t : Env → Rs Bool} {f g : Ev} (hc : PT X c (tDT X.K Wx t)) (ha : PE X a (tD X.K Wx f)) (hb : PE X b (tD X.K Wx g)) : PE X (.IfExp c a b pos) (tD X.K Wx fun e => (t e).bind fun k e1 => if k = true then f e1 else g e1) := (pe_ifExp hc ha hb).imp fun σ H Q q =>
  tG_one q fun bs R ρ e H k v m r q2 => by
    have e1 : k = v := r
    subst e1
    cases k with
    | true => exact ⟨bs, R, ρ, e, m, q2⟩
    | false => exact ⟨bs, R, ρ, e, m, q2⟩

/-! argument lists -/
def evA : List Ev → Env → Rs (List W)
  | [], e => .ok [] e
  | f :: fs, e => (f e).bind fun w e1 => if wl e1 w = true then (evA fs e1).bind fun ws e2 => .ok (w :: ws) e2 else .fail
theorem a_nil : PA X [] (tDA X.K Wx (evA [])) := pa_nil.imp fun σ H Q ⟨b, R, ρ, e, m, q⟩ => q.fin m .nil
theorem a_cons {f : Ev} {fs : List Ev} (ha : PE X a (tD X.K Wx f)) (hr : PA X es (tDA X.K Wx (evA fs))) (hs : starEach (a :: es) X.env = (false, eval a X.env) :: starEach es X.env := by rfl) : PA X (a :: es) (tDA X.K Wx (evA (f :: fs))) := (pa_cons ha hr hs).imp fun σ H Q q =>
  tG_one q fun bs R ρ e H w v m r q2 => by
    split at q2
    · rename_i hl
      refine ⟨bs, R, ρ, e, m, (OkR.bind (L := lA X.K) q2).imp fun vs H2 h2 => ?_⟩
      obtain ⟨R2, ρ2, e2, ws, s2, l2, m2, r2, _, q3⟩ := h2
      exact q3.fin m2 (.cons (r.later hl s2 l2) r2)
    · exact q2.elim
end
end Dl
end
section
set_option Elab.async false
set_option linter.all false
set_option maxRecDepth 100000
set_option maxHeartbeats 4000000
namespace Dl
open PySem L2

section
variable {K : PySem.W.Frag}
/-! arithmetic -/
def addD : D → D → Option D
  | .int i, .int j => some (.int (i + j))
  | .str x, .str y => if x.length + y.length ≤ sizeLine then some (.str (x ++ y)) else none
  | .lst xs, .lst ys => if xs.length + ys.length ≤ sizeLine then some (.lst (xs ++ ys)) else none
  | .tup xs, .tup ys => if xs.length + ys.length ≤ sizeLine then some (.tup (xs ++ ys)) else none
  | _, _ => none
abbrev rAddS : R2 := fun x y H Q => ∃ i j, x = .str i ∧ y = .str j ∧ i.length + j.length ≤ sizeLine ∧ Q (.str (i ++ j)) H
abbrev rAddD (K : PySem.W.Frag) : R2 := fun x y H Q => rI0 (fun i j => .int (i + j)) x y H Q ∨ rAddS x y H Q ∨ rCat x y H Q ∨ rCatA K x y H Q
theorem op_addD {X : Cx} : OpR X (binaryOp .Add) (rAddD X.K) := op_add.or (op_add_str.or (op_cat.or op_catA))
theorem addD_ok : OpD K addD (rAddD K) := fun x y z v u R H Q hg r1 r2 s q n => by
  unfold addD at hg
  split at hg
  · cases hg; cases r1; cases r2
    exact .inl ⟨_, _, rfl, rfl, q _ (.int _)⟩
  · split at hg
    · rename_i hl
      cases hg; cases r1; cases r2
      exact .inr (.inl ⟨_, _, rfl, rfl, hl, q _ (.str _)⟩)
    · cases hg
  · split at hg
    · rename_i hl
      cases hg
      cases r1 with
      | lst h1 l1 =>
        cases r2 with
        | lst h2 l2 =>
          refine .inr (.inr (.inl ⟨_, _, _, _, rfl, rfl, s _ _ h1, s _ _ h2, by rw [← l1.length, ← l2.length]; exact hl, fun p hp => n p _ hp ?_⟩))
          have fr := s.free hp
          exact .lst upd_same ((RepL.mono (same_upd fr) l1).append (RepL.mono (same_upd fr) l2))
    · cases hg
  · split at hg
    · rename_i hl
      cases hg
      cases r1 with
      | tup h1 l1 =>
        cases r2 with
        | tup h2 l2 =>
          refine .inr (.inr (.inr ⟨_, _, _, _, rfl, rfl, (SqT.of (s _ _ h1)), (SqT.of (s _ _ h2)), by rw [← l1.length, ← l2.length]; exact hl, fun e => ?_, fun e e' => ?_, fun e e' p hp => n p _ hp ?_⟩))
          · subst e
            cases l1
            exact q _ (.tup h2 l2)
          · subst e'
            cases l2
            rw [List.append_nil] at q
            exact q _ (.tup h1 l1)
          · have fr := s.free hp
            exact .tup upd_same ((RepL.mono (same_upd fr) l1).append (RepL.mono (same_upd fr) l2))
    · cases hg
  · cases hg
def intD (g : Int → Int → Option Int) : D → D → Option D
  | .int i, .int j => match g i j with | some k => some (.int k) | none => none
  | _, _ => none
theorem intD_ok {C : Int → Int → Prop} {f : Int → Int → Int} {g : Int → Int → Option Int} (h : ∀ i j k, g i j = some k → C i j ∧ k = f i j) : OpD K (intD g) (rI C fun i j => .int (f i j)) := fun x y z v u R H Q hg r1 r2 s q n => by
  unfold intD at hg
  split at hg
  · rename_i i j
    cases hk : g i j with
    | none => simp only [hk] at hg; cases hg
    | some k =>
      simp only [hk] at hg; cases hg; cases r1; cases r2
      obtain ⟨h1, h2⟩ := h i j k hk
      exact ⟨i, j, rfl, rfl, h1, by subst h2; exact q _ (.int _)⟩
  · cases hg
theorem intD_ok0 {f : Int → Int → Int} {g : Int → Int → Option Int} (h : ∀ i j k, g i j = some k → k = f i j) : OpD K (intD g) (rI0 fun i j => .int (f i j)) := fun x y z v u R H Q hg r1 r2 s q n => by
  unfold intD at hg
  split at hg
  · rename_i i j
    cases hk : g i j with
    | none => simp only [hk] at hg; cases hg
    | some k =>
      simp only [hk] at hg; cases hg; cases r1; cases r2
      exact ⟨i, j, rfl, rfl, by have h2 := h i j k hk; subst h2; exact q _ (.int _)⟩
  · cases hg
def subD : D → D → Option D := intD fun i j => some (i - j)
theorem subD_ok : OpD K subD (rI0 fun i j => .int (i - j)) := intD_ok0 fun i j k h => (Option.some.inj h).symm
instance (i j : Int) : Decidable (CMul i j) := by unfold CMul; infer_instance
def mulI (i j : Int) : Option Int := if CMul i j then some (i * j) else none
def mulD : D → D → Option D
  | .int i, .int j => match mulI i j with | some k => some (.int k) | none => none
  | .lst xs, .int j => if -(2 ^ 63) ≤ j ∧ j < 2 ^ 63 ∧ xs.length * j.toNat ≤ sizeLine then some (.lst (List.replicate j.toNat xs).flatten) else none
  | _, _ => none
abbrev rMulD : R2 := fun x y H Q => rI CMul (fun i j => .int (i * j)) x y H Q ∨ rRep x y H Q
theorem op_mulD {X : Cx} : OpR X (binaryOp .Mult) rMulD := op_mul.or op_rep
theorem RepL.flat {R : Hp} {ds : List D} {vs : List V} (h : RepL K R ds vs) : ∀ k : Nat, RepL K R (List.replicate k ds).flatten (List.replicate k vs).flatten
  | 0 => .nil
  | k + 1 => by
    rw [List.replicate_succ, List.replicate_succ, List.flatten_cons, List.flatten_cons]
    exact h.append (h.flat k)
theorem mulD_ok : OpD K mulD rMulD := fun x y z v u R H Q hg r1 r2 s q n => by
  unfold mulD at hg
  split at hg
  · rename_i i j
    unfold mulI at hg
    by_cases hc : CMul i j
    · rw [if_pos hc] at hg; cases hg; cases r1; cases r2
      exact .inl ⟨i, j, rfl, rfl, hc, q _ (.int _)⟩
    · rw [if_neg hc] at hg; cases hg
  · split at hg
    · rename_i hl
      cases hg
      cases r2
      cases r1 with
      | lst h1 l1 =>
        refine .inr ⟨_, _, _, rfl, rfl, s _ _ h1, hl.1, hl.2.1, by rw [← l1.length]; exact hl.2.2, fun p hp => n p _ hp ?_⟩
        exact .lst upd_same (RepL.flat (RepL.mono (same_upd (s.free hp)) l1) _)
    · cases hg
  · cases hg
instance (i j : Int) : Decidable (CDivN i j) := by unfold CDivN; infer_instance
instance (i j : Int) : Decidable (CPow i j) := by unfold CPow; infer_instance
def fdivD : D → D → Option D := intD fun i j => if CDivN i j then some (i.fdiv j) else none
theorem fdivD_ok : OpD K fdivD (rI CDivN fun i j => .int (i.fdiv j)) := intD_ok fun i j k h => by
  split at h
  · rename_i hc; exact ⟨hc, (Option.some.inj h).symm⟩
  · cases h
def modD : D → D → Option D := intD fun i j => if j ≠ 0 then some (i.fmod j) else none
theorem modD_ok : OpD K modD (rI (fun _ j => j ≠ 0) fun i j => .int (i.fmod j)) := intD_ok fun i j k h => by
  split at h
  · rename_i hc; exact ⟨hc, (Option.some.inj h).symm⟩
  · cases h
def shlD : D → D → Option D := intD fun i j => if CPow i j then some (i * 2 ^ j.toNat) else none
theorem shlD_ok : OpD K shlD (rI CPow fun i j => .int (i * 2 ^ j.toNat)) := intD_ok fun i j k h => by
  split at h
  · rename_i hc; exact ⟨hc, (Option.some.inj h).symm⟩
  · cases h
def shrD : D → D → Option D := intD fun i j => if 0 ≤ j then some (i / 2 ^ j.toNat) else none
theorem shrD_ok : OpD K shrD (rI (fun _ j => 0 ≤ j) fun i j => .int (i / 2 ^ j.toNat)) := intD_ok fun i j k h => by
  split at h
  · rename_i hc; exact ⟨hc, (Option.some.inj h).symm⟩
  · cases h
def andD : D → D → Option D := intD fun i j => some (Builtin.bitAnd i j)
theorem andD_ok : OpD K andD (rI0 fun i j => .int (Builtin.bitAnd i j)) := intD_ok0 fun i j k h => (Option.some.inj h).symm

/-! comparisons -/
def cmpB (p : Int → Int → Bool) : D → D → Option Bool
  | .int i, .int j => some (p i j)
  | _, _ => none
theorem cmpB_ok (p : Int → Int → Bool) : OpB K (cmpB p) (rI0 fun i j => .bl (p i j)) := fun x y z v u R H Q hg r1 r2 s q => by
  unfold cmpB at hg
  split at hg
  · cases hg; cases r1; cases r2
    exact ⟨_, _, rfl, rfl, q⟩
  · cases hg
def strLt (x y : Str) : Bool := decide (x.cps.toList < y.cps.toList)
def ltB : D → D → Option Bool
  | .int i, .int j => some (decide (i < j))
  | .str x, .str y => some (strLt x y)
  | _, _ => none
theorem ltB_ok : OpB K ltB (fun x y H Q => rI0 (fun i j => .bl (decide (i < j))) x y H Q ∨ ∃ i j, x = .str i ∧ y = .str j ∧ Q (.bl (decide (i.cps.toList < j.cps.toList))) H) := fun x y z v u R H Q hg r1 r2 s q => by
  unfold ltB at hg
  split at hg
  · cases hg; cases r1; cases r2
    exact .inl ⟨_, _, rfl, rfl, q⟩
  · cases hg; cases r1; cases r2
    exact .inr ⟨_, _, rfl, rfl, q⟩
  · cases hg
theorem op_ltB {X : Cx} : OpR X (compareOp .Lt) (fun x y H Q => rI0 (fun i j => .bl (decide (i < j))) x y H Q ∨ ∃ i j, x = .str i ∧ y = .str j ∧ Q (.bl (decide (i.cps.toList < j.cps.toList))) H) := op_lt.or op_lt_str
abbrev leB : D → D → Option Bool := cmpB fun i j => decide (i ≤ j)
abbrev gtB : D → D → Option Bool := cmpB fun i j => decide (j < i)
abbrev geB : D → D → Option Bool := cmpB fun i j => decide (j ≤ i)

/-! equality -/
mutual
def toPy : D → Option PyData
  | .non => some .none
  | .bl b => some (.bool b)
  | .int i => some (.int i)
  | .str x => some (.str x)
  | .lst xs => match toPyL xs with | some ys => some (.list ys) | none => none
  | .rd xs => match toPyL xs with | some ys => some (.list ys) | none => none
  | .tup xs => match toPyL xs with | some ys => some (.tuple ys) | none => none
  | .dic _ => none
  | .obj _ _ => none
  | .dct _ => none
  | .fn _ => none
def toPyL : List D → Option (List PyData)
  | [] => some []
  | x :: xs => match toPy x, toPyL xs with | some y, some ys => some (y :: ys) | _, _ => none
end
mutual
theorem toPy_dp {R H : Hp} (s : Same R H) : ∀ {d : D} {v : V} {p : PyData}, toPy d = some p → Rep K R d v → Dp K H v p
  | .non, _, _, h, r => by cases r; cases h; exact .non
  | .bl b, _, _, h, r => by cases r; cases h; exact .bl b
  | .int b, _, _, h, r => by cases r; cases h; exact .int b
  | .str b, _, _, h, r => by cases r; cases h; exact .str b
  | .lst xs, _, _, h, r => by
    unfold toPy at h
    cases e : toPyL xs with
    | none => rw [e] at h; cases h
    | some ys =>
      rw [e] at h; cases h
      cases r with
      | lst h1 l1 => exact .lst (SqL.of (s _ _ h1)) (toPyL_dp s e l1)
  | .rd xs, _, _, h, r => by
    unfold toPy at h
    cases e : toPyL xs with
    | none => rw [e] at h; cases h
    | some ys =>
      rw [e] at h; cases h
      cases r with
      | rd h1 l1 => exact .lst (s.seq h1) (toPyL_dp s e l1)
  | .tup xs, _, _, h, r => by
    unfold toPy at h
    cases e : toPyL xs with
    | none => rw [e] at h; cases h
    | some ys =>
      rw [e] at h; cases h
      cases r with
      | tup h1 l1 => exact .tup ((SqT.of (s _ _ h1))) (toPyL_dp s e l1)
  | .dic _, _, _, h, _ => by unfold toPy at h; cases h
  | .obj _ _, _, _, h, _ => by unfold toPy at h; cases h
  | .dct _, _, _, h, _ => by unfold toPy at h; cases h
theorem toPyL_dp {R H : Hp} (s : Same R H) : ∀ {ds : List D} {vs : List V} {ps : List PyData}, toPyL ds = some ps → RepL K R ds vs → DpAll K H vs ps
  | [], _, _, h, r => by cases r; unfold toPyL at h; cases h; exact .nil
  | x :: xs, _, _, h, r => by
    unfold toPyL at h
    cases r with
    | cons r1 r2 =>
      cases e1 : toPy x with
      | none => rw [e1] at h; cases h
      | some y =>
        cases e2 : toPyL xs with
        | none => rw [e1, e2] at h; cases h
        | some ys =>
          rw [e1, e2] at h; cases h
          exact .cons (toPy_dp s e1 r1) (toPyL_dp s e2 r2)
end
def eqG (x y : D) : Option Bool :=
  match toPy x, toPy y with
  | some p, some q => if SeqAt.shaped p = true ∧ SeqAt.shaped q = true then some (PyData.eqv p q) else none
  | _, _ => none
/-- ==: flat data plainly, else by the data's own equality -/
def eqB : D → D → Option Bool
  | .non, .non => some true
  | .non, .int _ => some false
  | .int _, .non => some false
  | .non, .bl _ => some false
  | .bl _, .non => some false
  | .non, .str _ => some false
  | .str _, .non => some false
  | .int i, .int j => some (i == j)
  | .bl i, .bl j => some (i == j)
  | .str i, .str j => some (i == j)
  | .int _, .str _ => some false
  | .str _, .int _ => some false
  | .bl _, .str _ => some false
  | .str _, .bl _ => some false
  | x, y => eqG x y
def neB (x y : D) : Option Bool := match eqB x y with | some b => some (!b) | none => none
theorem eqB_ok : OpB K eqB (fun x y H Q => rEq x y H Q ∨ rEqD K x y H Q) := fun x y z v u R H Q hg r1 r2 s q => by
  unfold eqB at hg
  split at hg
  case h_15 =>
    right
    unfold eqG at hg
    split at hg
    · rename_i p p' e1 e2
      split at hg
      · rename_i hs
        cases hg
        exact ⟨p, p', toPy_dp s e1 r1, toPy_dp s e2 r2, hs.1, hs.2, q⟩
      · cases hg
    · cases hg
  all_goals
    left
    cases hg
    cases r1
    cases r2
    refine ⟨rfl, ?_⟩
    first
      | exact q
      | (rw [show ∀ (a b : V), a ≠ b → decide (a = b) = false from fun a b h => decide_eq_false h] <;> first | exact q | (intro z; cases z))
      | (rw [dec_int]; exact q)
      | (rw [dec_bl]; exact q)
      | (rw [dec_str]; exact q)
theorem neB_ok : OpB K neB (fun x y H Q => rNe x y H Q ∨ rNeD K x y H Q) := fun x y z v u R H Q hg r1 r2 s q => by
  unfold neB at hg
  cases he : eqB x y with
  | none => rw [he] at hg; cases hg
  | some k =>
    rw [he] at hg
    have e : (!k) = z := Option.some.inj hg
    subst e
    have h := eqB_ok x y k v u R H (fun a H' => ∃ c, a = .bl c ∧ Q (.bl (!c)) H') he r1 r2 s ⟨k, rfl, q⟩
    rcases h with ⟨h1, c, h2, h3⟩ | ⟨d, e, h1, h2, h3, h4, c, h5, h6⟩
    · refine .inl ⟨h1, ?_⟩
      cases h2
      exact h3
    · refine .inr ⟨d, e, h1, h2, h3, h4, ?_⟩
      cases h5
      exact h6
theorem op_eqB {X : Cx} (hu : X.A.units + 64 < cLine) : OpR X (compareOp .Eq) (fun x y H Q => rEq x y H Q ∨ rEqD X.K x y H Q) := op_eq.or (op_eqD hu)
theorem op_neB {X : Cx} (hu : X.A.units + 64 < cLine) : OpR X (compareOp .NotEq) (fun x y H Q => rNe x y H Q ∨ rNeD X.K x y H Q) := op_ne.or (op_neD hu)

/-! is None -/
def isNoneD : D → Bool
  | .non => true
  | _ => false
theorem rep_none {R : Hp} {x : D} {v : V} (r : Rep K R x v) : decide (v = .non) = isNoneD x := by
  cases r <;> first | rfl | (apply decide_eq_false; intro z; cases z)
def isNB : D → D → Option Bool
  | x, .non => some (isNoneD x)
  | _, _ => none
theorem isNB_ok : OpB K isNB (fun x y H Q => y = .non ∧ Q (.bl (decide (x = .non))) H) := fun x y z v u R H Q hg r1 r2 s q => by
  unfold isNB at hg
  split at hg
  · cases hg; cases r2
    exact ⟨rfl, by rw [rep_none r1]; exact q⟩
  · cases hg
def notNB : D → D → Option Bool
  | x, .non => some (!isNoneD x)
  | _, _ => none
theorem notNB_ok : OpB K notNB (fun x y H Q => y = .non ∧ Q (.bl (!decide (x = .non))) H) := fun x y z v u R H Q hg r1 r2 s q => by
  unfold notNB at hg
  split at hg
  · cases hg; cases r2
    exact ⟨rfl, by rw [rep_none r1]; exact q⟩
  · cases hg

/-! in, not in -/
def flatD : D → Option V
  | .non => some .non
  | .bl b => some (.bl b)
  | .int i => some (.int i)
  | .str x => some (.str x)
  | _ => none
theorem flatD_rep {R : Hp} {x : D} {v w : V} (h : flatD x = some w) (r : Rep K R x v) : v = w ∧ flatV v = true := by
  cases r <;> first | (cases h; exact ⟨rfl, rfl⟩) | cases h
def flatL : List D → Option (List V)
  | [] => some []
  | x :: xs => match flatD x, flatL xs with | some v, some vs => some (v :: vs) | _, _ => none
theorem flatL_rep {R : Hp} : ∀ {xs : List D} {vs ws : List V}, flatL xs = some ws → RepL K R xs vs → vs = ws ∧ vs.all flatV = true
  | [], _, _, h, .nil => by cases h; exact ⟨rfl, rfl⟩
  | x :: xs, _, _, h, .cons a b => by
    unfold flatL at h
    cases e1 : flatD x with
    | none => rw [e1] at h; cases h
    | some w =>
      cases e2 : flatL xs with
      | none => rw [e1, e2] at h; cases h
      | some ws =>
        rw [e1, e2] at h; cases h
        obtain ⟨h1, h2⟩ := flatD_rep e1 a
        obtain ⟨h3, h4⟩ := flatL_rep e2 b
        subst h1; subst h3
        exact ⟨rfl, by rw [List.all_cons, h2, h4]; rfl⟩
def inSeq (x : D) (ys : List D) : Option Bool := match flatD x, flatL ys with
  | some v, some vs => some (inV v vs)
  | _, _ => none
def strIn (x y : Str) : Bool := !(Builtin.Str.occurrences y x 0 y.length 1).isEmpty
def inB (x : D) : D → Option Bool
  | .lst ys => inSeq x ys
  | .rd ys => inSeq x ys
  | .tup ys => inSeq x ys
  | .str y => match x with | .str z => some (strIn z y) | _ => none
  | _ => none
def notInB (x y : D) : Option Bool := match inB x y with | some b => some (!b) | none => none
abbrev rInD (K : PySem.W.Frag) (neg : Bool) : R2 := fun x y H Q => rIn K neg x y H Q ∨ ∃ i j, x = .str i ∧ y = .str j ∧ Q (.bl (if neg then !(strIn i j) else strIn i j)) H
theorem inB_gen {neg : Bool} {x y : D} {z : Bool} {v u : V} {R H : Hp} {Q : VK} (hg : inB x y = some z) (r1 : Rep K R x v) (r2 : Rep K R y u) (s : Same R H) (q : Q (.bl (if neg then !z else z)) H) : rInD K neg v u H Q := by
  have sq : ∀ {ys : List D} {vs : List V} {p : Addr}, inSeq x ys = some z → RepL K R ys vs → u = .ref p → (SqL K H p vs ∨ SqT K H p vs) → rInD K neg v u H Q := fun {ys vs p} h l e t => by
    unfold inSeq at h
    cases e1 : flatD x with
    | none => rw [e1] at h; cases h
    | some w =>
      cases e2 : flatL ys with
      | none => rw [e1, e2] at h; cases h
      | some ws =>
        rw [e1, e2] at h; cases h
        obtain ⟨h1, h2⟩ := flatD_rep e1 r1
        obtain ⟨h3, h4⟩ := flatL_rep e2 l
        subst h1; subst h3
        exact .inl ⟨p, vs, e, t, h2, h4, q⟩
  cases r2 with
  | lst h1 l1 => exact sq hg l1 rfl (.inl (SqL.of (s _ _ h1)))
  | rd h1 l1 => exact sq hg l1 rfl (.inl (s.seq h1))
  | tup h1 l1 => exact sq hg l1 rfl (.inr ((SqT.of (s _ _ h1))))
  | str y =>
    cases r1 with
    | str x => cases hg; exact .inr ⟨x, y, rfl, rfl, q⟩
    | _ => cases hg
  | _ => cases hg
theorem inB_ok : OpB K inB (rInD K false) := fun x y z v u R H Q hg r1 r2 s q => inB_gen (neg := false) hg r1 r2 s q
theorem notInB_ok : OpB K notInB (rInD K true) := fun x y z v u R H Q hg r1 r2 s q => by
  unfold notInB at hg
  cases he : inB x y with
  | none => rw [he] at hg; cases hg
  | some k =>
    rw [he] at hg
    have e : (!k) = z := Option.some.inj hg
    subst e
    exact inB_gen (neg := true) he r1 r2 s q
theorem op_inB {X : Cx} : OpR X (compareOp .In) (rInD X.K false) := op_in_seq.or op_in_str
theorem op_notInB {X : Cx} : OpR X (compareOp .NotIn) (rInD X.K true) := op_notIn_seq.or L2.op_notIn_str
end
end Dl
end
section
set_option Elab.async false
set_option linter.all false
set_option maxRecDepth 100000
set_option maxHeartbeats 4000000
namespace Dl
open PySem L2

section
variable {K : PySem.W.Frag} {Wx : WX} {b : Bs} {R : Hp} {ρ : Nat → Addr} {e : Env} {σ : St} {H : Hp}

/-! new lists: frozen, or own in a register -/
def Env.open (e : Env) (k : Nat) : Bool := decide (e.np ≤ k) && (match e.M[k]? with | some none => true | _ => false) && e.noRef k
theorem Env.open_of {e : Env} {k : Nat} (h : e.open k = true) : e.np ≤ k ∧ e.cell k = none ∧ k < e.M.length ∧ e.noRef k = true := by
  unfold Env.open at h
  rw [Bool.and_eq_true, Bool.and_eq_true] at h
  obtain ⟨⟨h1, h2⟩, h3⟩ := h
  refine ⟨of_decide_eq_true h1, ?_, ?_, h3⟩
  · unfold Env.cell
    split at h2
    · rename_i q; rw [q]; rfl
    · cases h2
  · split at h2
    · rename_i q; exact (List.getElem?_eq_some_iff.mp q).1
    · cases h2
def newC (k : Nat) (c : Cell) : Ev := fun e => if e.open k = true then .ok (.loc k) (e.setC k (some c)) else .fail
def newL (keep : Option Nat) (xs : List D) : Ev := match keep with
  | none => fun e => .ok (.d (.lst xs)) e
  | some k => newC k (.lst xs)
theorem newC_ok {k : Nat} {c : Cell} {Q : VK} {p : Addr} {o : HO} (m : Md K b R ρ e σ H) (q : OkR K Wx (lW K) b R ρ e σ Q (newC k c e)) (hp : H p = none) (hc : CellAt K R (setR ρ k p) (upd H p o) p c) : Q (.ref p) (upd H p o) := by
  unfold newC at q
  split at q
  · rename_i ho
    obtain ⟨h1, h2, h3, h4⟩ := Env.open_of ho
    refine q R (setR ρ k p) (.ref p) (upd H p o) (Same.refl R) (fun n c' h => ?_) (m.freshC hp h2 h1 h4 hc) ?_
    · have hn : n ≠ k := fun z => by subst z; rw [h2] at h; cases h
      exact ⟨setR_ne hn, c', by rw [Env.cell_setC, if_neg (Ne.symm hn)]; exact h⟩
    · show V.ref p = .ref (setR ρ k p k)
      rw [setR_same]
  · exact q.elim
theorem newL_ok {keep : Option Nat} {xs : List D} {vs : List V} {Q : VK} {p : Addr} (m : Md K b R ρ e σ H) (q : OkR K Wx (lW K) b R ρ e σ Q (newL keep xs e)) (r : RepL K R xs vs) (hp : H p = none) : Q (.ref p) (upd H p (.lst vs)) := by
  cases keep with
  | none => exact OkR.finD q m hp (.lst upd_same (RepL.mono (same_upd (m.freshR hp)) r))
  | some k => exact newC_ok m q hp ⟨vs, upd_same, r⟩

theorem Paired.lengthEq {α β : Type} {F : α → β → Prop} : ∀ {l : List α} {m : List β}, Paired F l m → l.length = m.length
  | _, _, .nil => rfl
  | _, _, .cons _ t => by simp [Paired.lengthEq t]

/-! indexing -/
theorem atI_rep {xs : List D} {vs : List V} {i : Int} {d : D} (r : RepL K R xs vs) (h : atI xs i = some d) : ∃ v, atI vs i = some v ∧ Rep K R d v := by
  unfold atI at h ⊢
  rw [← r.length]
  cases q : ixN xs.length i with
  | none => rw [q] at h; cases h
  | some j =>
    rw [q] at h
    exact r.get h
theorem Paired.get2 {α β : Type} {F : α → β → Prop} : ∀ {l : List α} {m : List β} {i : Nat} {a : α}, Paired F l m → l[i]? = some a → ∃ c, m[i]? = some c ∧ F a c
  | _, _, _, _, .nil, h => by simp at h
  | _, _, 0, _, .cons r _, h => by simp at h; subst h; exact ⟨_, rfl, r⟩
  | _, _, i + 1, _, .cons _ t, h => by
    obtain ⟨c, h1, h2⟩ := Paired.get2 (i := i) t (by simpa using h)
    exact ⟨c, by simpa using h1, h2⟩
theorem atI_repW {xs : List W} {vs : List V} {i : Int} {d : W} (r : Paired (RepW K R ρ) xs vs) (h : atI xs i = some d) : ∃ v, atI vs i = some v ∧ RepW K R ρ d v := by
  unfold atI at h ⊢
  rw [← Paired.lengthEq r]
  cases q : ixN xs.length i with
  | none => rw [q] at h; cases h
  | some j =>
    rw [q] at h
    exact Paired.get2 r h
def okO (o : Option D) : Ev := fun e => match o with | some d => .ok (.d d) e | none => .fail
def okW (o : Option W) : Ev := fun e => match o with | some w => .ok w e | none => .fail
theorem okO_ok {o : Option D} {Q : VK} (q : OkR K Wx (lW K) b R ρ e σ Q (okO o e)) : ∃ d, o = some d ∧ OkR K Wx (lW K) b R ρ e σ Q (.ok (.d d) e) := by
  cases o with
  | none => exact q.elim
  | some d => exact ⟨d, rfl, q⟩
theorem okW_ok {o : Option W} {Q : VK} (q : OkR K Wx (lW K) b R ρ e σ Q (okW o e)) : ∃ d, o = some d ∧ OkR K Wx (lW K) b R ρ e σ Q (.ok d e) := by
  cases o with
  | none => exact q.elim
  | some d => exact ⟨d, rfl, q⟩
def ixDD : D → Int → Option D
  | .lst xs, i => atI xs i
  | .rd xs, i => atI xs i
  | .tup xs, i => atI xs i
  | .str z, i => if z.length ≤ sizeLine then match atI z.cps.toList i with | some c => some (.str ⟨#[c]⟩) | none => none else none
  | _, _ => none
def ixC : Cell → Int → Option W
  | .lst xs, i => match atI xs i with | some d => some (.d d) | none => none
  | .lw us, i => atI us i
  | _, _ => none
def kIx (w1 w2 : W) : Ev := fun e => match w2 with
  | .d (.int i) => match w1 with
    | .d x => okO (ixDD x i) e
    | .loc n => match e.cell n with
      | some c => okW (ixC c i) e
      | none => .fail
  | _ => .fail
theorem kIx_ok {w1 w2 : W} {v1 v2 : V} {Q : VK} (m : Md K b R ρ e σ H) (r1 : RepW K R ρ w1 v1) (r2 : RepW K R ρ w2 v2) (q : OkR K Wx (lW K) b R ρ e σ Q (kIx w1 w2 e)) : rIx K v1 v2 H Q := by
  unfold kIx at q
  split at q
  · rename_i i
    have r2 : Rep K R (.int i) v2 := r2
    cases r2
    cases w1 with
    | d x =>
      obtain ⟨d, hd, q2⟩ := okO_ok q
      clear q
      have r1 : Rep K R x v1 := r1
      cases r1 with
      | lst h1 l1 =>
        obtain ⟨v, hv, rv⟩ := atI_rep l1 hd
        exact .inl ⟨_, _, i, v, rfl, rfl, SqL.of (m.sub _ _ h1), hv, q2.fin (L := lW K) (a := .d d) m rv⟩
      | rd h1 l1 =>
        obtain ⟨v, hv, rv⟩ := atI_rep l1 hd
        exact .inl ⟨_, _, i, v, rfl, rfl, m.sub.seq h1, hv, q2.fin (L := lW K) (a := .d d) m rv⟩
      | tup h1 l1 =>
        obtain ⟨v, hv, rv⟩ := atI_rep l1 hd
        exact .inr (.inl ⟨_, _, i, v, rfl, rfl, (SqT.of (m.sub _ _ h1)), hv, q2.fin (L := lW K) (a := .d d) m rv⟩)
      | str z =>
        have hd : (if z.length ≤ sizeLine then match atI z.cps.toList i with | some c => some (D.str ⟨#[c]⟩) | none => none else none) = some d := hd
        by_cases hl : z.length ≤ sizeLine
        · rw [if_pos hl] at hd
          cases hc : atI z.cps.toList i with
          | none => rw [hc] at hd; cases hd
          | some c =>
            rw [hc] at hd
            cases hd
            exact .inr (.inr ⟨z, i, c, rfl, rfl, hl, hc, q2.fin m (Rep.str _)⟩)
        · rw [if_neg hl] at hd; cases hd
      | _ => cases hd
    | loc n =>
      have e1 : v1 = .ref (ρ n) := r1
      subst e1
      cases hc : e.cell n with
      | none => simp only [hc] at q; exact q.elim
      | some c =>
        simp only [hc] at q
        obtain ⟨w, hw, q2⟩ := okW_ok q
        clear q
        have ca := m.cell n c hc
        cases c with
        | lst xs =>
          obtain ⟨vs, h1, l1⟩ := ca
          have hw : (match atI xs i with | some d => some (W.d d) | none => none) = some w := hw
          cases hd : atI xs i with
          | none => rw [hd] at hw; cases hw
          | some d =>
            rw [hd] at hw; cases hw
            obtain ⟨v, hv, rv⟩ := atI_rep l1 hd
            exact .inl ⟨_, _, i, v, rfl, rfl, SqL.of h1, hv, q2.fin (L := lW K) (a := .d d) m rv⟩
        | lw us =>
          obtain ⟨vs, h1, l1⟩ := ca
          obtain ⟨v, hv, rv⟩ := atI_repW l1 hw
          exact .inl ⟨_, _, i, v, rfl, rfl, SqL.of h1, hv, q2.fin m rv⟩
        | _ => cases hw
  · exact q.elim

/-! slices -/
def cutL {α : Type} (xs : List α) (lo hi : Option Int) : List α := (xs.drop (HT.sIx xs.length 0 lo)).take (HT.sIx xs.length xs.length hi - HT.sIx xs.length 0 lo)
theorem RepL.cut {xs : List D} {vs : List V} (r : RepL K R xs vs) (lo hi : Option Int) : RepL K R (cutL xs lo hi) (cutV vs lo hi) := by
  unfold cutL cutV
  rw [r.length]
  exact (r.drop _).take _
def slD : D → Option Int → Option Int → Option D
  | .lst xs, lo, hi => some (.lst (cutL xs lo hi))
  | .rd xs, lo, hi => some (.lst (cutL xs lo hi))
  | .tup xs, lo, hi => some (.tup (cutL xs lo hi))
  | .str z, lo, hi => if z.length ≤ sizeLine then some (.str (cutS z lo hi)) else none
  | _, _, _ => none
def kSl (w : W) (lo hi : Option Int) : Ev := fun e => match w with
  | .d x => okO (slD x lo hi) e
  | .loc n => match e.cell n with
    | some (.lst xs) => .ok (.d (.lst (cutL xs lo hi))) e
    | _ => .fail
abbrev rSlD (K : PySem.W.Frag) : V → Option Int → Option Int → Hp → VK → Prop := fun x lo hi H Q => rSlL K x lo hi H Q ∨ rSlA K x lo hi H Q ∨ rSlS x lo hi H Q
theorem sl_D {X : Cx} : SlR X (rSlD X.K) := sl_list.or (sl_tupA.or sl_str)
theorem cutL_whole {α : Type} (xs : List α) {lo hi : Option Int} (h : HT.sIx xs.length 0 lo = 0 ∧ HT.sIx xs.length xs.length hi = xs.length) : cutL xs lo hi = xs := by
  unfold cutL
  rw [h.1, h.2]
  simp
theorem kSl_ok {w : W} {v : V} {lo hi : Option Int} {Q : VK} (m : Md K b R ρ e σ H) (r : RepW K R ρ w v) (q : OkR K Wx (lW K) b R ρ e σ Q (kSl w lo hi e)) : rSlD K v lo hi H Q := by
  cases w with
  | d x =>
    obtain ⟨d, hd, q2⟩ := okO_ok q
    clear q
    have r : Rep K R x v := r
    cases r with
    | lst h1 l1 =>
      cases hd
      exact .inl ⟨_, _, rfl, SqL.of (m.sub _ _ h1), fun p hp => q2.finD m hp (.lst upd_same (RepL.mono (same_upd (m.freshR hp)) (l1.cut lo hi)))⟩
    | rd h1 l1 =>
      cases hd
      exact .inl ⟨_, _, rfl, m.sub.seq h1, fun p hp => q2.finD m hp (.lst upd_same (RepL.mono (same_upd (m.freshR hp)) (l1.cut lo hi)))⟩
    | tup h1 l1 =>
      cases hd
      refine .inr (.inl ⟨_, _, rfl, (SqT.of (m.sub _ _ h1)), fun hw => ?_, fun hw p hp => q2.finD m hp (.tup upd_same (RepL.mono (same_upd (m.freshR hp)) (l1.cut lo hi)))⟩)
      rw [cutL_whole _ (by rw [l1.length]; exact hw)] at q2
      exact q2.fin m (Rep.tup h1 l1)
    | str z =>
      have hd : (if z.length ≤ sizeLine then some (D.str (cutS z lo hi)) else none) = some d := hd
      by_cases hl : z.length ≤ sizeLine
      · rw [if_pos hl] at hd
        cases hd
        exact .inr (.inr ⟨z, rfl, hl, q2.fin m (Rep.str _)⟩)
      · rw [if_neg hl] at hd; cases hd
    | _ => cases hd
  | loc n =>
    have e1 : v = .ref (ρ n) := r
    subst e1
    unfold kSl at q
    cases hc : e.cell n with
    | none => simp only [hc] at q; exact q.elim
    | some c =>
      simp only [hc] at q
      cases c with
      | lst xs =>
        obtain ⟨vs, h1, l1⟩ := m.cell n _ hc
        exact .inl ⟨_, _, rfl, SqL.of h1, fun p hp => OkR.finD q m hp (.lst upd_same (RepL.mono (same_upd (m.freshR hp)) (l1.cut lo hi)))⟩
      | _ => exact q.elim
end

section
variable {X : Cx} {Wx : WX} {a c : Expr} {es : List Expr} {pos : Pos}
def eIx (f g : Ev) : Ev := bin2 f g kIx
theorem d_ix {f g : Ev} (ha : PE X a (tD X.K Wx f)) (hb : PE X c (tD X.K Wx g)) (hs : PlainIx c) : PE X (.Subscript a c pos) (tD X.K Wx (eIx f g)) := (pe_ix ix_seq ha hb hs).imp fun σ H Q h =>
  tG_two h fun bs R ρ e H w1 w2 v1 v2 m r1 r2 q => kIx_ok m r1 r2 q
abbrev lO : Rl (Option Int) (Option Int) := fun _ _ => Eq
abbrev tDO (K : PySem.W.Frag) (Wx : WX) (f : Env → Rs (Option Int)) : TO := tG K Wx lO f
def oNone : Env → Rs (Option Int) := fun e => .ok none e
def oSome (f : Ev) : Env → Rs (Option Int) := fun e => (f e).bind fun w e1 => match w with | .d (.int i) => .ok (some i) e1 | _ => .fail
theorem _root_.L2.PO.imp {X : Cx} {a : Option Expr} {t t' : TO} (h : PO X a t) (i : ∀ σ H Q, t' σ H Q → t σ H Q) : PO X a t' := ⟨fun pins s σ H Q I q => h.run pins s σ H Q I (i σ H Q q)⟩
theorem o_none : PO X none (tDO X.K Wx oNone) := po_none.imp fun σ H Q ⟨b, R, ρ, e, m, q⟩ => q.fin m rfl
theorem o_some {f : Ev} (h : PE X a (tD X.K Wx f)) : PO X (some a) (tDO X.K Wx (oSome f)) := (po_some h).imp fun σ H Q q =>
  tG_one q fun bs R ρ e H w v m r q2 => by
    split at q2
    · rename_i i
      have r : Rep X.K R (.int i) v := r
      cases r
      exact ⟨i, rfl, q2.fin m rfl⟩
    · exact q2.elim
def eSl (f : Ev) (lo hi : Env → Rs (Option Int)) : Ev := fun e => (f e).bind fun w e1 => if wl e1 w = true then (lo e1).bind fun l e2 => if wl e2 w = true then (hi e2).bind fun h e3 => kSl w l h e3 else .fail else .fail
theorem d_sl {f : Ev} {lo hi : Option Expr} {fl fh : Env → Rs (Option Int)} {p2 : Pos} (ha : PE X a (tD X.K Wx f)) (hl : PO X lo (tDO X.K Wx fl)) (hh : PO X hi (tDO X.K Wx fh)) : PE X (.Subscript a (.Slice lo hi none p2) pos) (tD X.K Wx (eSl f fl fh)) := (pe_slice sl_D ha hl hh).imp fun σ H Q h =>
  tG_one h fun bs R ρ e H w v m r q => by
    split at q
    · rename_i h1
      refine ⟨bs, R, ρ, e, m, (OkR.bind (L := lO) q).imp fun l H2 h2 => ?_⟩
      obtain ⟨R2, ρ2, e2, l', s2, l2, m2, r2, _, q2⟩ := h2
      have e1 : l' = l := r2
      subst e1
      split at q2
      · rename_i h3
        refine ⟨bs, R2, ρ2, e2, m2, (OkR.bind (L := lO) q2).imp fun u H3 h3' => ?_⟩
        obtain ⟨R3, ρ3, e3, u', s3, l3, m3, r3, _, q3⟩ := h3'
        have e1 : u' = u := r3
        subst e1
        exact kSl_ok m3 ((r.later h1 s2 l2).later h3 s3 l3) q3
      · exact q2.elim
    · exact q.elim

/-! calls of built-ins -/
/-- what the rule r of a call asks follows from k -/
def CallD (K : PySem.W.Frag) (Wx : WX) (k : List W → Ev) (r : List V → Hp → VK → Prop) : Prop :=
  ∀ (b : Bs) (R : Hp) (ρ : Nat → Addr) (e : Env) (σ : St) (H : Hp) (ws : List W) (vs : List V) (Q : VK), Md K b R ρ e σ H → Paired (RepW K R ρ) ws vs → OkR K Wx (lW K) b R ρ e σ Q (k ws e) → r vs H Q
def eCB (k : List W → Ev) (fs : List Ev) : Ev := fun e => (evA fs e).bind k
theorem d_callB {k : List W → Ev} {fs : List Ev} {id : String} {x : Str} {p : Pos} {r : List V → Hp → VK → Prop} (hc : CallR X (.builtin id) r) (hk : CallD X.K Wx k r) (hg : Gl X x) (hm : X.mg x = none) (hv : bootBuiltins x = some (.builtin id)) (ha : PA X (a :: es) (tDA X.K Wx (evA fs)))
    (hn : x ≠ "__name__" := by decide) (hdb : (x == ("__debug__" : Str)) = false := by decide) (he : starEach (a :: es) X.env = (false, eval a X.env) :: starEach es X.env := by rfl) (hpl : (backTo pos (starEach es X.env)).any (·.1) = false := by rfl) :
    PE X (.Call (.Name x p) (a :: es) [] pos) (tD X.K Wx (eCB k fs)) := (pe_callB hc hg hm hv ha hn hdb he hpl).imp fun σ H Q h =>
  tG_one h fun bs R ρ e H ws vs m r q => hk bs R ρ e σ H ws vs Q m r q
theorem d_callT {k : List W → Ev} {fs : List Ev} {T : String} {x : Str} {p : Pos} {r : List V → Hp → VK → Prop} (hc : CallR X (.type T) r) (hk : CallD X.K Wx k r) (hg : Gl X x) (hm : X.mg x = none) (hv : bootBuiltins x = some (.type T)) (ha : PA X (a :: es) (tDA X.K Wx (evA fs)))
    (hn : x ≠ "__name__" := by decide) (hdb : (x == ("__debug__" : Str)) = false := by decide) (he : starEach (a :: es) X.env = (false, eval a X.env) :: starEach es X.env := by rfl) (hpl : (backTo pos (starEach es X.env)).any (·.1) = false := by rfl) :
    PE X (.Call (.Name x p) (a :: es) [] pos) (tD X.K Wx (eCB k fs)) := (pe_callTy hc hg hm hv ha hn hdb he hpl).imp fun σ H Q h =>
  tG_one h fun bs R ρ e H ws vs m r q => hk bs R ρ e σ H ws vs Q m r q
variable {K : PySem.W.Frag}
theorem pair1 {F : W → V → Prop} {w : W} {vs : List V} (r : Paired F [w] vs) : ∃ v, vs = [v] ∧ F w v := by
  cases r with
  | cons a t => cases t; exact ⟨_, rfl, a⟩
theorem pair2 {F : W → V → Prop} {w w' : W} {vs : List V} (r : Paired F [w, w'] vs) : ∃ v v', vs = [v, v'] ∧ F w v ∧ F w' v' := by
  cases r with
  | cons a t =>
    obtain ⟨v', e, r'⟩ := pair1 t
    subst e
    exact ⟨_, v', rfl, a, r'⟩
/-- one frozen argument, a plain answer -/
def k1 (g : D → Option D) : List W → Ev := fun ws e => match ws with
  | [.d x] => okO (g x) e
  | _ => .fail
theorem k1_ok {g : D → Option D} {r : List V → Hp → VK → Prop} (h : ∀ (x z : D) (v : V) (R H : Hp) (Q : VK), g x = some z → Rep K R x v → Same R H → (∀ u, Rep K R z u → Q u H) → (∀ p o, H p = none → Rep K (upd R p o) z (.ref p) → Q (.ref p) (upd H p o)) → r [v] H Q) : CallD K Wx (k1 g) r := fun b R ρ e σ H ws vs Q m rp q => by
  unfold k1 at q
  split at q
  · rename_i x
    obtain ⟨v, e1, rv⟩ := pair1 rp
    subst e1
    obtain ⟨z, hz, q⟩ := okO_ok q
    exact h x z v R H Q hz rv m.sub (fun u ru => q.fin m ru) fun p o hp rp => q.finD m hp rp
  · exact q.elim
/-! len -/
def lenD : D → Option D
  | .lst xs => some (.int xs.length)
  | .rd xs => some (.int xs.length)
  | .tup xs => some (.int xs.length)
  | .str z => if z.length ≤ sizeLine then some (.int z.length) else none
  | .dic kvs => some (.int kvs.length)
  | .dct kvs => some (.int kvs.length)
  | _ => none
def lenC : Cell → Option D
  | .lst xs => some (.int xs.length)
  | .lw xs => some (.int xs.length)
  | .dic kvs => some (.int kvs.length)
  | .dct kvs => some (.int kvs.length)
  | _ => none
def kLen : List W → Ev := fun ws e => match ws with
  | [.d x] => okO (lenD x) e
  | [.loc n] => match e.cell n with
    | some c => okO (lenC c) e
    | none => .fail
  | _ => .fail
abbrev rLenA0 (K : PySem.W.Frag) : List V → Hp → VK → Prop := fun xs H Q => (∃ x n, xs = [x] ∧ LenV K x H n ∧ Q (.int n) H) ∨ (∃ a kvs, xs = [V.ref a] ∧ H a = some (.dK kvs) ∧ Q (.int kvs.length) H)
abbrev rLenA (K : PySem.W.Frag) : List V → Hp → VK → Prop := fun xs H Q => rLenA0 K xs H Q ∨ rLenT xs H Q
theorem call_lenA : CallR X (.builtin "len") (rLenA X.K) := (call_len.or call_lenD).or call_len_dT
theorem kLen_ok : CallD K Wx kLen (rLenA K) := fun b R ρ e σ H ws vs Q m rp q => by
  unfold kLen at q
  split at q
  · rename_i x
    obtain ⟨v, e1, rv⟩ := pair1 rp
    subst e1
    obtain ⟨z, hz, q⟩ := okO_ok q
    have rv : Rep K R x v := rv
    cases rv with
    | lst h1 l1 => cases hz; exact .inl (.inl ⟨_, _, rfl, .inl ⟨_, SqL.of (m.sub _ _ h1), rfl⟩, q.fin m (by rw [l1.length]; exact Rep.int _)⟩)
    | rd h1 l1 => cases hz; exact .inl (.inl ⟨_, _, rfl, .inl ⟨_, m.sub.seq h1, rfl⟩, q.fin m (by rw [l1.length]; exact Rep.int _)⟩)
    | tup h1 l1 => cases hz; exact .inl (.inl ⟨_, _, rfl, .inr ⟨_, (SqT.of (m.sub _ _ h1)), rfl⟩, q.fin m (by rw [l1.length]; exact Rep.int _)⟩)
    | dic h1 h2 l1 =>
      cases hz
      have e2 := congrArg List.length h2
      rw [List.length_map, List.length_map] at e2
      exact .inl (.inr ⟨_, _, rfl, m.sub _ _ h1, q.fin m (by rw [← e2]; exact Rep.int _)⟩)
    | str z =>
      have hz : (if z.length ≤ sizeLine then some (D.int z.length) else none) = some _ := hz
      by_cases hl : z.length ≤ sizeLine
      · rw [if_pos hl] at hz
        cases hz
        exact .inl (.inl ⟨_, _, rfl, ⟨hl, rfl⟩, q.fin m (Rep.int _)⟩)
      · rw [if_neg hl] at hz; cases hz
    | dct h1 h2 l1 =>
      cases hz
      have e2 := congrArg List.length h2
      rw [List.length_map, List.length_map] at e2
      exact .inr ⟨_, _, rfl, m.sub _ _ h1, q.fin m (by rw [← e2]; exact Rep.int _)⟩
    | _ => cases hz
  · rename_i n
    obtain ⟨v, e1, rv⟩ := pair1 rp
    subst e1
    have e1 : v = .ref (ρ n) := rv
    subst e1
    cases hc : e.cell n with
    | none => simp only [hc] at q; exact q.elim
    | some c =>
      simp only [hc] at q
      obtain ⟨z, hz, q⟩ := okO_ok q
      have ca := m.cell n c hc
      cases c with
      | lst xs =>
        obtain ⟨vs, h1, l1⟩ := ca
        cases hz
        exact .inl (.inl ⟨_, _, rfl, .inl ⟨_, SqL.of h1, rfl⟩, q.fin m (by rw [l1.length]; exact Rep.int _)⟩)
      | lw xs =>
        obtain ⟨vs, h1, l1⟩ := ca
        cases hz
        exact .inl (.inl ⟨_, _, rfl, .inl ⟨_, SqL.of h1, rfl⟩, q.fin m (by rw [Paired.lengthEq l1]; exact Rep.int _)⟩)
      | dic kvs =>
        obtain ⟨ws, h1, h2, l1⟩ := ca
        cases hz
        have e2 := congrArg List.length h2
        rw [List.length_map, List.length_map] at e2
        exact .inl (.inr ⟨_, _, rfl, h1, q.fin m (by rw [← e2]; exact Rep.int _)⟩)
      | dct kvs =>
        obtain ⟨ws, h1, h2, l1⟩ := ca
        cases hz
        have e2 := congrArg List.length h2
        rw [List.length_map, List.length_map] at e2
        exact .inr ⟨_, _, rfl, h1, q.fin m (by rw [← e2]; exact Rep.int _)⟩
      | obj C fs => cases hz
  · exact q.elim
/-! int, list, sum -/
def intOf : D → Option D
  | .int i => some (.int i)
  | .bl k => some (.int (if k then 1 else 0))
  | _ => none
theorem kInt_ok : CallD K Wx (k1 intOf) (fun xs H Q => (∃ i, xs = [.int i] ∧ Q (.int i) H) ∨ ∃ k, xs = [.bl k] ∧ Q (.int (if k then 1 else 0)) H) := k1_ok fun x z v R H Q hz rv s q n => by
  cases rv <;> first | (cases hz; exact .inl ⟨_, rfl, q _ (.int _)⟩) | (cases hz; exact .inr ⟨_, rfl, q _ (.int _)⟩) | cases hz
def itemsD : D → Option (List D)
  | .lst xs => some xs
  | .rd xs => some xs
  | .tup xs => some xs
  | _ => none
theorem itemsD_ok {R H : Hp} {x : D} {v : V} {xs : List D} (h : itemsD x = some xs) (r : Rep K R x v) (s : Same R H) : ∃ p vs, v = .ref p ∧ (SqL K H p vs ∨ SqT K H p vs) ∧ RepL K R xs vs := by
  cases r with
  | lst h1 l1 => cases h; exact ⟨_, _, rfl, .inl (SqL.of (s _ _ h1)), l1⟩
  | rd h1 l1 => cases h; exact ⟨_, _, rfl, .inl (s.seq h1), l1⟩
  | tup h1 l1 => cases h; exact ⟨_, _, rfl, .inr ((SqT.of (s _ _ h1))), l1⟩
  | _ => cases h
def kList (keep : Option Nat) : List W → Ev := fun ws e => match ws with
  | [.d x] => match itemsD x with | some xs => newL keep xs e | none => .fail
  | [.loc n] => match e.cell n with
    | some (.lst xs) => newL keep xs e
    | _ => .fail
  | _ => .fail
theorem kList_ok {keep : Option Nat} : CallD K Wx (kList keep) (fun xs H Q => ∃ p ys, xs = [.ref p] ∧ (SqL K H p ys ∨ SqT K H p ys) ∧ ∀ l, H l = none → Q (.ref l) (upd H l (.lst ys))) := fun b R ρ e σ H ws vs Q m rp q => by
  unfold kList at q
  split at q
  · rename_i x
    obtain ⟨v, e1, rv⟩ := pair1 rp
    subst e1
    cases hx : itemsD x with
    | none => simp only [hx] at q; exact q.elim
    | some xs =>
      simp only [hx] at q
      obtain ⟨p, vs, e1, h1, l1⟩ := itemsD_ok (K := K) hx rv m.sub
      subst e1
      exact ⟨p, vs, rfl, h1, fun l hl => newL_ok m q l1 hl⟩
  · rename_i n
    obtain ⟨v, e1, rv⟩ := pair1 rp
    subst e1
    have e1 : v = .ref (ρ n) := rv
    subst e1
    split at q
    · rename_i xs hc
      obtain ⟨vs, h1, l1⟩ := m.cell n _ hc
      exact ⟨_, vs, rfl, .inl (SqL.of h1), fun l hl => newL_ok m q l1 hl⟩
    · exact q.elim
  · exact q.elim
def intsD : List D → Option (List Int)
  | [] => some []
  | .int i :: r => match intsD r with | some s => some (i :: s) | none => none
  | _ :: _ => none
theorem intsD_eq : ∀ {xs : List D} {ns : List Int}, intsD xs = some ns → xs = ns.map D.int
  | [], _, h => by cases h; rfl
  | .int i :: r, _, h => by
    unfold intsD at h
    cases q : intsD r with
    | none => rw [q] at h; cases h
    | some s => rw [q] at h; cases h; rw [intsD_eq q]; rfl
  | .non :: _, _, h => by cases h
  | .bl _ :: _, _, h => by cases h
  | .str _ :: _, _, h => by cases h
  | .lst _ :: _, _, h => by cases h
  | .tup _ :: _, _, h => by cases h
  | .rd _ :: _, _, h => by cases h
  | .dic _ :: _, _, h => by cases h
  | .obj _ _ :: _, _, h => by cases h
  | .dct _ :: _, _, h => by cases h
theorem intsD_map : ∀ ns : List Int, intsD (ns.map D.int) = some ns
  | [] => rfl
  | n :: ns => by rw [List.map_cons, intsD, intsD_map ns]
def sumD : D → Option D
  | .lst xs => match intsD xs with | some ns => some (.int ns.sum) | none => none
  | .rd xs => match intsD xs with | some ns => some (.int ns.sum) | none => none
  | _ => none
theorem kSum_ok : CallD K Wx (k1 sumD) (rSum K) := k1_ok fun x z v R H Q hz rv s q n => by
  have fin : ∀ {xs : List D} {p : Addr} {vs : List V}, (match intsD xs with | some ns => some (D.int ns.sum) | none => none) = some z → SqL K H p vs → RepL K R xs vs → rSum K [.ref p] H Q := fun {xs p vs} h h1 l1 => by
    cases hi : intsD xs with
    | none => rw [hi] at h; cases h
    | some ns =>
      rw [hi] at h; cases h
      rw [intsD_eq hi] at l1
      rw [l1.ints_inv] at h1
      exact ⟨p, ns, rfl, h1, q _ (.int _)⟩
  cases rv with
  | lst h1 l1 => exact fin hz (SqL.of (s _ _ h1)) l1
  | rd h1 l1 => exact fin hz (s.seq h1) l1
  | _ => cases hz
/-! min, max of two ints; abs -/
def k2 (g : D → D → Option D) : List W → Ev := fun ws e => match ws with
  | [.d x, .d y] => okO (g x y) e
  | _ => .fail
theorem k2_ok {g : D → D → Option D} {r : List V → Hp → VK → Prop} (h : ∀ (x y z : D) (v u : V) (R H : Hp) (Q : VK), g x y = some z → Rep K R x v → Rep K R y u → Same R H → (∀ u, Rep K R z u → Q u H) → r [v, u] H Q) : CallD K Wx (k2 g) r := fun b R ρ e σ H ws vs Q m rp q => by
  unfold k2 at q
  split at q
  · rename_i x y
    obtain ⟨v, u, e1, rv, ru⟩ := pair2 rp
    subst e1
    obtain ⟨z, hz, q⟩ := okO_ok q
    exact h x y z v u R H Q hz rv ru m.sub (fun u ru => q.fin m ru)
  · exact q.elim
def maxD : D → D → Option D := intD fun i j => some (if j > i then j else i)
def minD : D → D → Option D := intD fun i j => some (if j < i then j else i)
theorem kMax2_ok : CallD K Wx (k2 maxD) (fun xs H Q => ∃ i j, xs = [.int i, .int j] ∧ Q (.int (if j > i then j else i)) H) := k2_ok fun x y z v u R H Q hz r1 r2 s q => by
  cases r1 <;> first | (cases r2 <;> first | (cases hz; exact ⟨_, _, rfl, q _ (.int _)⟩) | cases hz) | cases hz
theorem kMin2_ok : CallD K Wx (k2 minD) (fun xs H Q => ∃ i j, xs = [.int i, .int j] ∧ Q (.int (if j < i then j else i)) H) := k2_ok fun x y z v u R H Q hz r1 r2 s q => by
  cases r1 <;> first | (cases r2 <;> first | (cases hz; exact ⟨_, _, rfl, q _ (.int _)⟩) | cases hz) | cases hz

/-! isinstance(x, T), T a built-in class -/
def tyD : D → Option String
  | .non => some "NoneType"
  | .bl _ => some "bool"
  | .int _ => some "int"
  | .str _ => some "str"
  | .lst _ => some "list"
  | .rd _ => none
  | .tup _ => some "tuple"
  | .dic _ => some "dict"
  | .obj _ _ => none
  | .dct _ => none
  | .fn _ => none
theorem tyT {H : Hp} {p : Addr} {vs : List V} (h : SqT K H p vs) : TyX K H (.ref p) (.type "tuple") := by
  rcases h with (h | ⟨o, h⟩) | ⟨o, its, n, h, c, _⟩
  · exact .base (.tup h)
  · exact .fTuple h
  · exact .kTuple h c
theorem tyD_ok {R H : Hp} {x : D} {v : V} {t : String} (h : tyD x = some t) (r : Rep K R x v) (s : Same R H) : TyX K H v (.type t) := by
  cases r with
  | non => cases h; exact .base .non
  | bl k => cases h; exact .base (.bl k)
  | int k => cases h; exact .base (.int k)
  | str k => cases h; exact .base (.str k)
  | lst h1 l1 => cases h; exact .base (.lst (s _ _ h1))
  | rd h1 l1 => cases h
  | tup h1 l1 => cases h; exact tyT ((SqT.of (s _ _ h1)))
  | dic h1 h2 l1 => cases h; exact .base (.dK (s _ _ h1))
  | obj h1 h2 l1 => cases h
  | dct h1 h2 l1 => cases h
  | fn f => cases h
def isiD (T : String) : D → Option D := fun x => match tyD x with | some t => (match kitB t T with | some k => some (.bl k) | none => none) | none => none
/-- isinstance(x, T): the class's name is evaluated as a value that is no data -/
def eIsi (T : String) (f : Ev) : Ev := fun e => (f e).bind fun w e1 => match w with | .d x => okO (isiD T x) e1 | _ => .fail
theorem d_isi {T : String} {f : Ev} {y : Str} {p p2 : Pos} (hg : Gl X "isinstance") (hm : X.mg "isinstance" = none) (hf : PE X a (tD X.K Wx f)) (hT : PE X (.Name y p2) (tC (.ty T)))
    (he : starEach [a, .Name y p2] X.env = (false, eval a X.env) :: starEach [.Name y p2] X.env := by rfl) (he2 : starEach [.Name y p2] X.env = (false, eval (.Name y p2) X.env) :: starEach [] X.env := by rfl) (hpl : (backTo pos (starEach [.Name y p2] X.env)).any (·.1) = false := by rfl) :
    PE X (.Call (.Name "isinstance" p) [a, .Name y p2] [] pos) (tD X.K Wx (eIsi T f)) := by
  refine (pe_callB (x := "isinstance") call_isi hg hm (by decide +kernel) (pa_cons hf (pa_cons hT pa_nil he2) he) (by decide) (by decide) he hpl).imp fun σ H Q h => ?_
  refine tG_one h fun bs R ρ e H w v m r q => ?_
  split at q
  · rename_i x
    obtain ⟨z, hz, q⟩ := okO_ok q
    unfold isiD at hz
    cases ht : tyD x with
    | none => rw [ht] at hz; cases hz
    | some t =>
      rw [ht] at hz
      simp only at hz
      cases hk : kitB t T with
      | none => rw [hk] at hz; cases hz
      | some k =>
        rw [hk] at hz; cases hz
        exact ⟨v, .ty T, .type t, .type T, k, rfl, .ty T, tyD_ok ht r m.sub, kit_ty hk, q.fin m (Rep.bl k)⟩
  · exact q.elim
end
end Dl
end
section
set_option Elab.async false
set_option linter.all false
set_option maxRecDepth 100000
set_option maxHeartbeats 4000000
namespace Dl
open PySem L2

/-! displays -/
section
variable {X : Cx} {Wx : WX} {a c : Expr} {es : List Expr} {pos : Pos} {K : PySem.W.Frag}
def kDisp (keep : Option Nat) : List W → Ev := fun ws e => if ws.length ≤ sizeLine then
    (match toDs ws with
      | some ds => newL keep ds e
      | none => match keep with
        | some k => if (ws.all fun w => !isLoc k w) = true then newC k (.lw ws) e else .fail
        | none => .fail)
  else .fail
def kTup : List W → Ev := fun ws e => if ws.length ≤ sizeLine then
    (match toDs ws with
      | some ds => .ok (.d (.tup ds)) e
      | none => .fail)
  else .fail
theorem lw_setR {R : Hp} {e : Env} {ρ : Nat → Addr} {k : Nat} {p : Addr} : ∀ {ws : List W} {vs : List V}, Paired (RepW K R ρ) ws vs → (∀ w ∈ ws, isLoc k w = false) → Paired (RepW K R (setR ρ k p)) ws vs := fun h hn =>
  Paired.monoMem h fun w v hm r => by
    cases w with
    | d x => exact r
    | loc n =>
      show v = .ref (setR ρ k p n)
      rw [setR_ne (fun z => by have := hn _ hm; subst z; simp [isLoc] at this)]
      exact r
theorem d_list {keep : Option Nat} {fs : List Ev} (ha : PA X es (tDA X.K Wx (evA fs))) : PE X (.List es pos) (tD X.K Wx (eCB (kDisp keep) fs)) := (pe_lst ha).imp fun σ H Q h =>
  tG_one h fun bs R ρ e H ws vs m r q => by
    unfold kDisp at q
    split at q
    · rename_i hl
      refine ⟨by rw [← Paired.lengthEq r]; exact hl, fun p hp => ?_⟩
      split at q
      · rename_i ds hd
        exact newL_ok m q (toDs_rep hd r) hp
      · rename_i hd
        split at q
        · rename_i k
          split at q
          · rename_i hw
            exact newC_ok m q hp ⟨vs, upd_same, lw_setR (e := e) r fun w hm => by
              have := List.all_eq_true.mp hw w hm
              simpa using this⟩
          · exact q.elim
        · exact q.elim
    · exact q.elim
theorem d_tup {fs : List Ev} {x1} (ha : PA X es (tDA X.K Wx (evA fs))) : PE X (.Tuple es x1 pos) (tD X.K Wx (eCB kTup fs)) := (pe_tup ha).imp fun σ H Q h =>
  tG_one h fun bs R ρ e H ws vs m r q => by
    unfold kTup at q
    split at q
    · rename_i hl
      refine ⟨by rw [← Paired.lengthEq r]; exact hl, fun p hp => ?_⟩
      split at q
      · rename_i ds hd
        exact OkR.finD q m hp (.tup upd_same (RepL.mono (same_upd (m.freshR hp)) (toDs_rep hd r)))
      · exact q.elim
    · exact q.elim

/-! methods of built-in types -/
def MethD (K : PySem.W.Frag) (Wx : WX) (k : W → List W → Ev) (r : V → List V → Hp → VK → Prop) : Prop :=
  ∀ (b : Bs) (R : Hp) (ρ : Nat → Addr) (e : Env) (σ : St) (H : Hp) (w : W) (v : V) (ws : List W) (vs : List V) (Q : VK), Md K b R ρ e σ H → RepW K R ρ w v → Paired (RepW K R ρ) ws vs → OkR K Wx (lW K) b R ρ e σ Q (k w ws e) → r v vs H Q
def TyD (K : PySem.W.Frag) (ty : Env → W → Bool) (T : String) : Prop := ∀ (b : Bs) (R : Hp) (ρ : Nat → Addr) (e : Env) (σ : St) (H : Hp) (w : W) (v : V), Md K b R ρ e σ H → RepW K R ρ w v → ty e w = true → tyV K T v H
def isLst (e : Env) : W → Bool
  | .d (.lst _) => true
  | .d (.rd _) => true
  | .d _ => false
  | .loc n => match e.cell n with | some (.lst _) => true | some (.lw _) => true | _ => false
def isStr (e : Env) : W → Bool
  | .d (.str _) => true
  | _ => false
theorem isLst_ok : TyD K isLst "list" := fun b R ρ e σ H w v m r h => by
  unfold isLst at h
  split at h
  · have r : Rep K R _ v := r
    cases r with
    | lst h1 l1 => exact .inl ⟨rfl, _, SqL.of (m.sub _ _ h1)⟩
  · have r : Rep K R _ v := r
    cases r with
    | rd h1 l1 => exact .inl ⟨rfl, _, m.sub.seq h1⟩
  · cases h
  · rename_i n
    have e1 : v = .ref (ρ n) := r
    subst e1
    split at h
    · rename_i hc
      obtain ⟨vs, h1, _⟩ := m.cell n _ hc
      exact .inl ⟨rfl, _, SqL.of h1⟩
    · rename_i hc
      obtain ⟨vs, h1, _⟩ := m.cell n _ hc
      exact .inl ⟨rfl, _, SqL.of h1⟩
    · cases h
theorem isStr_ok : TyD K isStr "str" := fun b R ρ e σ H w v m r h => by
  unfold isStr at h
  split at h
  · have r : Rep K R _ v := r
    cases r
    rfl
  · cases h
def eM (ty : Env → W → Bool) (k : W → List W → Ev) (f : Ev) (fs : List Ev) : Ev := fun e => (f e).bind fun w e1 => if (ty e1 w && wl e1 w) = true then (evA fs e1).bind (k w) else .fail
theorem d_meth {ty : Env → W → Bool} {k : W → List W → Ev} {T id : String} {r : V → List V → Hp → VK → Prop} {name : Str} {apos cpos : Pos} {o x : Expr} {f : Ev} {fs : List Ev} (pa : PlainAttrs T) (slot : Slot T name id) (hty : typeOf (.builtin id) = pure (.type "method_descriptor")) (hm : MtR X id r)
    (ht : TyD X.K ty T) (hk : MethD X.K Wx k r) (ho : PE X o (tD X.K Wx f)) (ha : PA X (x :: es) (tDA X.K Wx (evA fs)))
    (hbase : attributeBase o name X.env (eval o X.env) = eval o X.env := by rfl)
    (hfew : ((backTo cpos (starEach (x :: es) X.env)).all (fun x => !x.1) && (backToKw cpos (keywordEach [] X.env)).all (fun x => x.1.isSome)
      && decide ((x :: es).length + ([] : List Keyword).length + (if ([] : List Keyword).isEmpty then 0 else 1) < 30)) = true := by rfl)
    (hline : (apos.endLine == cpos.line) = true := by rfl) (hs : starEach (x :: es) X.env = (false, eval x X.env) :: starEach es X.env := by rfl) (hplain : (backTo cpos (starEach es X.env)).any (·.1) = false := by rfl) :
    PE X (.Call (.Attribute o name apos) (x :: es) [] cpos) (tD X.K Wx (eM ty k f fs)) := (pe_bm pa slot hty hm ho ha hbase hfew hline hs hplain).imp fun σ H Q h =>
  tG_one h fun bs R ρ e H w v m r q => by
    split at q
    · rename_i h1
      rw [Bool.and_eq_true] at h1
      refine ⟨ht bs R ρ e σ H w v m r h1.1, bs, R, ρ, e, m, (OkR.bind (L := lA X.K) q).imp fun vs H2 h2 => ?_⟩
      obtain ⟨R2, ρ2, e2, ws, s2, l2, m2, r2, _, q3⟩ := h2
      exact hk bs R2 ρ2 e2 σ H2 w v ws vs Q m2 (r.later h1.2 s2 l2) r2 q3
    · exact q.elim
theorem d_meth0 {ty : Env → W → Bool} {k : W → List W → Ev} {T id : String} {r : V → List V → Hp → VK → Prop} {name : Str} {apos cpos : Pos} {o : Expr} {f : Ev} (pa : PlainAttrs T) (slot : Slot T name id) (hty : typeOf (.builtin id) = pure (.type "method_descriptor")) (hm : MtR X id r)
    (ht : TyD X.K ty T) (hk : MethD X.K Wx k r) (ho : PE X o (tD X.K Wx f))
    (hbase : attributeBase o name X.env (eval o X.env) = eval o X.env := by rfl) (hline : (apos.endLine == cpos.line) = true := by rfl) :
    PE X (.Call (.Attribute o name apos) [] [] cpos) (tD X.K Wx (eM ty k f [])) := (pe_bm0 pa slot hty hm ho hbase hline).imp fun σ H Q h =>
  tG_one h fun bs R ρ e H w v m r q => by
    split at q
    · rename_i h1
      rw [Bool.and_eq_true] at h1
      exact ⟨ht bs R ρ e σ H w v m r h1.1, hk bs R ρ e σ H w v [] [] Q m r .nil q⟩
    · exact q.elim

/-! list methods on own cells -/
section
variable {b : Bs} {R : Hp} {ρ : Nat → Addr} {e : Env} {σ : St} {H : Hp}
theorem wr_ok {n : Nat} {c c' : Cell} {o : HO} {z : D} {u : V} {Q : VK} (m : Md K b R ρ e σ H) (q : OkR K Wx (lW K) b R ρ e σ Q (.ok (.d z) (e.setC n (some c')))) (hc : e.cell n = some c) (hc' : CellAt K R ρ (upd H (ρ n) o) (ρ n) c') (r : Rep K R z u) : Q u (upd H (ρ n) o) :=
  q R ρ u _ (Same.refl R) (fun k c1 h => ⟨rfl, by
    rw [Env.cell_setC]
    by_cases z : n = k
    · subst z; rw [if_pos rfl, if_pos (Env.cell_lt hc)]; exact ⟨_, rfl⟩
    · rw [if_neg z]; exact ⟨c1, h⟩⟩) (m.write hc hc') r
theorem lst_lw {xs : List D} {vs : List V} (r : RepL K R xs vs) : Paired (RepW K R ρ) (xs.map W.d) vs := by
  induction xs generalizing vs with
  | nil => cases r; exact .nil
  | cons x xs ih => cases r with
    | cons a t => exact .cons a (ih t)
theorem Paired.app {α β : Type} {F : α → β → Prop} : ∀ {l l' : List α} {m m' : List β}, Paired F l m → Paired F l' m' → Paired F (l ++ l') (m ++ m')
  | _, _, _, _, .nil, h => h
  | _, _, _, _, .cons a t, h => .cons a (Paired.app t h)
theorem Paired.setAt {α β : Type} {F : α → β → Prop} : ∀ {l : List α} {m : List β} (i : Nat) {a : α} {c : β}, Paired F l m → F a c → Paired F (l.set i a) (m.set i c)
  | _, _, _, _, _, .nil, _ => .nil
  | _, _, 0, _, _, .cons _ t, h => .cons h t
  | _, _, i + 1, _, _, .cons a t, h => .cons a (Paired.setAt i t h)
theorem Paired.dropLastP {α β : Type} {F : α → β → Prop} {l : List α} {m : List β} (h : Paired F l m) : Paired F l.dropLast m.dropLast := by
  induction h with
  | nil => exact .nil
  | cons r t ih => cases t with
    | nil => exact .nil
    | cons q t' => exact .cons r ih
theorem RepL.dropLast {xs : List D} {vs : List V} (h : RepL K R xs vs) : RepL K R xs.dropLast vs.dropLast := by
  induction xs generalizing vs with
  | nil => cases h; exact .nil
  | cons x xs ih => cases h with
    | cons r t =>
      cases t with
      | nil => exact .nil
      | cons r2 t2 => exact .cons r (ih (.cons r2 t2))
end
def pushC (c : Cell) (w : W) : Option Cell := match c, w with
  | .lst xs, .d y => if xs.length < sizeLine then some (.lst (xs ++ [y])) else none
  | .lst xs, .loc m => if xs.length < sizeLine then some (.lw (xs.map W.d ++ [.loc m])) else none
  | .lw us, w => if us.length < sizeLine then some (.lw (us ++ [w])) else none
  | _, _ => none
theorem pushC_ok {R : Hp} {ρ : Nat → Addr} {H : Hp} {a : Addr} {c c' : Cell} {w : W} {v : V} (h : pushC c w = some c') (ca : CellAt K R ρ H a c) (r : RepW K R ρ w v) : ∃ vs, H a = some (.lst vs) ∧ vs.length < sizeLine ∧ CellAt K R ρ (upd H a (.lst (vs ++ [v]))) a c' := by
  cases c with
  | lst xs =>
    obtain ⟨vs, h1, l1⟩ := ca
    cases w with
    | d y =>
      have h : (if xs.length < sizeLine then some (Cell.lst (xs ++ [y])) else none) = some c' := h
      by_cases hl : xs.length < sizeLine
      · rw [if_pos hl] at h; cases h
        exact ⟨vs, h1, by rw [← l1.length]; exact hl, _, upd_same, l1.append (.cons r .nil)⟩
      · rw [if_neg hl] at h; cases h
    | loc m =>
      have h : (if xs.length < sizeLine then some (Cell.lw (xs.map W.d ++ [.loc m])) else none) = some c' := h
      by_cases hl : xs.length < sizeLine
      · rw [if_pos hl] at h; cases h
        exact ⟨vs, h1, by rw [← l1.length]; exact hl, _, upd_same, Paired.app (lst_lw l1) (.cons r .nil)⟩
      · rw [if_neg hl] at h; cases h
  | lw us =>
    obtain ⟨vs, h1, l1⟩ := ca
    have h : (if us.length < sizeLine then some (Cell.lw (us ++ [w])) else none) = some c' := by cases w <;> exact h
    by_cases hl : us.length < sizeLine
    · rw [if_pos hl] at h; cases h
      exact ⟨vs, h1, by rw [← Paired.lengthEq l1]; exact hl, _, upd_same, Paired.app l1 (.cons r .nil)⟩
    · rw [if_neg hl] at h; cases h
  | dic kvs => cases w <;> cases h
  | dct kvs => cases w <;> cases h
  | obj C fs => cases w <;> cases h
def kAppend (w : W) (ws : List W) : Ev := fun e => match w, ws with
  | .loc n, [y] => match e.cell n with
    | some c => match pushC c y with
      | some c' => .ok (.d .non) (e.setC n (some c'))
      | none => .fail
    | none => .fail
  | _, _ => .fail
theorem kAppend_ok : MethD K Wx kAppend rAppend := fun b R ρ e σ H w v ws vs Q m r rs q => by
  unfold kAppend at q
  split at q
  · rename_i n y
    have e1 : v = .ref (ρ n) := r
    subst e1
    obtain ⟨u, e2, ru⟩ := pair1 rs
    subst e2
    cases hc : e.cell n with
    | none => simp only [hc] at q; exact q.elim
    | some c =>
      simp only [hc] at q
      cases hp : pushC c y with
      | none => simp only [hp] at q; exact q.elim
      | some c' =>
        simp only [hp] at q
        obtain ⟨us, h1, h2, h3⟩ := pushC_ok hp (m.cell n c hc) ru
        exact ⟨_, us, u, rfl, rfl, h1, h2, wr_ok m q hc h3 .non⟩
  · exact q.elim
def kPop (w : W) (ws : List W) : Ev := fun e => match w, ws with
  | .loc n, [] => match e.cell n with
    | some (.lst xs) => match xs[xs.length - 1]? with
      | some y => .ok (.d y) (e.setC n (some (.lst xs.dropLast)))
      | none => .fail
    | some (.lw xs) => match xs[xs.length - 1]? with
      | some (.d y) => .ok (.d y) (e.setC n (some (.lw xs.dropLast)))
      | _ => .fail
    | _ => .fail
  | _, _ => .fail
theorem kPop_ok : MethD K Wx kPop rPop := fun b R ρ e σ H w v ws vs Q m r rs q => by
  unfold kPop at q
  split at q
  · rename_i n
    have e1 : v = .ref (ρ n) := r
    subst e1
    cases rs
    split at q
    · rename_i xs hc
      obtain ⟨us, h1, l1⟩ := m.cell n _ hc
      split at q
      · rename_i y hy
        obtain ⟨u, hu, ru⟩ := l1.get hy
        exact ⟨_, us, u, rfl, rfl, h1, by rw [← l1.length]; exact hu, wr_ok (c' := .lst xs.dropLast) m q hc ⟨_, upd_same, l1.dropLast⟩ ru⟩
      · exact q.elim
    · rename_i xs hc
      obtain ⟨us, h1, l1⟩ := m.cell n _ hc
      split at q
      · rename_i y hy
        obtain ⟨u, hu, ru⟩ := Paired.get2 l1 hy
        exact ⟨_, us, u, rfl, rfl, h1, by rw [← Paired.lengthEq l1]; exact hu, wr_ok (c' := .lw xs.dropLast) m q hc ⟨_, upd_same, Paired.dropLastP l1⟩ ru⟩
      · exact q.elim
    · exact q.elim
  · exact q.elim
def kExtend (w : W) (ws : List W) : Ev := fun e => match w, ws with
  | .loc n, [.d (.lst ys)] => match e.cell n with
    | some (.lst xs) => if xs.length + ys.length ≤ sizeLine then .ok (.d .non) (e.setC n (some (.lst (xs ++ ys)))) else .fail
    | _ => .fail
  | _, _ => .fail
theorem kExtend_ok : MethD K Wx kExtend rExtend := fun b R ρ e σ H w v ws vs Q m r rs q => by
  unfold kExtend at q
  split at q
  · rename_i n ys
    have e1 : v = .ref (ρ n) := r
    subst e1
    obtain ⟨u, e2, ru⟩ := pair1 rs
    subst e2
    have ru : Rep K R (.lst ys) u := ru
    cases ru with
    | lst h3 l3 =>
      split at q
      · rename_i xs hc
        obtain ⟨us, h1, l1⟩ := m.cell n _ hc
        split at q
        · rename_i hl
          exact ⟨_, _, us, _, rfl, rfl, h1, m.sub _ _ h3, by rw [← l1.length, ← l3.length]; exact hl, wr_ok (c' := .lst (xs ++ ys)) m q hc ⟨_, upd_same, l1.append l3⟩ .non⟩
        · exact q.elim
      · exact q.elim
  · exact q.elim

/-! attributes -/
def fldO (C : Addr) (f : Str) (w : W) (e : Env) : Option W := match w with
  | .d (.obj C' fs) => if C' = C then (match fs.lookup f with | some d => some (.d d) | none => none) else none
  | .loc n => match e.cell n with
    | some (.obj C' fs) => if C' = C then fs.lookup f else none
    | _ => none
  | _ => none
def eFld (C : Addr) (f : Str) (g : Ev) : Ev := fun e => (g e).bind fun w e1 => okW (fldO C f w e1) e1
theorem lookup_rep {α β : Type} {F : α → β → Prop} (f : Str) : ∀ {fs : List (Str × α)} {ws : List (Str × β)} {a : α}, ws.map (·.1) = fs.map (·.1) → Paired F (fs.map (·.2)) (ws.map (·.2)) → fs.lookup f = some a → ∃ c, ws.lookup f = some c ∧ F a c
  | [], _, _, _, _, h => by simp at h
  | (g, x) :: fs, [], _, h1, _, _ => by simp at h1
  | (g, x) :: fs, (g', y) :: ws, a, h1, h2, h => by
    rw [List.map_cons, List.map_cons] at h1
    injection h1 with e1 e2
    have e1 : g' = g := e1
    subst e1
    cases h2 with
    | cons r t =>
      by_cases hq : f = g'
      · subst hq
        simp only [List.lookup, beq_self_eq_true] at h ⊢
        cases h
        exact ⟨y, rfl, r⟩
      · have hb : (f == g') = false := beq_eq_false_iff_ne.mpr hq
        simp only [List.lookup, hb] at h ⊢
        exact lookup_rep f e2 t h
theorem RepL.paired {R : Hp} : ∀ {ds : List D} {vs : List V}, RepL K R ds vs → Paired (Rep K R) ds vs
  | _, _, .nil => .nil
  | _, _, .cons a t => .cons a t.paired
theorem d_fld {C : Addr} {f : Str} {g : Ev} (cl : Cls X.K C) (na : NoAttr X.K C f) (he : PE X a (tD X.K Wx g)) (hb : attributeBase a f X.env (eval a X.env) = eval a X.env := by rfl) : PE X (.Attribute a f pos) (tD X.K Wx (eFld C f g)) := (pe_fld he hb).imp fun σ H Q h =>
  tG_one h fun bs R ρ e H w v m r q => by
    obtain ⟨w', hw, q2⟩ := okW_ok q
    clear q
    unfold fldO at hw
    split at hw
    · rename_i C' fs
      split at hw
      · rename_i hC
        subst hC
        have r : Rep X.K R (.obj C' fs) v := r
        cases r with
        | obj h1 h2 l1 =>
          cases hl : fs.lookup f with
          | none => rw [hl] at hw; cases hw
          | some d =>
            rw [hl] at hw; cases hw
            obtain ⟨u, hu, ru⟩ := lookup_rep f h2 l1.paired hl
            exact ⟨_, C', _, _, u, rfl, m.sub _ _ h1, cl, na, hu, q2.fin (L := lW X.K) (a := .d d) m ru⟩
      · cases hw
    · rename_i n
      have e1 : v = .ref (ρ n) := r
      subst e1
      split at hw
      · rename_i C' fs hc
        split at hw
        · rename_i hC
          subst hC
          obtain ⟨dx, ws, h1, h2, l1⟩ := m.cell n _ hc
          obtain ⟨u, hu, ru⟩ := lookup_rep f h2 l1 hw
          exact ⟨_, C', _, _, u, rfl, h1, cl, na, hu, q2.fin m ru⟩
        · cases hw
      · cases hw
    · cases hw
end
end Dl
end
section
set_option Elab.async false
set_option linter.all false
set_option maxRecDepth 100000
set_option maxHeartbeats 4000000
namespace Dl
open PySem L2

/-! statements -/
inductive SR where
  | nx (e : Env)
  | rt (w : W) (e : Env)
  | bk (e : Env)
  | ct (e : Env)
  | exn (x : Xn) (e : Env)
  | fail
abbrev Sv := Env → SR
def Rs.to {α : Type} (r : Rs α) (k : α → Env → SR) : SR := match r with
  | .ok a e => k a e
  | .exn x e => .exn x e
  | .fail => .fail

section
variable {K : PySem.W.Frag} {Wx : WX} {b : Bs} {R : Hp} {ρ : Nat → Addr} {e : Env} {σ : St} {H : Hp} {α β : Type}
def OkS (K : PySem.W.Frag) (Wx : WX) (b : Bs) (R : Hp) (D : Ends) : SR → Prop
  | .nx e' => ∀ R' ρ' σ' H', Same R R' → Md K b R' ρ' e' σ' H' → D.nx σ' H'
  | .rt w e' => ∀ R' ρ' σ' H' v, Same R R' → Md K b R' ρ' e' σ' H' → RepW K R' ρ' w v → D.rt v H'
  | .bk e' => ∀ R' ρ' σ' H', Same R R' → Md K b R' ρ' e' σ' H' → D.bk σ' H'
  | .ct e' => ∀ R' ρ' σ' H', Same R R' → Md K b R' ρ' e' σ' H' → D.ct σ' H'
  | .exn x e' => ∀ R' ρ' σ' H' cls d, Same R R' → Md K b R' ρ' e' σ' H' → ExR K R' x cls d → Wx cls d σ' H'
  | .fail => False
def tS (K : PySem.W.Frag) (Wx : WX) (f : Sv) : TS := fun D σ H => ∃ b R ρ e, Md K b R ρ e σ H ∧ OkS K Wx b R D (f e)
theorem OkS.rebase {R1 : Hp} {D : Ends} {r : SR} (s : Same R R1) (h : OkS K Wx b R D r) : OkS K Wx b R1 D r := by
  cases r with
  | nx e' => exact fun R' ρ' σ' H' s' m => h R' ρ' σ' H' (s.trans s') m
  | rt w e' => exact fun R' ρ' σ' H' v s' m r => h R' ρ' σ' H' v (s.trans s') m r
  | bk e' => exact fun R' ρ' σ' H' s' m => h R' ρ' σ' H' (s.trans s') m
  | ct e' => exact fun R' ρ' σ' H' s' m => h R' ρ' σ' H' (s.trans s') m
  | exn x e' => exact fun R' ρ' σ' H' cls d s' m r => h R' ρ' σ' H' cls d (s.trans s') m r
  | fail => exact h
/-- an expression, then what becomes of its value -/
theorem OkS.to {L : Rl α β} {D : Ends} {r : Rs α} {k : α → Env → SR} (h : OkS K Wx b R D (r.to k)) :
    OkR K Wx L b R ρ e σ (fun v H1 => ∃ R1 ρ1 e1 a, Same R R1 ∧ Live e e1 ρ ρ1 ∧ Md K b R1 ρ1 e1 σ H1 ∧ L R1 ρ1 a v ∧ OkS K Wx b R1 D (k a e1)) r := by
  cases r with
  | ok a e' => exact fun R' ρ' v H' s l m rp => ⟨R', ρ', e', a, s, l, m, rp, OkS.rebase s h⟩
  | exn x e' => exact h
  | fail => exact h
theorem tS_one {L : Rl α β} {f : Env → Rs α} {k : α → Env → SR} {D : Ends} {Z : β → Hp → Prop} (h : tS K Wx (fun e => (f e).to k) D σ H)
    (z : ∀ b R ρ e H a v, Md K b R ρ e σ H → L R ρ a v → OkS K Wx b R D (k a e) → Z v H) : tG K Wx L f σ H Z := by
  obtain ⟨b, R, ρ, e, m, h⟩ := h
  refine ⟨b, R, ρ, e, m, (OkS.to (L := L) h).imp fun v H1 h1 => ?_⟩
  obtain ⟨R1, ρ1, e1, a, s1, l1, m1, r1, q⟩ := h1
  exact z b R1 ρ1 e1 H1 a v m1 r1 q
/-- one statement after the other -/
def SR.seq (r : SR) (k : Sv) : SR := match r with
  | .nx e => k e
  | r => r
def sSeq (f g : Sv) : Sv := fun e => (f e).seq g
def sNil : Sv := fun e => .nx e
theorem OkS.seq {D : Ends} {r : SR} {g : Sv} (h : OkS K Wx b R D (r.seq g)) : OkS K Wx b R { D with nx := tS K Wx g D } r := by
  cases r with
  | nx e' => exact fun R' ρ' σ' H' s m => ⟨b, R', ρ', e', m, OkS.rebase s h⟩
  | rt w e' => exact h
  | bk e' => exact h
  | ct e' => exact h
  | exn x e' => exact h
  | fail => exact h
theorem OkS.imp {D D' : Ends} {r : SR} (h : OkS K Wx b R D r) (h1 : ∀ σ H, D.nx σ H → D'.nx σ H) (h2 : ∀ v H, D.rt v H → D'.rt v H) (h3 : ∀ σ H, D.bk σ H → D'.bk σ H) (h4 : ∀ σ H, D.ct σ H → D'.ct σ H) : OkS K Wx b R D' r := by
  cases r with
  | nx e' => exact fun R' ρ' σ' H' s' m => h1 _ _ (h R' ρ' σ' H' s' m)
  | rt w e' => exact fun R' ρ' σ' H' v s' m r => h2 _ _ (h R' ρ' σ' H' v s' m r)
  | bk e' => exact fun R' ρ' σ' H' s' m => h3 _ _ (h R' ρ' σ' H' s' m)
  | ct e' => exact fun R' ρ' σ' H' s' m => h4 _ _ (h R' ρ' σ' H' s' m)
  | exn x e' => exact h
  | fail => exact h
end

section
variable {X : Cx} {Wx : WX} {a c : Expr} {st : Stmt} {sts sts' : List Stmt} {pos : Pos} {K : PySem.W.Frag}
theorem s_nil : PSs X [] (tS X.K Wx sNil) := pss_nil.imp fun D σ H ⟨b, R, ρ, e, m, q⟩ => q R ρ σ H (Same.refl R) m
theorem s_cons {f g : Sv} (h1 : PS X st (tS X.K Wx f)) (h2 : PSs X sts (tS X.K Wx g)) : PSs X (st :: sts) (tS X.K Wx (sSeq f g)) := (pss_cons h1 h2).imp fun D σ H ⟨b, R, ρ, e, m, q⟩ => ⟨b, R, ρ, e, m, OkS.seq q⟩
theorem s_one {f : Sv} (h1 : PS X st (tS X.K Wx f)) : PSs X [st] (tS X.K Wx f) := pss_one h1
/-- a ghost step ahead: a cell is frozen -/
def sFrz (k : Nat) (f : Sv) : Sv := fun e => match frz k e with | some e' => f e' | none => .fail
theorem s_frz {k : Nat} {f : Sv} (h : PS X st (tS X.K Wx f)) : PS X st (tS X.K Wx (sFrz k f)) := h.imp fun D σ H ⟨b, R, ρ, e, m, q⟩ => by
  unfold sFrz at q
  cases hf : frz k e with
  | none => simp only [hf] at q; exact q.elim
  | some e' =>
    simp only [hf] at q
    obtain ⟨R', s, m'⟩ := m.frz hf
    exact ⟨b, R', ρ, e', m', OkS.rebase s q⟩
/-- slots forgotten -/
def clrL (ws : List (Option W)) : List Nat → List (Option W)
  | [] => ws
  | v :: vs => (clrL ws vs).set v none
def Env.clr (e : Env) (vs : List Nat) : Env := { e with ws := clrL e.ws vs }
theorem clrL_length (ws : List (Option W)) : ∀ vs : List Nat, (clrL ws vs).length = ws.length
  | [] => rfl
  | v :: vs => by unfold clrL; rw [List.length_set, clrL_length ws vs]
theorem clrL_some {ws : List (Option W)} {i : Nat} {w : W} : ∀ {vs : List Nat}, ((clrL ws vs)[i]?).join = some w → (ws[i]?).join = some w ∧ i ∉ vs
  | [], h => ⟨h, by simp⟩
  | v :: vs, h => by
    unfold clrL at h
    rw [List.getElem?_set] at h
    by_cases hi : v = i
    · subst hi
      rw [if_pos rfl] at h
      split at h <;> cases h
    · rw [if_neg hi] at h
      obtain ⟨h1, h2⟩ := clrL_some h
      exact ⟨h1, by simp only [List.mem_cons, not_or]; exact ⟨fun z => hi z.symm, h2⟩⟩
theorem clr_slot {e : Env} {vs : List Nat} {i : Nat} {w : W} (h : (e.clr vs).slot i = some w) : e.slot i = some w ∧ i ∉ vs := clrL_some h
theorem Md.clr {b : Bs} {R : Hp} {ρ : Nat → Addr} {e : Env} {σ : St} {H : Hp} (m : Md K b R ρ e σ H) (vs : List Nat) : Md K b R ρ (e.clr vs) σ H := m.less (fun i w h => (clr_slot h).1) (fun n c h => h) rfl (clrL_length _ _)

def sExpr (f : Ev) : Sv := fun e => (f e).to fun _ e' => .nx e'
theorem s_expr {f : Ev} (he : PE X a (tD X.K Wx f)) (hs : swapsWith a none pos.line X.env = pure false := by rfl) : PS X (.Expr a pos) (tS X.K Wx (sExpr f)) := (ps_expr he hs).imp fun D σ H h =>
  tS_one h fun b R ρ e H w v m r q => q R ρ σ H (Same.refl R) m
theorem s_doc {x j pos pos'} : PS X (.Expr (.Constant (.str x) j pos) pos') (tS X.K Wx sNil) := ps_doc.imp fun D σ H ⟨b, R, ρ, e, m, q⟩ => q R ρ σ H (Same.refl R) m
theorem s_pass : PS X (.Pass pos) (tS X.K Wx sNil) := ps_pass.imp fun D σ H ⟨b, R, ρ, e, m, q⟩ => q R ρ σ H (Same.refl R) m
theorem s_break : PS X (.Break pos) (tS X.K Wx fun e => .bk e) := ps_break.imp fun D σ H ⟨b, R, ρ, e, m, q⟩ => q R ρ σ H (Same.refl R) m
theorem s_continue : PS X (.Continue pos) (tS X.K Wx fun e => .ct e) := ps_continue.imp fun D σ H ⟨b, R, ρ, e, m, q⟩ => q R ρ σ H (Same.refl R) m
def sRet (f : Ev) : Sv := fun e => (f e).to fun w e' => .rt w e'
theorem s_ret {f : Ev} (he : PE X a (tD X.K Wx f)) : PS X (.Return (some a) pos) (tS X.K Wx (sRet f)) := (ps_ret he).imp fun D σ H h =>
  tS_one h fun b R ρ e H w v m r q => q R ρ σ H v (Same.refl R) m r
theorem s_retN : PS X (.Return none pos) (tS X.K Wx fun e => .rt (.d .non) e) := ps_retN.imp fun D σ H ⟨b, R, ρ, e, m, q⟩ => q R ρ σ H .non (Same.refl R) m .non
def sIf (t : Env → Rs Bool) (f g : Sv) : Sv := fun e => (t e).to fun k e1 => if k = true then f e1 else g e1
theorem s_if {t : Env → Rs Bool} {f g : Sv} (hc : PT X a (tDT X.K Wx t)) (ha : PSs X sts (tS X.K Wx f)) (hb : PSs X sts' (tS X.K Wx g)) : PS X (.If a sts sts' pos) (tS X.K Wx (sIf t f g)) := (ps_if hc ha hb).imp fun D σ H h =>
  tS_one h fun b R ρ e H k v m r q => by
    have e1 : k = v := r
    subst e1
    cases k with
    | true => exact ⟨b, R, ρ, e, m, q⟩
    | false => exact ⟨b, R, ρ, e, m, q⟩
/-- code that is never come to -/
theorem s_never : PS X st (tS X.K Wx fun _ => .fail) := ps_never.imp fun D σ H ⟨b, R, ρ, e, m, q⟩ => q.elim
theorem ss_never : PSs X sts (tS X.K Wx fun _ => .fail) := pss_never.imp fun D σ H ⟨b, R, ρ, e, m, q⟩ => q.elim
/-- name = value -/
def sSet (i : Nat) (f : Ev) : Sv := fun e => (f e).to fun w e' => .nx (e'.setS i (some w))
theorem s_set0 {i : Nat} {x : Str} {pos' : Pos} {f : Ev} (h : PS X (.Assign [.Name x pos'] a pos) (tAsg (tD X.K Wx f) (gName i))) : PS X (.Assign [.Name x pos'] a pos) (tS X.K Wx (sSet i f)) := h.imp fun D σ H h =>
  tS_one h fun b R ρ e H w v m r q => q R ρ _ H (Same.refl R) (m.setS r)
theorem s_set {i : Nat} {x : Str} {pos' : Pos} {f : Ev} (hN : X.N.Nodup) (hi : X.N[i]? = some x) (hx : Loc X.env.scope x) (he : PE X a (tD X.K Wx f)) (hs : swapsWith a (some (.Name x pos')) pos.line X.env = pure false := by rfl) (hf : X.fn x = true ∨ X.env.scope.names.lookup x = some .local := by first | exact .inl rfl | exact .inr rfl | assumption) :
    PS X (.Assign [.Name x pos'] a pos) (tS X.K Wx (sSet i f)) := s_set0 (ps_set hN hi hx he hs hf)

/-! targets of frozen data -/
abbrev Tg := D → Env → Option Env
def TgD (K : PySem.W.Frag) (g : Tg) (vs : List Nat) (t : TG) : Prop :=
  (∀ d e e', g d e = some e' → e'.M = e.M) ∧ ∀ (b : Bs) (R : Hp) (ρ : Nat → Addr) (e e' : Env) (d : D) (v : V) (σ : St) (H : Hp) (Q : St → Hp → Prop), Md K b R ρ e σ H → Rep K R d v → g d e = some e' →
    (∀ σ', Md K b R ρ e' σ' H → (∀ j, j ∉ vs → σ'[j]? = σ[j]?) → σ'.length = σ.length → Q σ' H) → t v σ H Q
def tgName (i : Nat) : Tg := fun d e => some (e.setS i (some (.d d)))
theorem tgName_ok (i : Nat) : TgD K (tgName i) [i] (gName i) := ⟨fun d e e' h => (by cases h; rfl), fun b R ρ e e' d v σ H Q m r h q => by
  cases h
  refine q _ (m.setS (w := .d d) r) (fun j hj => ?_) (List.length_set)
  rw [List.getElem?_set_ne (fun z => hj (by rw [z]; exact List.mem_singleton.mpr rfl))]⟩
/-- several -/
def tgL : List Tg → List D → Env → Option Env
  | [], [], e => some e
  | g :: gs, d :: ds, e => match g d e with | some e1 => tgL gs ds e1 | none => none
  | _, _, _ => none
def TgsD (K : PySem.W.Frag) (gs : List Tg) (vs : List Nat) (t : TGs) : Prop :=
  (∀ ds e e', tgL gs ds e = some e' → e'.M = e.M) ∧ ∀ (b : Bs) (R : Hp) (ρ : Nat → Addr) (e e' : Env) (ds : List D) (us : List V) (σ : St) (H : Hp) (Q : St → Hp → Prop), Md K b R ρ e σ H → RepL K R ds us → tgL gs ds e = some e' →
    (∀ σ', Md K b R ρ e' σ' H → (∀ j, j ∉ vs → σ'[j]? = σ[j]?) → σ'.length = σ.length → Q σ' H) → t us σ H Q
theorem tgs_nil : TgsD K [] [] gNil := ⟨fun ds e e' h => (by
  cases ds with
  | nil => cases h; rfl
  | cons d ds => cases h), fun b R ρ e e' ds us σ H Q m r h q => by
  cases r with
  | nil => cases h; exact ⟨rfl, q σ m (fun _ _ => rfl) rfl⟩
  | cons a t => cases h⟩
theorem tgs_cons {g : Tg} {gs : List Tg} {vs vs' : List Nat} {t : TG} {u : TGs} (h1 : TgD K g vs t) (h2 : TgsD K gs vs' u) : TgsD K (g :: gs) (vs ++ vs') (gCons t u) := ⟨fun ds e e' h => (by
  cases ds with
  | nil => cases h
  | cons d ds =>
    unfold tgL at h
    cases hg : g d e with
    | none => rw [hg] at h; cases h
    | some e1 => rw [hg] at h; exact (h2.1 ds e1 e' h).trans (h1.1 d e e1 hg)), fun b R ρ e e' ds us σ H Q m r h q => by
  cases r with
  | nil => cases h
  | cons a tl =>
    rename_i d v ds us
    unfold tgL at h
    cases hg : g d e with
    | none => rw [hg] at h; cases h
    | some e1 =>
      rw [hg] at h
      refine ⟨_, _, rfl, h1.2 b R ρ e e1 d v σ H _ m a hg fun σ1 m1 k1 l1 => ?_⟩
      refine h2.2 b R ρ e1 e' ds us σ1 H Q m1 tl h fun σ2 m2 k2 l2 => q σ2 m2 (fun j hj => ?_) (l2.trans l1)
      rw [k2 j fun z => hj (List.mem_append_right _ z), k1 j fun z => hj (List.mem_append_left _ z)]⟩
def tgTup (gs : List Tg) : Tg := fun d e => match d with | .tup ds => tgL gs ds e | _ => none
theorem tgTup_ok {gs : List Tg} {vs : List Nat} {u : TGs} {n : Nat} (hn : gs.length = n) (h2 : TgsD K gs vs u) : TgD K (tgTup gs) vs (gTup K n u) := ⟨fun d e e' h => (by
  cases d with
  | tup ds => exact h2.1 ds e e' h
  | _ => cases h), fun b R ρ e e' d v σ H Q m r h q => by
  cases r with
  | tup h1 l1 =>
    rename_i ds p us
    have h : tgL gs ds e = some e' := h
    refine ⟨p, us, rfl, (SqT.of (m.sub _ _ h1)), ?_, h2.2 b R ρ e e' ds us σ H Q m l1 h q⟩
    have hl : ∀ (gs : List Tg) (ds : List D) (e e' : Env), tgL gs ds e = some e' → ds.length = gs.length := by
      intro gs
      induction gs with
      | nil => intro ds e e' h; cases ds with
        | nil => rfl
        | cons d ds => cases h
      | cons g gs ih => intro ds e e' h; cases ds with
        | nil => cases h
        | cons d ds =>
          unfold tgL at h
          cases hg : g d e with
          | none => rw [hg] at h; cases h
          | some e1 => rw [hg] at h; rw [List.length_cons, List.length_cons, ih ds e1 e' h]
    rw [← l1.length, hl gs ds e e' h, hn]
  | _ => cases h⟩
/-- target = value, the value frozen data -/
def sAsg (g : Tg) (f : Ev) : Sv := fun e => (f e).to fun w e1 => match w with | .d d => (match g d e1 with | some e2 => .nx e2 | none => .fail) | _ => .fail
theorem s_asg {tg : Expr} {f : Ev} {g : Tg} {vs : List Nat} {t : TG} (he : PE X a (tD X.K Wx f)) (hg : PG X tg t) (hd : TgD X.K g vs t) (hs : swapsWithSole [tg] a pos.line X.env = pure false := by rfl) (hw : swappedStores [tg] a X.env = pure none := by rfl)
    (h1 : (assignEach [tg] X.env).map (·.2) = [assign tg X.env] := by rfl) : PS X (.Assign [tg] a pos) (tS X.K Wx (sAsg g f)) := (ps_asg he hg hs hw h1).imp fun D σ H h =>
  tS_one h fun b R ρ e H w v m r q => by
    split at q
    · rename_i d
      split at q
      · rename_i e2 h2
        exact hd.2 b R ρ e e2 d v σ H _ m r h2 fun σ' m' _ _ => q R ρ σ' H (Same.refl R) m'
      · exact q.elim
    · exact q.elim

/-! stores at o[i] -/
def setC (c : Cell) (i : Int) (w : W) : Option Cell := match c, w with
  | .lst xs, .d y => match ixN xs.length i with | some j => some (.lst (xs.set j y)) | none => none
  | .lw us, w => match ixN us.length i with | some j => some (.lw (us.set j w)) | none => none
  | _, _ => none
theorem setC_ok {R : Hp} {ρ : Nat → Addr} {H : Hp} {p : Addr} {c c' : Cell} {i : Int} {w : W} {v : V} (h : setC c i w = some c') (ca : CellAt K R ρ H p c) (r : RepW K R ρ w v) : ∃ vs j, H p = some (.lst vs) ∧ ixN vs.length i = some j ∧ CellAt K R ρ (upd H p (.lst (vs.set j v))) p c' := by
  cases c with
  | lst xs =>
    obtain ⟨vs, h1, l1⟩ := ca
    cases w with
    | d y =>
      have h : (match ixN xs.length i with | some j => some (Cell.lst (xs.set j y)) | none => none) = some c' := h
      cases hj : ixN xs.length i with
      | none => rw [hj] at h; cases h
      | some j =>
        rw [hj] at h; cases h
        exact ⟨vs, j, h1, by rw [← l1.length]; exact hj, _, upd_same, l1.set j r⟩
    | loc m => cases h
  | lw us =>
    obtain ⟨vs, h1, l1⟩ := ca
    have h : (match ixN us.length i with | some j => some (Cell.lw (us.set j w)) | none => none) = some c' := by cases w <;> exact h
    cases hj : ixN us.length i with
    | none => rw [hj] at h; cases h
    | some j =>
      rw [hj] at h; cases h
      exact ⟨vs, j, h1, by rw [← Paired.lengthEq l1]; exact hj, _, upd_same, Paired.setAt j l1 r⟩
  | dic kvs => cases w <;> cases h
  | dct kvs => cases w <;> cases h
  | obj C fs => cases w <;> cases h
def kSetI (w o i : W) : Sv := fun e => match o, i with
  | .loc n, .d (.int k) => match e.cell n with
    | some c => match setC c k w with
      | some c' => .nx (e.setC n (some c'))
      | none => .fail
    | none => .fail
  | _, _ => .fail
def sSetI (fo fi fv : Ev) : Sv := fun e => (fv e).to fun w e1 => if wl e1 w = true then (fo e1).to fun o e2 => if (wl e2 w && wl e2 o) = true then (fi e2).to fun i e3 => kSetI w o i e3 else .fail else .fail
theorem s_setI {o i : Expr} {fo fi fv : Ev} {p' : Pos} (hv : PE X a (tD X.K Wx fv)) (ho : PE X o (tD X.K Wx fo)) (hi : PE X i (tD X.K Wx fi))
    (ha : ∀ v, assign (.Subscript o i p') X.env v = (do
      let ov ← holding [v] (eval o X.env)
      let iv ← holding [v, ov] (eval i X.env)
      standAt p'
      holding [v, ov, iv] (setItem ov iv v)
      release [v, ov, iv] []) := by intro _; rfl)
    (hs : swapsWithSole [.Subscript o i p'] a pos.line X.env = pure false := by rfl) (hw : swappedStores [.Subscript o i p'] a X.env = pure none := by rfl)
    (h1 : (assignEach [.Subscript o i p'] X.env).map (·.2) = [assign (.Subscript o i p') X.env] := by rfl) : PS X (.Assign [.Subscript o i p'] a pos) (tS X.K Wx (sSetI fo fi fv)) := (ps_asg hv (pg_sub ho hi set_list ha) hs hw h1).imp fun D σ H h =>
  tS_one h fun b R ρ e H w v m r q => by
    split at q
    · rename_i hl
      refine ⟨b, R, ρ, e, m, (OkS.to (L := lW X.K) q).imp fun ov H2 h2 => ?_⟩
      obtain ⟨R2, ρ2, e2, wo, s2, l2, m2, r2, q2⟩ := h2
      split at q2
      · rename_i hl2
        rw [Bool.and_eq_true] at hl2
        refine ⟨b, R2, ρ2, e2, m2, (OkS.to (L := lW X.K) q2).imp fun iv H3 h3 => ?_⟩
        obtain ⟨R3, ρ3, e3, wi, s3, l3, m3, r3, q3⟩ := h3
        have rv := (r.later hl s2 l2).later hl2.1 s3 l3
        have ro := r2.later hl2.2 s3 l3
        unfold kSetI at q3
        split at q3
        · rename_i n k
          have e1 : ov = .ref (ρ3 n) := ro
          subst e1
          have r3 : Rep X.K R3 (.int k) iv := r3
          cases r3
          cases hc : e3.cell n with
          | none => simp only [hc] at q3; exact q3.elim
          | some c =>
            simp only [hc] at q3
            cases hp : setC c k w with
            | none => simp only [hp] at q3; exact q3.elim
            | some c' =>
              simp only [hp] at q3
              obtain ⟨vs, j, g1, g2, g3⟩ := setC_ok hp (m3.cell n c hc) rv
              exact ⟨_, vs, k, j, rfl, rfl, g1, g2, q3 R3 ρ3 σ _ (Same.refl R3) (m3.write hc g3)⟩
        · exact q3.elim
      · exact q2.elim
    · exact q.elim

/-! stores at o.f -/
def putW (f : Str) (w : W) : List (Str × W) → List (Str × W)
  | [] => [(f, w)]
  | (g, x) :: r => if g = f then (g, w) :: r else (g, x) :: putW f w r
theorem putW_rep {F : W → V → Prop} (f : Str) {w : W} {v : V} (r : F w v) : ∀ {fs : List (Str × W)} {ws : List (Str × V)}, ws.map (·.1) = fs.map (·.1) → Paired F (fs.map (·.2)) (ws.map (·.2)) →
    (putF f v ws).map (·.1) = (putW f w fs).map (·.1) ∧ Paired F ((putW f w fs).map (·.2)) ((putF f v ws).map (·.2))
  | [], [], _, _ => ⟨rfl, .cons r .nil⟩
  | [], _ :: _, h, _ => by simp at h
  | _ :: _, [], h, _ => by simp at h
  | (g, x) :: fs, (g', y) :: ws, h1, h2 => by
    rw [List.map_cons, List.map_cons] at h1
    injection h1 with e1 e2
    have e1 : g' = g := e1
    subst e1
    cases h2 with
    | cons a t =>
      by_cases hq : g' = f
      · subst hq
        rw [show putF g' v ((g', y) :: ws) = (g', v) :: ws from if_pos rfl, show putW g' w ((g', x) :: fs) = (g', w) :: fs from if_pos rfl]
        exact ⟨by rw [List.map_cons, List.map_cons, e2], .cons r t⟩
      · rw [show putF f v ((g', y) :: ws) = (g', y) :: putF f v ws from if_neg hq, show putW f w ((g', x) :: fs) = (g', x) :: putW f w fs from if_neg hq]
        obtain ⟨h3, h4⟩ := putW_rep f r e2 t
        exact ⟨by rw [List.map_cons, List.map_cons, h3], .cons a h4⟩
def kSetF (C : Addr) (f : Str) (w o : W) : Sv := fun e => match o with
  | .loc n => match e.cell n with
    | some (.obj C' fs) => if C' = C ∧ fs.length < 1000 then .nx (e.setC n (some (.obj C' (putW f w fs)))) else .fail
    | _ => .fail
  | _ => .fail
def sSetF (C : Addr) (f : Str) (fo fv : Ev) : Sv := fun e => (fv e).to fun w e1 => if wl e1 w = true then (fo e1).to fun o e2 => kSetF C f w o e2 else .fail
theorem s_setF {C : Addr} {f : Str} {o : Expr} {fo fv : Ev} {p' : Pos} (cl : Cls X.K C) (na : NoAttr X.K C f) (ho : PE X o (tD X.K Wx fo)) (hv : PE X a (tD X.K Wx fv)) (hs : swapsWith a (some (.Attribute o f p')) pos.line X.env = pure false := by rfl) :
    PS X (.Assign [.Attribute o f p'] a pos) (tS X.K Wx (sSetF C f fo fv)) := (ps_fld ho hv hs).imp fun D σ H h =>
  tS_one h fun b R ρ e H w v m r q => by
    split at q
    · rename_i hl
      refine ⟨b, R, ρ, e, m, (OkS.to (L := lW X.K) q).imp fun ov H2 h2 => ?_⟩
      obtain ⟨R2, ρ2, e2, wo, s2, l2, m2, r2, q2⟩ := h2
      have rv := r.later hl s2 l2
      unfold kSetF at q2
      split at q2
      · rename_i n
        have e1 : ov = .ref (ρ2 n) := r2
        subst e1
        split at q2
        · rename_i C' fs hc
          split at q2
          · rename_i hC
            obtain ⟨hC, hlen⟩ := hC
            subst hC
            obtain ⟨dx, ws, g1, g2, g3⟩ := m2.cell n _ hc
            have e3 := congrArg List.length g2
            rw [List.length_map, List.length_map] at e3
            obtain ⟨p1, p2⟩ := putW_rep f rv g2 g3
            exact ⟨_, C', dx, ws, rfl, g1, cl, na, by rw [e3]; exact hlen, q2 R2 ρ2 σ _ (Same.refl R2) (m2.write (c' := .obj C' (putW f w fs)) hc ⟨dx, _, upd_same, p1, p2⟩)⟩
          · exact q2.elim
        · exact q2.elim
      · exact q2.elim
    · exact q.elim

/-! x op= e at a name, plain data -/
def sAug (i : Nat) (g : D → D → Option D) (f : Ev) : Sv := fun e => match e.slot i with
  | some (.d x) => (f e).to fun w e1 => match w with
    | .d y => match g x y with
      | some z => .nx (e1.setS i (some (.d z)))
      | none => .fail
    | _ => .fail
  | _ => .fail
theorem s_aug {i : Nat} {x : Str} {f : Ev} {op : Operator} {r : R2} {g : D → D → Option D} {pos' : Pos} (hN : X.N.Nodup) (hi : X.N[i]? = some x) (hx : Loc X.env.scope x) (he : PE X a (tD X.K Wx f)) (ho : OpR X (inplaceOp op) r) (hd : OpD X.K g r) (hf : X.fn x = true ∨ X.env.scope.names.lookup x = some .local := by first | exact .inl rfl | exact .inr rfl | assumption) :
    PS X (.AugAssign (.Name x pos') op a pos) (tS X.K Wx (sAug i g f)) := (ps_aug (ti := r) hN hi hx he ho hf).imp fun D σ H ⟨b, R, ρ, e, m, q⟩ => by
  unfold sAug at q
  split at q
  · rename_i x hs
    obtain ⟨v, h1, h2⟩ := m.slot i _ hs
    refine ⟨v, h1, b, R, ρ, e, m, (OkS.to (L := lW X.K) q).imp fun u H2 h3 => ?_⟩
    obtain ⟨R2, ρ2, e2, w, s2, l2, m2, r2, q2⟩ := h3
    split at q2
    · rename_i y
      split at q2
      · rename_i z hz
        refine hd x y z v u R2 H2 _ hz (Rep.mono s2 h2) r2 m2.sub (fun u' ru => q2 R2 ρ2 _ H2 (Same.refl R2) (m2.setS (w := .d z) ru)) fun p o hp rp => ?_
        exact q2 _ ρ2 _ _ (same_upd (m2.freshR hp)) ((m2.freshD hp o).setS (w := .d z) rp)
      · exact q2.elim
    · exact q2.elim
  · exact q.elim
end
end Dl
end
section
set_option Elab.async false
set_option linter.all false
set_option maxRecDepth 100000
set_option maxHeartbeats 4000000
namespace Dl
open PySem L2

/-! what a for walks -/
structure Itr where
  items : List D
  chk : Env → Prop
def ItOk (K : PySem.W.Frag) (R : Hp) (ρ : Nat → Addr) (a : Itr) (J : It) : Prop :=
  ∀ (b : Bs) (R' : Hp) (ρ' : Nat → Addr) (e : Env) (σ : St) (H : Hp), Same R R' → (∀ n, n < e.np → ρ' n = ρ n) → Md K b R' ρ' e σ H → a.chk e →
    (∀ i, i < a.items.length → J.go i H ∧ ∀ x H', J.yld i H x H' → ∃ R'' d, a.items[i]? = some d ∧ Same R' R'' ∧ Md K b R'' ρ' e σ H' ∧ Rep K R'' d x) ∧ J.stop a.items.length H
abbrev lI (K : PySem.W.Frag) : Rl Itr It := fun R ρ a J => ItOk K R ρ a J
abbrev tDI (K : PySem.W.Frag) (Wx : WX) (f : Env → Rs Itr) : TI := tG K Wx (lI K) f

section
variable {K : PySem.W.Frag} {R : Hp} {ρ : Nat → Addr}
theorem ItOk.list {xs : List D} {vs : List V} {p : Addr} (hs : SqL K R p vs) (l : RepL K R xs vs) : ItOk K R ρ ⟨xs, fun _ => True⟩ (Itl K p) := fun b R' ρ' e σ H s _ m _ => by
  have w := walk_list (K := K) (a := p) (xs := vs)
  have hq : SqL K H p vs := m.sub.seq (s.seq hs)
  have hl := l.length
  refine ⟨fun i hi => ⟨w.goes i H (by rw [← hl]; exact hi) hq, fun x H' y => ?_⟩, by
    show (Itl K p).stop xs.length H
    rw [hl]; exact w.stops H hq⟩
  obtain ⟨e1, hx⟩ := w.yields i H x H' (by rw [← hl]; exact hi) hq y
  subst e1
  obtain ⟨d, hd, r⟩ := (RepL.mono s l).get2 hx
  exact ⟨R', d, hd, Same.refl _, m, r⟩
theorem ItOk.tup {xs : List D} {vs : List V} {p : Addr} (hs : SqT K R p vs) (l : RepL K R xs vs) : ItOk K R ρ ⟨xs, fun _ => True⟩ (Itt K p) := fun b R' ρ' e σ H s _ m _ => by
  have w := walk_tup (K := K) (a := p) (xs := vs)
  have hq : SqT K H p vs := sameT m.sub (sameT s hs)
  have hl := l.length
  refine ⟨fun i hi => ⟨w.goes i H (by rw [← hl]; exact hi) hq, fun x H' y => ?_⟩, by
    show (Itt K p).stop xs.length H
    rw [hl]; exact w.stops H hq⟩
  obtain ⟨e1, hx⟩ := w.yields i H x H' (by rw [← hl]; exact hi) hq y
  subst e1
  obtain ⟨d, hd, r⟩ := (RepL.mono s l).get2 hx
  exact ⟨R', d, hd, Same.refl _, m, r⟩
/-- an own list of the caller's: it must stand as it stood -/
theorem ItOk.own {xs : List D} {n : Nat} : ItOk K R ρ ⟨xs, fun e => e.cell n = some (.lst xs) ∧ n < e.np⟩ (Itl K (ρ n)) := fun b R' ρ' e σ H s hr m hc => by
  obtain ⟨hc, hn⟩ := hc
  obtain ⟨vs, h1, l⟩ := m.cell n _ hc
  rw [hr n hn] at h1
  have w := walk_list (K := K) (a := ρ n) (xs := vs)
  have hq : SqL K H (ρ n) vs := SqL.of h1
  have hl := l.length
  refine ⟨fun i hi => ⟨w.goes i H (by rw [← hl]; exact hi) hq, fun x H' y => ?_⟩, by
    show (Itl K (ρ n)).stop xs.length H
    rw [hl]; exact w.stops H hq⟩
  obtain ⟨e1, hx⟩ := w.yields i H x H' (by rw [← hl]; exact hi) hq y
  subst e1
  obtain ⟨d, hd, r⟩ := l.get2 hx
  exact ⟨R', d, hd, Same.refl _, m, r⟩
def rangeL (lo : Int) (n : Nat) : List D := (List.range n).map fun i => D.int (lo + (i : Nat))
theorem rangeL_get {lo : Int} {n i : Nat} (h : i < n) : (rangeL lo n)[i]? = some (.int (lo + (i : Nat))) := by
  unfold rangeL
  rw [List.getElem?_map, List.getElem?_range h]
  rfl
theorem rangeL_len (lo : Int) (n : Nat) : (rangeL lo n).length = n := by unfold rangeL; rw [List.length_map, List.length_range]
theorem ItOk.range {lo : Int} {n : Nat} : ItOk K R ρ ⟨rangeL lo n, fun _ => True⟩ (L2.Itr lo n) := fun b R' ρ' e σ H s hr m hc => by
  refine ⟨fun i hi => ?_, by show n ≤ (rangeL lo n).length; rw [rangeL_len]; exact Nat.le_refl _⟩
  have hi' : i < n := by
    have : i < (rangeL lo n).length := hi
    rw [rangeL_len] at this; exact this
  refine ⟨hi', fun x H' y => ?_⟩
  obtain ⟨e1, e2⟩ := y
  subst e1; subst e2
  exact ⟨R', _, rangeL_get hi', Same.refl _, m, .int _⟩
/-- enumerate, zip: new pairs -/
theorem pair_new {b : Bs} {e : Env} {σ : St} {H H' : Hp} {R' : Hp} {ρ' : Nat → Addr} {v x y : V} {d d' : D} {T : Addr} (m : Md K b R' ρ' e σ H) (hT : H T = none) (e1 : v = .ref T) (e2 : H' = upd H T (.tup [x, y])) (rx : Rep K R' d x) (ry : Rep K R' d' y) :
    ∃ R'', Same R' R'' ∧ Md K b R'' ρ' e σ H' ∧ Rep K R'' (.tup [d, d']) v := by
  subst e1; subst e2
  have fr := m.freshR hT
  exact ⟨_, same_upd fr, m.freshD hT _, .tup upd_same (.cons (Rep.mono (same_upd fr) rx) (.cons (Rep.mono (same_upd fr) ry) .nil))⟩
def enumL (xs : List D) : List D := xs.mapIdx fun i d => .tup [.int (i : Nat), d]
theorem enumL_len (xs : List D) : (enumL xs).length = xs.length := by unfold enumL; rw [List.length_mapIdx]
theorem ItOk.enum {xs : List D} {vs : List V} {p : Addr} (hs : SqL K R p vs) (l : RepL K R xs vs) : ItOk K R ρ ⟨enumL xs, fun _ => True⟩ (Ite K p) := fun b R' ρ' e σ H s _ m _ => by
  have w := walk_enum (K := K) (a := p) (xs := vs)
  have hq : SqL K H p vs := m.sub.seq (s.seq hs)
  have hl := l.length
  refine ⟨fun i hi => ?_, by
    show (Ite K p).stop (enumL xs).length H
    rw [enumL_len, hl]; exact w.stops H hq⟩
  have hi' : i < xs.length := by
    have : i < (enumL xs).length := hi
    rw [enumL_len] at this; exact this
  refine ⟨w.goes i H (by rw [← hl]; exact hi') hq, fun x H' y => ?_⟩
  obtain ⟨T, x1, y1, e1, hT, e2, hx, hy⟩ := w.yields i H x H' (by rw [← hl]; exact hi') hq y
  obtain ⟨d, hd, r⟩ := (RepL.mono s l).get2 hy
  have e3 : V.int (i : Nat) = x1 := Option.some.inj hx
  subst e3
  obtain ⟨R'', s2, m2, r2⟩ := pair_new m hT e1 e2 (.int _) r
  refine ⟨R'', _, ?_, s2, m2, r2⟩
  show (enumL xs)[i]? = _
  unfold enumL
  rw [List.getElem?_mapIdx, hd]
  rfl
theorem ItOk.enumOwn {xs : List D} {n : Nat} : ItOk K R ρ ⟨enumL xs, fun e => e.cell n = some (.lst xs) ∧ n < e.np⟩ (Ite K (ρ n)) := fun b R' ρ' e σ H s hr m hc => by
  obtain ⟨hc, hn⟩ := hc
  obtain ⟨vs, h1, l⟩ := m.cell n _ hc
  rw [hr n hn] at h1
  have w := walk_enum (K := K) (a := ρ n) (xs := vs)
  have hq : SqL K H (ρ n) vs := SqL.of h1
  have hl := l.length
  refine ⟨fun i hi => ?_, by
    show (Ite K (ρ n)).stop (enumL xs).length H
    rw [enumL_len, hl]; exact w.stops H hq⟩
  have hi' : i < xs.length := by
    have : i < (enumL xs).length := hi
    rw [enumL_len] at this; exact this
  refine ⟨w.goes i H (by rw [← hl]; exact hi') hq, fun x H' y => ?_⟩
  obtain ⟨T, x1, y1, e1, hT, e2, hx, hy⟩ := w.yields i H x H' (by rw [← hl]; exact hi') hq y
  obtain ⟨d, hd, r⟩ := l.get2 hy
  have e3 : V.int (i : Nat) = x1 := Option.some.inj hx
  subst e3
  obtain ⟨R'', s2, m2, r2⟩ := pair_new m hT e1 e2 (.int _) r
  refine ⟨R'', _, ?_, s2, m2, r2⟩
  show (enumL xs)[i]? = _
  unfold enumL
  rw [List.getElem?_mapIdx, hd]
  rfl
def zipL (xs ys : List D) : List D := List.zipWith (fun a c => D.tup [a, c]) xs ys
theorem zipL_len (xs ys : List D) : (zipL xs ys).length = min xs.length ys.length := by unfold zipL; rw [List.length_zipWith]
theorem ItOk.zip {xs ys : List D} {vs us : List V} {p p' : Addr} (hs : SqL K R p vs) (l : RepL K R xs vs) (hs' : SqL K R p' us) (l' : RepL K R ys us) : ItOk K R ρ ⟨zipL xs ys, fun _ => True⟩ (Itz K p p') := fun b R' ρ' e σ H s _ m _ => by
  have w := walk_zip (K := K) (a := p) (b := p') (xs := vs) (ys := us) (n := min xs.length ys.length) (by rw [l.length, l'.length])
  have hq : SqL K H p vs ∧ SqL K H p' us := ⟨m.sub.seq (s.seq hs), m.sub.seq (s.seq hs')⟩
  refine ⟨fun i hi => ?_, by
    show (Itz K p p').stop (zipL xs ys).length H
    rw [zipL_len]; exact w.stops H hq⟩
  have hi' : i < min xs.length ys.length := by
    have : i < (zipL xs ys).length := hi
    rw [zipL_len] at this; exact this
  refine ⟨w.goes i H hi' hq, fun x H' y => ?_⟩
  obtain ⟨T, x1, y1, e1, hT, e2, hx, hy⟩ := w.yields i H x H' hi' hq y
  obtain ⟨d, hd, r⟩ := (RepL.mono s l).get2 hx
  obtain ⟨d', hd', r'⟩ := (RepL.mono s l').get2 hy
  obtain ⟨R'', s2, m2, r2⟩ := pair_new m hT e1 e2 r r'
  refine ⟨R'', _, ?_, s2, m2, r2⟩
  show (zipL xs ys)[i]? = _
  unfold zipL
  rw [List.getElem?_zipWith, hd, hd']
theorem ItOk.rev {xs : List D} {vs : List V} {p : Addr} (hs : SqL K R p vs) (l : RepL K R xs vs) : ItOk K R ρ ⟨xs.reverse, fun _ => True⟩ (Itv K p vs.length) := fun b R' ρ' e σ H s _ m _ => by
  have w := walk_rev (K := K) (a := p) (xs := vs)
  have hq : SqL K H p vs := m.sub.seq (s.seq hs)
  have hl := l.length
  refine ⟨fun i hi => ?_, by
    show (Itv K p vs.length).stop xs.reverse.length H
    rw [List.length_reverse, hl]; exact w.stops H hq⟩
  have hi' : i < xs.length := by
    have : i < xs.reverse.length := hi
    rw [List.length_reverse] at this; exact this
  refine ⟨w.goes i H (by rw [← hl]; exact hi') hq, fun x H' y => ?_⟩
  obtain ⟨e1, hx⟩ := w.yields i H x H' (by rw [← hl]; exact hi') hq y
  subst e1
  obtain ⟨d, hd, r⟩ := (RepL.mono s l).get2 hx
  refine ⟨R', d, ?_, Same.refl _, m, r⟩
  show xs.reverse[i]? = some d
  rw [List.getElem?_reverse hi', hl]
  exact hd
def strL (z : Str) : List D := z.cps.toList.map fun c => .str ⟨#[c]⟩
theorem ItOk.str {z : Str} : ItOk K R ρ ⟨strL z, fun _ => True⟩ (Its z) := fun b R' ρ' e σ H s hr m hc => by
  have hl : (strL z).length = z.cps.size := by unfold strL; rw [List.length_map, Array.length_toList]
  refine ⟨fun i hi => ?_, by show z.cps.size ≤ (strL z).length; rw [hl]; exact Nat.le_refl _⟩
  have hi' : i < z.cps.size := by
    have : i < (strL z).length := hi
    rw [hl] at this; exact this
  refine ⟨hi', fun x H' y => ?_⟩
  obtain ⟨e1, c, hc, e2⟩ := y
  subst e1; subst e2
  refine ⟨R', _, ?_, Same.refl _, m, .str _⟩
  show (strL z)[i]? = _
  unfold strL
  rw [List.getElem?_map, Array.getElem?_toList, hc]
  rfl
end

section
variable {X : Cx} {Wx : WX} {a c tg : Expr} {es : List Expr} {pos : Pos}
def kItL (w : W) : Env → Rs Itr := fun e => match w with
  | .d (.lst xs) => .ok ⟨xs, fun _ => True⟩ e
  | .d (.rd xs) => .ok ⟨xs, fun _ => True⟩ e
  | .loc n => match e.cell n with
    | some (.lst xs) => .ok ⟨xs, fun e' => e'.cell n = some (.lst xs) ∧ n < e'.np⟩ e
    | _ => .fail
  | _ => .fail
def iL (f : Ev) : Env → Rs Itr := fun e => (f e).bind kItL
theorem i_list {f : Ev} (h : PE X a (tD X.K Wx f)) : PI X tg a (tDI X.K Wx (iL f)) := (pi_list h).imp fun σ H Q q =>
  tG_one q fun bs R ρ e H w v m r q2 => by
    unfold kItL at q2
    split at q2
    · have r : Rep X.K R _ v := r
      cases r with
      | lst h1 l1 => exact ⟨_, rfl, ⟨_, SqL.of (m.sub _ _ h1)⟩, q2.fin m (ItOk.list (SqL.of h1) l1)⟩
    · have r : Rep X.K R _ v := r
      cases r with
      | rd h1 l1 => exact ⟨_, rfl, ⟨_, m.sub.seq h1⟩, q2.fin m (ItOk.list h1 l1)⟩
    · rename_i n
      have e1 : v = .ref (ρ n) := r
      subst e1
      split at q2
      · rename_i xs hc
        obtain ⟨vs, h1, l⟩ := m.cell n _ hc
        exact ⟨_, rfl, ⟨vs, SqL.of h1⟩, q2.fin m ItOk.own⟩
      · exact q2.elim
    · exact q2.elim
def kItT (w : W) : Env → Rs Itr := fun e => match w with
  | .d (.tup xs) => .ok ⟨xs, fun _ => True⟩ e
  | _ => .fail
def iT (f : Ev) : Env → Rs Itr := fun e => (f e).bind kItT
theorem i_tup {f : Ev} (h : PE X a (tD X.K Wx f)) : PI X tg a (tDI X.K Wx (iT f)) := (pi_tup h).imp fun σ H Q q =>
  tG_one q fun bs R ρ e H w v m r q2 => by
    unfold kItT at q2
    split at q2
    · have r : Rep X.K R _ v := r
      cases r with
      | tup h1 l1 => exact ⟨_, rfl, ⟨_, (SqT.of (m.sub _ _ h1))⟩, q2.fin m (ItOk.tup (SqT.of h1) l1)⟩
    · exact q2.elim
def kItS (w : W) : Env → Rs Itr := fun e => match w with
  | .d (.str z) => .ok ⟨strL z, fun _ => True⟩ e
  | _ => .fail
def iS (f : Ev) : Env → Rs Itr := fun e => (f e).bind kItS
theorem i_str {f : Ev} (h : PE X a (tD X.K Wx f)) : PI X tg a (tDI X.K Wx (iS f)) := (pi_str h).imp fun σ H Q q =>
  tG_one q fun bs R ρ e H w v m r q2 => by
    unfold kItS at q2
    split at q2
    · have r : Rep X.K R _ v := r
      cases r with
      | str z => exact ⟨_, rfl, q2.fin m ItOk.str⟩
    · exact q2.elim
def kRng1 (ws : List W) : Env → Rs Itr := fun e => match ws with
  | [.d (.int j)] => if -(2 ^ 62) ≤ j ∧ j < 2 ^ 62 then .ok ⟨rangeL 0 j.toNat, fun _ => True⟩ e else .fail
  | _ => .fail
def iRg1 (f : Ev) : Env → Rs Itr := fun e => (evA [f] e).bind kRng1
theorem i_range1 {f : Ev} {p : Pos} (hg : Gl X "range") (hm : X.mg "range" = none) (ha : PA X [a] (tDA X.K Wx (evA [f]))) (hs : starEach [a] X.env = [(false, eval a X.env)] := by rfl) : PI X tg (.Call (.Name "range" p) [a] [] pos) (tDI X.K Wx (iRg1 f)) := (pi_range1 hg hm ha hs).imp fun σ H Q q =>
  tG_one q fun bs R ρ e H ws vs m r q2 => by
    unfold kRng1 at q2
    split at q2
    · rename_i j
      obtain ⟨v, e1, rv⟩ := pair1 r
      subst e1
      have rv : Rep X.K R (.int j) v := rv
      cases rv
      split at q2
      · rename_i hj
        exact ⟨j, rfl, hj.1, hj.2, q2.fin m ItOk.range⟩
      · exact q2.elim
    · exact q2.elim
def kRng2 (ws : List W) : Env → Rs Itr := fun e => match ws with
  | [.d (.int i), .d (.int j)] => if -(2 ^ 62) ≤ i ∧ i < 2 ^ 62 ∧ -(2 ^ 62) ≤ j ∧ j < 2 ^ 62 then .ok ⟨rangeL i (j - i).toNat, fun _ => True⟩ e else .fail
  | _ => .fail
def iRg2 (f g : Ev) : Env → Rs Itr := fun e => (evA [f, g] e).bind kRng2
theorem i_range2 {f g : Ev} {p : Pos} (hg : Gl X "range") (hm : X.mg "range" = none) (ha : PA X [a, c] (tDA X.K Wx (evA [f, g]))) (hs : starEach [a, c] X.env = [(false, eval a X.env), (false, eval c X.env)] := by rfl) (hs2 : starEach [c] X.env = [(false, eval c X.env)] := by rfl) : PI X tg (.Call (.Name "range" p) [a, c] [] pos) (tDI X.K Wx (iRg2 f g)) := (pi_range2 hg hm ha hs hs2).imp fun σ H Q q =>
  tG_one q fun bs R ρ e H ws vs m r q2 => by
    unfold kRng2 at q2
    split at q2
    · rename_i i j
      obtain ⟨v, u, e1, rv, ru⟩ := pair2 r
      subst e1
      have rv : Rep X.K R (.int i) v := rv
      have ru : Rep X.K R (.int j) u := ru
      cases rv
      cases ru
      split at q2
      · rename_i hj
        exact ⟨i, j, rfl, hj, q2.fin m ItOk.range⟩
      · exact q2.elim
    · exact q2.elim
def kEnum (ws : List W) : Env → Rs Itr := fun e => match ws with
  | [.d (.lst xs)] => .ok ⟨enumL xs, fun _ => True⟩ e
  | [.d (.rd xs)] => .ok ⟨enumL xs, fun _ => True⟩ e
  | [.loc n] => match e.cell n with
    | some (.lst xs) => .ok ⟨enumL xs, fun e' => e'.cell n = some (.lst xs) ∧ n < e'.np⟩ e
    | _ => .fail
  | _ => .fail
def iEnu (f : Ev) : Env → Rs Itr := fun e => (evA [f] e).bind kEnum
theorem i_enum {f : Ev} {p tpos : Pos} {elts : List Expr} {kk : Nat} (hg : Gl X "enumerate") (hm : X.mg "enumerate" = none) (ha : PA X [a] (tDA X.K Wx (evA [f]))) (hs : starEach [a] X.env = [(false, eval a X.env)] := by rfl) : PI X (.Tuple elts kk tpos) (.Call (.Name "enumerate" p) [a] [] pos) (tDI X.K Wx (iEnu f)) := (pi_enum hg hm ha hs).imp fun σ H Q q =>
  tG_one q fun bs R ρ e H ws vs m r q2 => by
    unfold kEnum at q2
    split at q2
    · obtain ⟨v, e1, rv⟩ := pair1 r
      subst e1
      have rv : Rep X.K R _ v := rv
      cases rv with
      | lst h1 l1 => exact ⟨_, _, rfl, SqL.of (m.sub _ _ h1), q2.fin m (ItOk.enum (SqL.of h1) l1)⟩
    · obtain ⟨v, e1, rv⟩ := pair1 r
      subst e1
      have rv : Rep X.K R _ v := rv
      cases rv with
      | rd h1 l1 => exact ⟨_, _, rfl, m.sub.seq h1, q2.fin m (ItOk.enum h1 l1)⟩
    · rename_i n
      obtain ⟨v, e1, rv⟩ := pair1 r
      subst e1
      have e1 : v = .ref (ρ n) := rv
      subst e1
      split at q2
      · rename_i xs hc
        obtain ⟨vs, h1, l⟩ := m.cell n _ hc
        exact ⟨_, vs, rfl, SqL.of h1, q2.fin m ItOk.enumOwn⟩
      · exact q2.elim
    · exact q2.elim
def kZip (ws : List W) : Env → Rs Itr := fun e => match ws with
  | [.d (.lst xs), .d (.lst ys)] => .ok ⟨zipL xs ys, fun _ => True⟩ e
  | _ => .fail
def iZp (f g : Ev) : Env → Rs Itr := fun e => (evA [f, g] e).bind kZip
theorem i_zip {f g : Ev} {t : TI} (h : PI X tg a t) (ht : t = iZip X.K (tDA X.K Wx (evA [f, g]))) : PI X tg a (tDI X.K Wx (iZp f g)) := by
  subst ht
  exact h.imp fun σ H Q q =>
    tG_one q fun bs R ρ e H ws vs m r q2 => by
      unfold kZip at q2
      split at q2
      · obtain ⟨v, u, e1, rv, ru⟩ := pair2 r
        subst e1
        have rv : Rep X.K R _ v := rv
        have ru : Rep X.K R _ u := ru
        cases rv with
        | lst h1 l1 =>
          cases ru with
          | lst h2 l2 => exact ⟨_, _, _, _, rfl, SqL.of (m.sub _ _ h1), SqL.of (m.sub _ _ h2), q2.fin m (ItOk.zip (SqL.of h1) l1 (SqL.of h2) l2)⟩
      · exact q2.elim
def kRev (ws : List W) : Env → Rs Itr := fun e => match ws with
  | [.d (.lst xs)] => .ok ⟨xs.reverse, fun _ => True⟩ e
  | [.d (.rd xs)] => .ok ⟨xs.reverse, fun _ => True⟩ e
  | _ => .fail
def iRv (f : Ev) : Env → Rs Itr := fun e => (evA [f] e).bind kRev
theorem i_rev {f : Ev} {p : Pos} (hg : Gl X "reversed") (hm : X.mg "reversed" = none) (ha : PA X [a] (tDA X.K Wx (evA [f]))) (hs : starEach [a] X.env = [(false, eval a X.env)] := by rfl) : PI X tg (.Call (.Name "reversed" p) [a] [] pos) (tDI X.K Wx (iRv f)) := (pi_reversed hg hm ha hs).imp fun σ H Q q =>
  tG_one q fun bs R ρ e H ws vs m r q2 => by
    unfold kRev at q2
    split at q2
    · obtain ⟨v, e1, rv⟩ := pair1 r
      subst e1
      have rv : Rep X.K R _ v := rv
      cases rv with
      | lst h1 l1 => exact ⟨_, _, rfl, SqL.of (m.sub _ _ h1), q2.fin m (ItOk.rev (SqL.of h1) l1)⟩
    · obtain ⟨v, e1, rv⟩ := pair1 r
      subst e1
      have rv : Rep X.K R _ v := rv
      cases rv with
      | rd h1 l1 => exact ⟨_, _, rfl, m.sub.seq h1, q2.fin m (ItOk.rev h1 l1)⟩
    · exact q2.elim

/-! for -/
open Classical in
noncomputable def forD (g : Tg) (chk : Env → Prop) (body : Sv) (fg : List Nat) : List D → Sv
  | [], e => if chk e then .nx e else .fail
  | d :: ds, e => if chk e then
      (match g d e with
        | none => .fail
        | some e1 => match body e1 with
          | .nx e2 => forD g chk body fg ds (e2.clr fg)
          | .ct e2 => forD g chk body fg ds (e2.clr fg)
          | .bk e2 => .nx e2
          | r => r)
    else .fail
noncomputable def sFor (it : Env → Rs Itr) (g : Tg) (fg : List Nat) (body : Sv) : Sv := fun e => (it e).to fun a e1 => forD g a.chk body fg a.items e1
theorem s_for {it : Expr} {body : List Stmt} {f : Env → Rs Itr} {g : Tg} {fg : List Nat} {vs : List Nat} {t : TG} {fb : Sv} (hp : PassesOwn (model X.prog X.w) X.A X.env X.xe) (hc : X.calm = true) (hi : PI X tg it (tDI X.K Wx f)) (hg : PG X tg t) (hd : TgD X.K g vs t) (hb : PSs X body (tS X.K Wx fb))
    (hs : ∀ x, foldedSetIterable it X.env x = pure x := by intro _; rfl) : PS X (.For tg it body [] pos) (tS X.K Wx (sFor f g fg fb)) := (ps_for hp hc hi hg hb hs).imp fun D σ H h => by
  refine tS_one h fun b R1 ρ1 e1 H1 a J m1 it1 q1 => ?_
  refine ⟨fun i m σ H => m = a.items.length - i ∧ i ≤ a.items.length ∧ ∃ R' ρ' e', Same R1 R' ∧ Md X.K b R' ρ' e' σ H ∧ OkS X.K Wx b R' D (forD g a.chk fb fg (a.items.drop i) e'), ⟨a.items.length, rfl, Nat.zero_le _, R1, ρ1, e1, Same.refl _, m1, q1⟩, ?_⟩
  rintro i m σ' H' ⟨rfl, hi, R', ρ', e', s', m', q'⟩
  have hnp : ∀ n, n < e'.np → ρ' n = ρ1 n := fun n h2 => by
    have h3 := m'.par n h2
    have h4 := m1.par n (by rw [← m1.npl, m'.npl]; exact h2)
    rw [h4] at h3
    exact (Option.some.inj h3).symm
  by_cases hlt : i < a.items.length
  · have hdrop : a.items.drop i = a.items[i] :: a.items.drop (i + 1) := List.drop_eq_getElem_cons hlt
    rw [hdrop] at q'
    unfold forD at q'
    by_cases hchk : a.chk e'
    · rw [if_pos hchk] at q'
      have io := it1 b R' ρ' e' σ' H' s' hnp m' hchk
      · obtain ⟨go, yl⟩ := io.1 i hlt
        refine .inr ⟨go, fun σ2 H2 => ∃ m2, m2 < a.items.length - i ∧ (m2 = a.items.length - (i + 1) ∧ i + 1 ≤ a.items.length ∧ ∃ R2 ρ2 e2, Same R1 R2 ∧ Md X.K b R2 ρ2 e2 σ2 H2 ∧ OkS X.K Wx b R2 D (forD g a.chk fb fg (a.items.drop (i + 1)) e2)), fun σ2 H2 n2 => n2, fun x H2 y => ?_⟩
        obtain ⟨R'', d, hd1, s2, m2, r2⟩ := yl x H2 y
        have ed : a.items[i] = d := by
          rw [List.getElem?_eq_getElem hlt] at hd1
          exact Option.some.inj hd1
        rw [ed] at q'
        cases hge : g d e' with
        | none => simp only [hge] at q'; exact q'.elim
        | some e2 =>
          simp only [hge] at q'
          refine hd.2 b R'' ρ' e' e2 d x σ' H2 _ m2 r2 hge fun σ3 m3 _ _ => ⟨b, R'', ρ', e2, m3, ?_⟩
          have q2 := OkS.rebase s2 q'
          cases hbe : fb e2 with
          | nx e3 =>
            simp only [hbe] at q2
            exact fun R4 ρ4 σ4 H4 s4 m4 => ⟨_, by omega, rfl, by omega, R4, ρ4, e3.clr fg, s'.trans (s2.trans s4), m4.clr fg, OkS.rebase s4 q2⟩
          | ct e3 =>
            simp only [hbe] at q2
            exact fun R4 ρ4 σ4 H4 s4 m4 => ⟨_, by omega, rfl, by omega, R4, ρ4, e3.clr fg, s'.trans (s2.trans s4), m4.clr fg, OkS.rebase s4 q2⟩
          | bk e3 => simp only [hbe] at q2; exact q2
          | rt w e3 => simp only [hbe] at q2; exact q2
          | exn x e3 => simp only [hbe] at q2; exact q2
          | fail => simp only [hbe] at q2; exact q2
    · rw [if_neg hchk] at q'; exact q'.elim
  · have e0 : i = a.items.length := by omega
    subst e0
    rw [List.drop_length] at q'
    unfold forD at q'
    by_cases hchk : a.chk e'
    · rw [if_pos hchk] at q'
      have io := it1 b R' ρ' e' σ' H' s' hnp m' hchk
      · exact .inl ⟨io.2, q' R' ρ' σ' H' (Same.refl _) m'⟩
    · rw [if_neg hchk] at q'; exact q'.elim
end
end Dl
end
section
set_option Elab.async false
set_option linter.all false
set_option maxRecDepth 100000
set_option maxHeartbeats 4000000
namespace Dl
open PySem L2

section
variable {X : Cx} {Wx : WX} {a c tg : Expr} {es : List Expr} {pos : Pos}
/-! while -/
def whD (t : Env → Rs Bool) (body : Sv) (fg : List Nat) : Nat → Sv
  | 0, _ => .fail
  | n + 1, e => (t e).to fun k e1 => if k = true then
      (match body e1 with
        | .nx e2 => whD t body fg n (e2.clr fg)
        | .ct e2 => whD t body fg n (e2.clr fg)
        | .bk e2 => .nx e2
        | r => r)
    else .nx e1
def sWhile (fuel : Env → Nat) (t : Env → Rs Bool) (fg : List Nat) (body : Sv) : Sv := fun e => whD t body fg (fuel e) e
theorem s_while {fuel : Env → Nat} {t : Env → Rs Bool} {fg : List Nat} {fb : Sv} {body : List Stmt} (hp : PassesOwn (model X.prog X.w) X.A X.env X.xe) (hc : PT X a (tDT X.K Wx t)) (hb : PSs X body (tS X.K Wx fb)) : PS X (.While a body [] pos) (tS X.K Wx (sWhile fuel t fg fb)) := (ps_while hp hc hb).imp fun D σ H h => by
  obtain ⟨b, R, ρ, e, m, q⟩ := h
  refine ⟨fun n σ H => ∃ R' ρ' e', Same R R' ∧ Md X.K b R' ρ' e' σ H ∧ OkS X.K Wx b R' D (whD t fb fg n e'), ⟨fuel e, R, ρ, e, Same.refl _, m, q⟩, ?_⟩
  rintro n σ' H' ⟨R', ρ', e', s', m', q'⟩
  cases n with
  | zero => exact q'.elim
  | succ n =>
    unfold whD at q'
    refine ⟨b, R', ρ', e', m', (OkS.to (L := lB) q').imp fun k H2 h2 => ?_⟩
    obtain ⟨R2, ρ2, e2, k', s2, l2, m2, r2, q2⟩ := h2
    have e0 : k' = k := r2
    subst e0
    cases k' with
    | false => exact q2 R2 ρ2 σ' H2 (Same.refl _) m2
    | true =>
      rw [if_pos rfl] at q2 ⊢
      refine ⟨fun σ3 H3 => ∃ R3 ρ3 e3, Same R R3 ∧ Md X.K b R3 ρ3 e3 σ3 H3 ∧ OkS X.K Wx b R3 D (whD t fb fg n e3), fun σ3 H3 n3 => ⟨n, by omega, n3⟩, b, R2, ρ2, e2, m2, ?_⟩
      cases hbe : fb e2 with
      | nx e3 =>
        simp only [hbe] at q2
        exact fun R4 ρ4 σ4 H4 s4 m4 => ⟨R4, ρ4, e3.clr fg, s'.trans (s2.trans s4), m4.clr fg, OkS.rebase s4 q2⟩
      | ct e3 =>
        simp only [hbe] at q2
        exact fun R4 ρ4 σ4 H4 s4 m4 => ⟨R4, ρ4, e3.clr fg, s'.trans (s2.trans s4), m4.clr fg, OkS.rebase s4 q2⟩
      | bk e3 => simp only [hbe] at q2; exact q2
      | rt w e3 => simp only [hbe] at q2; exact q2
      | exn x e3 => simp only [hbe] at q2; exact q2
      | fail => simp only [hbe] at q2; exact q2

/-! comprehensions -/
def Rs.bindF {α γ : Type} (r : Rs α) (k : α → Env → Rs γ) : Rs γ :=
  match r with
  | .ok a e => k a e
  | .exn _ _ => .fail
  | .fail => .fail
def pushK (k : Nat) (w : W) (e : Env) : Option Env := match e.cell k, w with
  | some (.lst acc), .d y => if acc.length < sizeLine then some (e.setC k (some (.lst (acc ++ [y])))) else none
  | _, _ => none
open Classical in
noncomputable def lcD (g : Tg) (chk : Env → Prop) (t : Env → Rs Bool) (f : Ev) (k : Nat) (vs : List Nat) : List D → Env → Rs Unit
  | [], e => if chk e then .ok () e else .fail
  | d :: ds, e => if chk e then
      (match g d (e.clr vs) with
        | none => .fail
        | some e1 => (t e1).bindF fun c e2 => if c = true then
            (f e2).bindF fun w e3 => (match pushK k w e3 with
              | some e4 => lcD g chk t f k vs ds (e4.clr vs)
              | none => .fail)
          else lcD g chk t f k vs ds (e2.clr vs))
    else .fail
/-- the end: the new list stays own, or is frozen -/
def endL (keep : Bool) (k : Nat) : Ev := fun e => match e.cell k with
  | some (.lst xs) => if keep = true then .ok (.loc k) e else .ok (.d (.lst xs)) (e.setC k none)
  | _ => .fail
noncomputable def eLc (it : Env → Rs Itr) (g : Tg) (t : Env → Rs Bool) (f : Ev) (k : Nat) (keep : Bool) (vs : List Nat) : Ev := fun e => (it e).bind fun a e1 =>
  if e1.open k = true then (lcD g a.chk t f k vs a.items (e1.setC k (some (.lst [])))).bind fun _ e2 => endL keep k e2 else .fail

theorem Md.drop {K : PySem.W.Frag} {b : Bs} {R : Hp} {ρ : Nat → Addr} {e : Env} {σ : St} {H : Hp} {k : Nat} {xs : List D} (m : Md K b R ρ e σ H) (hk : e.cell k = some (.lst xs)) (hnp : e.np ≤ k) : ∃ R', Same R R' ∧ Md K b R' ρ (e.setC k none) σ H ∧ Rep K R' (.lst xs) (.ref (ρ k)) := by
  obtain ⟨vs, h1, l1⟩ := m.cell k _ hk
  have hR := (m.own k _ hk).1
  have sR : Same R (upd R (ρ k) (.lst vs)) := same_upd hR
  have old : ∀ {n c}, (e.setC k none).cell n = some c → n ≠ k ∧ e.cell n = some c := fun {n c} h => by
    rw [Env.cell_setC] at h
    by_cases q : k = n
    · subst q; rw [if_pos rfl] at h; split at h <;> cases h
    · rw [if_neg q] at h; exact ⟨Ne.symm q, h⟩
  refine ⟨_, sR, ⟨fun i w h => ?_, fun n c h => ?_, fun n n' c1 c2 h1 h2 q => ?_, fun n c h => ?_, m.par, m.npl, fun a u h => ?_, m.ext.trans sR, fun a u h => ?_, m.frame, m.there, m.len⟩, .lst upd_same (RepL.mono sR l1)⟩
  · obtain ⟨v, q1, q2⟩ := m.slot i w h
    exact ⟨v, q1, q2.mono sR⟩
  · exact (m.cell n c (old h).2).mono sR rfl fun _ _ => rfl
  · exact m.inj n n' c1 c2 (old h1).2 (old h2).2 q
  · obtain ⟨hn, hc⟩ := old h
    exact ⟨by rw [upd_ne fun z => hn (m.inj n k c _ hc hk z)]; exact (m.own n c hc).1, (m.own n c hc).2⟩
  · by_cases q : a = ρ k
    · subst q; rw [upd_same] at h; cases h; exact h1
    · rw [upd_ne q] at h; exact m.sub a u h
  · by_cases q : a = ρ k
    · subst q
      rcases (m.own k _ hk).2 with z | z
      · omega
      · exact .inr z
    · rw [upd_ne q] at h; exact m.new a u h

theorem wipe_get (σ : St) (j : Nat) : ∀ vs : List Nat, (wipe σ vs)[j]? = if j ∈ vs then (if j < σ.length then some none else none) else σ[j]?
  | [] => by simp [wipe]
  | v :: vs => by
    unfold wipe
    rw [List.getElem?_set, wipe_length, wipe_get σ j vs]
    by_cases h : v = j
    · subst h
      simp
    · have h' : j ≠ v := Ne.symm h
      simp [h, h']
theorem wipe_eq {σ σ2 : St} {vs : List Nat} (hl : σ2.length = σ.length) (h : ∀ j, j ∉ vs → σ2[j]? = σ[j]?) : wipe σ2 vs = wipe σ vs := by
  apply List.ext_getElem?
  intro j
  rw [wipe_get, wipe_get, hl]
  split
  · rfl
  · rename_i hj; exact h j hj

/-- the block's slots are the frame's, the block's own names apart -/
theorem Md.into {K : PySem.W.Frag} {b : Bs} {R : Hp} {ρ : Nat → Addr} {e : Env} {σ : St} {H : Hp} (m : Md K b R ρ e σ H) (vs : List Nat) : Md K b R ρ (e.clr vs) (wipe σ vs) H where
  slot := fun i w h => by
    obtain ⟨h1, h2⟩ := clr_slot h
    obtain ⟨v, h3, h4⟩ := m.slot i w h1
    exact ⟨v, by rw [wipe_get, if_neg h2]; exact h3, h4⟩
  cell := m.cell
  inj := m.inj
  own := m.own
  par := m.par
  npl := m.npl
  sub := m.sub
  ext := m.ext
  new := m.new
  frame := m.frame
  there := m.there
  len := by rw [wipe_length]; exact m.len.trans (clrL_length _ _).symm
theorem Md.outof {K : PySem.W.Frag} {b : Bs} {R : Hp} {ρ : Nat → Addr} {e : Env} {σ σ2 : St} {H : Hp} {vs : List Nat} (m : Md K b R ρ e σ2 H) (hs : ∀ j, j ∉ vs → σ2[j]? = σ[j]?) (hl : σ2.length = σ.length) : Md K b R ρ (e.clr vs) σ H where
  slot := fun i w h => by
    obtain ⟨h1, h2⟩ := clr_slot h
    obtain ⟨v, h3, h4⟩ := m.slot i w h1
    exact ⟨v, by rw [← hs i h2]; exact h3, h4⟩
  cell := m.cell
  inj := m.inj
  own := m.own
  par := m.par
  npl := m.npl
  sub := m.sub
  ext := m.ext
  new := m.new
  frame := m.frame
  there := m.there
  len := by rw [← hl]; exact m.len.trans (clrL_length _ _).symm

theorem OkR.bindF {K : PySem.W.Frag} {b : Bs} {R : Hp} {ρ : Nat → Addr} {e : Env} {σ : St} {α β γ : Type} {L : Rl α β} {r : Rs α} {k : α → Env → Rs γ} {Z : Rs γ → Prop} (hf : ¬ Z .fail) (h : Z (r.bindF k)) :
    OkR K (fun _ _ _ _ => False) L b R ρ e σ (fun v H1 => ∃ R1 ρ1 e1 a, Same R R1 ∧ Live e e1 ρ ρ1 ∧ Md K b R1 ρ1 e1 σ H1 ∧ L R1 ρ1 a v ∧ Z (k a e1)) r := by
  cases r with
  | ok a e' => exact fun R' ρ' v H' s l m rp => ⟨R', ρ', e', a, s, l, m, rp, h⟩
  | exn x e' => exact absurd h hf
  | fail => exact absurd h hf
abbrev W0 : WX := fun _ _ _ _ => False

theorem lc_read {K : PySem.W.Frag} {it : Env → Rs Itr} {g : Tg} {t : Env → Rs Bool} {f : Ev} {k : Nat} {keep : Bool} {vs vs' : List Nat} {tG0 : TG} {σ : St} {H : Hp} {Q : VK} (hd : TgD K g vs' tG0) (hv : ∀ i ∈ vs', i ∈ vs) (h : tD K Wx (eLc it g t f k keep vs) σ H Q) :
    tLc (tDI K Wx it) tG0 (tDT K W0 t) (tD K W0 f) vs σ H Q := by
  refine tG_one h fun b R1 ρ1 e1 H1 a J m1 it1 q1 => ?_
  intro D hD
  split at q1
  case isFalse => exact q1.elim
  case isTrue ho =>
  obtain ⟨o1, o2, o3, o4⟩ := Env.open_of ho
  have mk := m1.freshC (o := .lst []) hD o2 o1 o4 (c := .lst []) ⟨[], upd_same, .nil⟩
  have lk : Live e1 (e1.setC k (some (.lst []))) ρ1 (setR ρ1 k D) := fun n c hc => by
    have hn : n ≠ k := fun z => by subst z; rw [o2] at hc; cases hc
    exact ⟨setR_ne hn, c, by rw [Env.cell_setC, if_neg (Ne.symm hn)]; exact hc⟩
  have ck : (e1.setC k (some (.lst []))).cell k = some (.lst []) := by rw [Env.cell_setC, if_pos rfl, if_pos o3]
  refine ⟨fun i m H => m = a.items.length - i ∧ i ≤ a.items.length ∧ ∃ R' ρ' e', Same R1 R' ∧ Live e1 e' ρ1 ρ' ∧ ρ' k = D ∧ (∃ c, e'.cell k = some c) ∧ Md K b R' ρ' e' σ H ∧ OkR K Wx (lW K) b R1 ρ1 e1 σ Q ((lcD g a.chk t f k vs (a.items.drop i) e').bind fun _ e2 => endL keep k e2),
    ⟨a.items.length, rfl, Nat.zero_le _, R1, _, _, Same.refl _, lk, setR_same _ _ _, ⟨_, ck⟩, mk, q1⟩, ?_⟩
  rintro i m H2 ⟨rfl, hi, R', ρ', e', s', l', hk, ⟨ck0, hck0⟩, m', q'⟩
  have hnp : ∀ n, n < e'.np → ρ' n = ρ1 n := fun n h2 => by
    have h3 := m'.par n h2
    have h4 := m1.par n (by rw [← m1.npl, m'.npl]; exact h2)
    rw [h4] at h3
    exact (Option.some.inj h3).symm
  by_cases hlt : i < a.items.length
  · have hdrop : a.items.drop i = a.items[i] :: a.items.drop (i + 1) := List.drop_eq_getElem_cons hlt
    rw [hdrop] at q'
    unfold lcD at q'
    by_cases hchk : a.chk e'
    · rw [if_pos hchk] at q'
      have io := it1 b R' ρ' e' σ H2 s' hnp m' hchk
      obtain ⟨go, yl⟩ := io.1 i hlt
      refine .inr ⟨go, fun H3 => ∃ R3 ρ3 e3, Same R1 R3 ∧ Live e1 e3 ρ1 ρ3 ∧ ρ3 k = D ∧ (∃ c, e3.cell k = some c) ∧ Md K b R3 ρ3 e3 σ H3 ∧ OkR K Wx (lW K) b R1 ρ1 e1 σ Q ((lcD g a.chk t f k vs (a.items.drop (i + 1)) e3).bind fun _ e2 => endL keep k e2),
        fun H3 n3 => ⟨_, by omega, rfl, by omega, n3⟩, fun x H3 y => ?_⟩
      obtain ⟨R'', d, hd1, s2, m2, r2⟩ := yl x H3 y
      have ed : a.items[i] = d := by
        rw [List.getElem?_eq_getElem hlt] at hd1
        exact Option.some.inj hd1
      rw [ed] at q'
      cases hge : g d (e'.clr vs) with
      | none => simp only [hge] at q'; exact q'.elim
      | some e2 =>
        simp only [hge] at q'
        have hM : e2.M = (e'.clr vs).M := hd.1 d _ _ hge
        have hM : e2.M = e'.M := hM
        have hcell : ∀ n, e2.cell n = e'.cell n := fun n => by unfold Env.cell; rw [hM]
        refine hd.2 b R'' ρ' (e'.clr vs) e2 d x (wipe σ vs) H3 _ (m2.into vs) r2 hge fun σ3 m3 k3 l3 => ?_
        have hσ : ∀ j, j ∉ vs → σ3[j]? = σ[j]? := fun j hj => by
          rw [k3 j fun z => hj (hv j z), wipe_get, if_neg hj]
        have hσl : σ3.length = σ.length := by rw [l3, wipe_length]
        refine ⟨wipe_eq hσl hσ, b, R'', ρ', e2, m3, ?_⟩
        have q2 := q'
        refine (OkR.bindF (L := lB) (Z := fun r => OkR K Wx (lW K) b R1 ρ1 e1 σ Q (r.bind fun _ e2 => endL keep k e2)) (fun z => z) q2).imp fun kb H4 h4 => ?_
        obtain ⟨R4, ρ4, e4, kb', s4, l4, m4, r4, q4⟩ := h4
        have e0 : kb' = kb := r4
        subst e0
        have lv4 : Live e' e4 ρ' ρ4 := fun n c hc => l4 n c (by rw [hcell]; exact hc)
        obtain ⟨hk4, c4, hc4⟩ := lv4 k ck0 hck0
        cases kb' with
        | false =>
          rw [if_neg Bool.false_ne_true]
          rw [if_neg Bool.false_ne_true] at q4
          exact ⟨R4, ρ4, e4.clr vs, s'.trans (s2.trans s4), l'.trans lv4, hk4.trans hk, ⟨c4, hc4⟩, m4.outof hσ hσl, q4⟩
        | true =>
          rw [if_pos rfl]
          rw [if_pos rfl] at q4
          refine ⟨b, R4, ρ4, e4, m4, ?_⟩
          refine (OkR.bindF (L := lW K) (Z := fun r => OkR K Wx (lW K) b R1 ρ1 e1 σ Q (r.bind fun _ e2 => endL keep k e2)) (fun z => z) q4).imp fun v5 H5 h5 => ?_
          obtain ⟨R5, ρ5, e5, w5, s5, l5, m5, r5, q5⟩ := h5
          obtain ⟨hk5, c5, hc5⟩ := l5 k c4 hc4
          cases hpk : pushK k w5 e5 with
          | none => simp only [hpk] at q5; exact q5.elim
          | some e6 =>
            simp only [hpk] at q5
            unfold pushK at hpk
            split at hpk
            · rename_i acc y hca
              split at hpk
              · rename_i hlen
                have hpk := Option.some.inj hpk
                subst hpk
                obtain ⟨us, g1, g2⟩ := m5.cell k _ hca
                have hρ5 : ρ5 k = D := hk5.trans (hk4.trans hk)
                rw [hρ5] at g1
                refine ⟨us, g1, by rw [← g2.length]; exact hlen, R5, ρ5, _, s'.trans (s2.trans (s4.trans s5)), (l'.trans (lv4.trans l5)).trans (fun n c hc => ⟨rfl, ?_⟩), hρ5, ⟨.lst (acc ++ [y]), ?_⟩, (?_ : Md K b R5 ρ5 ((e5.setC k (some (.lst (acc ++ [y])))).clr vs) σ _), q5⟩
                · show ∃ c', (e5.setC k (some (.lst (acc ++ [y])))).cell n = some c'
                  rw [Env.cell_setC]
                  by_cases z : k = n
                  · subst z; rw [if_pos rfl, if_pos (Env.cell_lt hca)]; exact ⟨_, rfl⟩
                  · rw [if_neg z]; exact ⟨_, hc⟩
                · show (e5.setC k (some (.lst (acc ++ [y])))).cell k = _
                  rw [Env.cell_setC, if_pos rfl, if_pos (Env.cell_lt hca)]
                · have mw := m5.write (o := .lst (us ++ [v5])) (c' := .lst (acc ++ [y])) hca ⟨_, upd_same, g2.append (.cons r5 .nil)⟩
                  rw [hρ5] at mw
                  exact mw.outof hσ hσl
              · cases hpk
            · cases hpk
    · rw [if_neg hchk] at q'; exact q'.elim
  · have e0 : i = a.items.length := by omega
    subst e0
    rw [List.drop_length] at q'
    unfold lcD at q'
    by_cases hchk : a.chk e'
    · rw [if_pos hchk] at q'
      have io := it1 b R' ρ' e' σ H2 s' hnp m' hchk
      refine .inl ⟨io.2, ?_⟩
      have q' : OkR K Wx (lW K) b R1 ρ1 e1 σ Q (endL keep k e') := q'
      unfold endL at q'
      split at q'
      · rename_i xs hc
        split at q'
        · rw [← hk]
          exact q' R' ρ' _ H2 s' l' m' rfl
        · have hknp : e'.np ≤ k := by rw [← m'.npl, m1.npl]; exact o1
          obtain ⟨R7, s7, m7, r7⟩ := m'.drop hc hknp
          rw [hk] at r7
          refine q' R7 ρ' (.ref D) H2 (s'.trans s7) (fun n c hcn => ?_) m7 r7
          obtain ⟨h8, c8, h9⟩ := l' n c hcn
          have hn : n ≠ k := fun z => by subst z; rw [o2] at hcn; cases hcn
          exact ⟨h8, c8, by rw [Env.cell_setC, if_neg (Ne.symm hn)]; exact h9⟩
      · exact q'.elim
    · rw [if_neg hchk] at q'; exact q'.elim
end
end Dl
end
section
set_option Elab.async false
set_option linter.all false
set_option maxRecDepth 100000
set_option maxHeartbeats 4000000
namespace Dl
open PySem L2

/-! comprehensions in code -/
section
variable {X : Cx} {Wx : WX} {elt tg iter c : Expr} {ifs : List Expr} {scope : Scope} {own : List (Str × Nat)} {pos : Pos}
theorem ts_nil : PTs X [] (tDT X.K Wx fun e => .ok true e) := ⟨fun pins s σ H Q I h => pts_nil.run pins s σ H Q I (by
  obtain ⟨b, R, ρ, e, m, q⟩ := h
  exact q.fin m rfl)⟩
theorem ts_one {t : Env → Rs Bool} (h : PT X c (tDT X.K Wx t)) : PTs X [c] (tDT X.K Wx t) := pts_one h
theorem d_lc {it : Env → Rs Itr} {g : Tg} {t : Env → Rs Bool} {f : Ev} {k : Nat} {keep : Bool} {vs' : List Nat} {tG0 : TG} (hc : X.calm = true) (hN : X.N.Nodup) (hi : PI X tg iter (tDI X.K Wx it)) (ok : BlkOk X.N X.env.scope scope own)
    (hg : ∀ (s : Shared) (H : Hp) (C : Addr) (cl : List (Str × Addr)) (fp : List Addr), PG (X.blk s H scope (compEnvC scope cl C X.env) fp) tg tG0) (hd : TgD X.K g vs' tG0) (hv : ∀ i ∈ vs', i ∈ own.map (·.2))
    (ht : ∀ (s : Shared) (H : Hp) (C : Addr) (cl : List (Str × Addr)) (fp : List Addr), PTs (X.blk s H scope (compEnvC scope cl C X.env) fp) ifs (tDT X.K W0 t))
    (he : ∀ (s : Shared) (H : Hp) (C : Addr) (cl : List (Str × Addr)) (fp : List Addr), PE (X.blk s H scope (compEnvC scope cl C X.env) fp) elt (tD X.K W0 f)) (hs : ∀ x, foldedSetIterable iter X.env x = pure x := by intro _; rfl) :
    PE X (.ListComp elt [⟨tg, iter, ifs, 0⟩] scope pos) (tD X.K Wx (eLc it g t f k keep (own.map (·.2)))) := (pe_lc hc hN hi ok hg ht he hs).imp fun σ H Q h => lc_read hd hv h
theorem s_setLc {it : Env → Rs Itr} {g : Tg} {t : Env → Rs Bool} {f : Ev} {k : Nat} {keep : Bool} {vs' : List Nat} {tG0 : TG} {i : Nat} {y : Str} {py spos : Pos} (hc : X.calm = true) (hN : X.N.Nodup) (hy : X.N[i]? = some y) (hyl : X.env.scope.names.lookup y = some .local)
    (hsw : swapsWith (.ListComp elt [⟨tg, iter, ifs, 0⟩] scope pos) (some (.Name y py)) spos.line X.env = pure true) (hi : PI X tg iter (tDI X.K Wx it)) (ok : BlkOk X.N X.env.scope scope own)
    (hg : ∀ (s : Shared) (H : Hp) (C : Addr) (cl : List (Str × Addr)) (fp : List Addr), PG (X.blk s H scope (compEnvC scope cl C X.env) fp) tg tG0) (hd : TgD X.K g vs' tG0) (hv : ∀ i ∈ vs', i ∈ own.map (·.2))
    (ht : ∀ (s : Shared) (H : Hp) (C : Addr) (cl : List (Str × Addr)) (fp : List Addr), PTs (X.blk s H scope (compEnvC scope cl C X.env) fp) ifs (tDT X.K W0 t))
    (he : ∀ (s : Shared) (H : Hp) (C : Addr) (cl : List (Str × Addr)) (fp : List Addr), PE (X.blk s H scope (compEnvC scope cl C X.env) fp) elt (tD X.K W0 f)) (hs : ∀ x, foldedSetIterable iter X.env x = pure x := by intro _; rfl) :
    PS X (.Assign [.Name y py] (.ListComp elt [⟨tg, iter, ifs, 0⟩] scope pos) spos) (tS X.K Wx (sSet i (eLc it g t f k keep (own.map (·.2))))) := (ps_setLc hc hN hy hyl hsw hi ok hg ht he hs).imp fun D σ H h =>
  lc_read (Q := fun x H1 => gName i x σ H1 D.nx) hd hv (by
    obtain ⟨b, R, ρ, e, m, h⟩ := h
    refine ⟨b, R, ρ, e, m, (OkS.to (L := lW X.K) h).imp fun v H1 h1 => ?_⟩
    obtain ⟨R1, ρ1, e1, w, s1, l1, m1, r1, q⟩ := h1
    exact q R1 ρ1 _ H1 (Same.refl _) (m1.setS r1))
end
end Dl
end
section
set_option Elab.async false
set_option linter.all false
set_option maxRecDepth 100000
set_option maxHeartbeats 4000000
namespace Dl
open PySem L2

/-! a def as a function of data -/
inductive CR where
  | ok (w : W) (cs : List Cell)
  | exn (x : Xn) (cs : List Cell)
  | fail
abbrev Fd := List W → List Cell → CR

structure Back (K : PySem.W.Frag) (R : Hp) (ρ : Nat → Addr) (n : Nat) (H : Hp) (cs : List Cell) (R' : Hp) (ρ' : Nat → Addr) (H' : Hp) : Prop where
  sR : Same R R'
  sub : Same R' H'
  kp : ∀ i, i < n → ρ' i = ρ i
  ln : n ≤ cs.length
  cell : ∀ i c, cs[i]? = some c → CellAt K R' ρ' H' (ρ' i) c
  own : ∀ i, i < cs.length → R' (ρ' i) = none ∧ (i < n ∨ H (ρ' i) = none)
  inj : ∀ i j, i < cs.length → j < cs.length → ρ' i = ρ' j → i = j
  new : ∀ a o, R' a = some o → R a = some o ∨ H a = none
  frame : ∀ a o, H a = some o → (∀ i, i < n → ρ i ≠ a) → H' a = some o
  there : ∀ a o, H a = some o → ∃ o', H' a = some o'

def spD (K : PySem.W.Frag) (P : Nat) (F : Fd) : Sp := fun vs H Q E => vs.length = P ∧ ∃ R ρ ws cs, Same R H ∧ Paired (RepW K R ρ) ws vs ∧ (∀ i c, cs[i]? = some c → CellAt K R ρ H (ρ i) c) ∧ (∀ i, i < cs.length → R (ρ i) = none) ∧
  (∀ i j, i < cs.length → j < cs.length → ρ i = ρ j → i = j) ∧
  match F ws cs with
  | .ok w cs' => ∀ R' ρ' v H', Back K R ρ cs.length H cs' R' ρ' H' → RepW K R' ρ' w v → Q v H'
  | .exn x cs' => ∀ R' ρ' H' cls d, Back K R ρ cs.length H cs' R' ρ' H' → ExR K R' x cls d → E cls d H'
  | .fail => False

def takeC : Nat → List (Option Cell) → Option (List Cell)
  | 0, _ => some []
  | n + 1, some c :: M => match takeC n M with | some cs => some (c :: cs) | none => none
  | _ + 1, _ => none
theorem takeC_get : ∀ {n : Nat} {M : List (Option Cell)} {cs : List Cell}, takeC n M = some cs → cs.length = n ∧ ∀ (i : Nat) (c : Cell), cs[i]? = some c → (M[i]?).join = some c
  | 0, _, _, h => by cases h; exact ⟨rfl, fun i c h => by simp at h⟩
  | n + 1, [], _, h => by cases h
  | n + 1, none :: M, _, h => by cases h
  | n + 1, some c :: M, cs, h => by
    unfold takeC at h
    cases q : takeC n M with
    | none => rw [q] at h; cases h
    | some ds =>
      rw [q] at h; cases h
      obtain ⟨h1, h2⟩ := takeC_get q
      refine ⟨by rw [List.length_cons, h1], fun i c' hi => ?_⟩
      cases i with
      | zero => simpa using hi
      | succ i => simpa using h2 i c' (by simpa using hi)
def env0 (N m : Nat) (ws : List W) (cs : List Cell) : Env := ⟨ws.map some ++ List.replicate (N - ws.length) none, cs.map some ++ List.replicate (m - cs.length) none, cs.length⟩
/-- N: the slots; m: the registers; r: how many cells are handed back -/
def mkF (N m r : Nat) (f : Sv) : Fd := fun ws cs => match f (env0 N m ws cs) with
  | .rt w e => match takeC (max cs.length r) e.M with | some cs' => .ok w cs' | none => .fail
  | .nx e => match takeC (max cs.length r) e.M with | some cs' => .ok (.d .non) cs' | none => .fail
  | .exn x e => match takeC cs.length e.M with | some cs' => .exn x cs' | none => .fail
  | _ => .fail

theorem join_app {α : Type} {l : List α} {n i : Nat} {a : α} (h : ((l.map some ++ List.replicate n none)[i]?).join = some a) : l[i]? = some a := by
  by_cases hi : i < l.length
  · rw [List.getElem?_append_left (by rw [List.length_map]; exact hi), List.getElem?_map] at h
    cases q : l[i]? with
    | none => rw [q] at h; cases h
    | some x => rw [q] at h; exact h
  · rw [List.getElem?_append_right (by rw [List.length_map]; omega), List.getElem?_replicate] at h
    split at h <;> cases h

section
variable {K : PySem.W.Frag}
theorem Md.start {R : Hp} {ρ : Nat → Addr} {H : Hp} {ws : List W} {vs : List V} {cs : List Cell} {N : List Str} {m : Nat} (sR : Same R H) (rs : Paired (RepW K R ρ) ws vs) (hc : ∀ i c, cs[i]? = some c → CellAt K R ρ H (ρ i) c) (hn : ∀ i, i < cs.length → R (ρ i) = none)
    (hi : ∀ i j, i < cs.length → j < cs.length → ρ i = ρ j → i = j) : Md K ⟨R, H, (List.range cs.length).map ρ⟩ R ρ (env0 N.length m ws cs) (L2.start N vs) H where
  slot := fun i w h => by
    obtain ⟨v, h1, h2⟩ := Paired.get2 rs (join_app h)
    refine ⟨v, ?_, h2⟩
    unfold L2.start
    have hlt : i < vs.length := (List.getElem?_eq_some_iff.mp h1).1
    rw [List.getElem?_append_left (by rw [List.length_map]; exact hlt), List.getElem?_map, h1]
    rfl
  cell := fun n c h => hc n c (join_app h)
  inj := fun n k c c' h h' q => hi n k (List.getElem?_eq_some_iff.mp (join_app h)).1 (List.getElem?_eq_some_iff.mp (join_app h')).1 q
  own := fun n c h => by
    have q := (List.getElem?_eq_some_iff.mp (join_app h)).1
    exact ⟨hn n q, .inl q⟩
  par := fun n h => by
    show ((List.range cs.length).map ρ)[n]? = some (ρ n)
    have h : n < cs.length := h
    rw [List.getElem?_map, List.getElem?_range h]
    rfl
  npl := by
    show ((List.range cs.length).map ρ).length = cs.length
    rw [List.length_map, List.length_range]
  sub := sR
  ext := Same.refl R
  new := fun a o h => .inl h
  frame := fun a o h _ => h
  there := fun a o h => ⟨o, h⟩
  len := by
    unfold L2.start
    show (vs.map some ++ List.replicate (N.length - vs.length) none).length = (ws.map some ++ List.replicate (N.length - ws.length) none).length
    have e := Paired.lengthEq rs
    simp only [List.length_append, List.length_map, List.length_replicate]
    omega
theorem Md.back {R R' : Hp} {ρ ρ' : Nat → Addr} {H H' : Hp} {n : Nat} {e' : Env} {σ' : St} {r : Nat} {cs' : List Cell} (m : Md K ⟨R, H, (List.range n).map ρ⟩ R' ρ' e' σ' H') (ht : takeC r e'.M = some cs') (hr : n ≤ r) : Back K R ρ n H cs' R' ρ' H' := by
  obtain ⟨h1, h2⟩ := takeC_get ht
  have hnp : e'.np = n := by
    have := m.npl
    rw [List.length_map, List.length_range] at this
    exact this.symm
  have live : ∀ i, i < cs'.length → ∃ c, e'.cell i = some c := fun i hi => ⟨_, h2 i _ (List.getElem?_eq_getElem hi)⟩
  have hk : ∀ i, i < n → ρ' i = ρ i := fun i hi => by
    have q := m.par i (by rw [hnp]; exact hi)
    have q2 : ((List.range n).map ρ)[i]? = some (ρ' i) := q
    rw [List.getElem?_map, List.getElem?_range hi] at q2
    exact (Option.some.inj q2).symm
  refine ⟨m.ext, m.sub, hk, by omega, fun i c hc => m.cell i c (h2 i c hc), fun i hi => ?_, fun i j hi hj q => ?_, m.new, fun a o h q => m.frame a o h fun z => ?_, m.there⟩
  · obtain ⟨c, hc⟩ := live i hi
    have q := m.own i c hc
    rw [hnp] at q
    exact q
  · obtain ⟨c, hc⟩ := live i hi
    obtain ⟨c', hc'⟩ := live j hj
    exact m.inj i j c c' hc hc' q
  · obtain ⟨i, hi, e⟩ := List.mem_map.mp z
    exact q i (List.mem_range.mp hi) e
end

section
variable {P : Program} {w : World} {K : PySem.W.Frag} {mg : Str → Option Value} {base : Heap} {x qual : Str} {params : Arguments} {body : List Stmt} {scope : Scope} {dvs : List V} {kws : List (Str × V)} {f : Addr} {fd : FuncData}
abbrev WofE (E : XK) : WX := fun cls d _ H => E cls d H
/-- a def is worth mkF of its body -/
theorem fnD {N ps : List Str} {k m r : Nat} {fb : Sv} (F : FunD K x qual params body scope dvs kws f fd) (S : FnScope N ps scope)
    (hb : ∀ (cdv : Value) (A : Around) (outer : List Env) (s : Shared) (H : Hp) (E : XK), True) : True := trivial
theorem fnD_ok {N ps : List Str} {k m r : Nat} {fb : Sv} (F : FunD K x qual params body scope dvs kws f fd) (S : FnScope N ps scope)
    (hb : ∀ (cdv : Value) (A : Around) (outer : List PySem.Env) (s : Shared) (H : Hp) (E : XK), Room k (A.deeper (PyProof.Rows.envOfC qual scope s.heap.objs.size f cdv)) →
      PSs (cxOf (L2.CX P w) P w K mg base N qual scope f cdv A outer s H E) body (tS K (WofE E) fb)) : FnOk P w K mg base (L2.CX P w) (k + 1) f fd ps (spD K ps.length (mkF N.length m r fb)) := by
  refine F.ok (CX := L2.CX P w) S (fun vs H Q E h => h.1) (fun cdv A outer s H vs Q E hr h => ⟨_, hb cdv A outer s H E hr, ?_⟩)
  obtain ⟨hl, R, ρ, ws, cs, sR, rs, hc, hn, hi, q⟩ := h
  refine ⟨_, R, ρ, env0 N.length m ws cs, Md.start sR rs hc hn hi, ?_⟩
  unfold mkF at q
  cases hf : fb (env0 N.length m ws cs) with
  | nx e =>
    simp only [hf] at q
    cases ht : takeC (max cs.length r) e.M with
    | none => simp only [ht] at q
    | some cs' =>
      simp only [ht] at q
      exact fun R' ρ' σ' H' s' m' => q R' ρ' .non H' (m'.back ht (Nat.le_max_left _ _)) .non
  | rt w e =>
    simp only [hf] at q
    cases ht : takeC (max cs.length r) e.M with
    | none => simp only [ht] at q
    | some cs' =>
      simp only [ht] at q
      exact fun R' ρ' σ' H' v s' m' rv => q R' ρ' v H' (m'.back ht (Nat.le_max_left _ _)) rv
  | exn x e =>
    simp only [hf] at q
    cases ht : takeC cs.length e.M with
    | none => simp only [ht] at q
    | some cs' =>
      simp only [ht] at q
      exact fun R' ρ' σ' H' cls d s' m' rx => q R' ρ' H' cls d (m'.back ht (Nat.le_refl _)) rx
  | bk e => simp only [hf] at q
  | ct e => simp only [hf] at q
  | fail => simp only [hf] at q
/-- the promise told by another function that is the same where it matters -/
theorem FnOk.as {k n : Nat} {ps : List Str} {F G : Fd} (h : FnOk P w K mg base (L2.CX P w) k f fd ps (spD K n F)) (e : ∀ ws cs, G ws cs ≠ .fail → F ws cs = G ws cs) : FnOk P w K mg base (L2.CX P w) k f fd ps (spD K n G) :=
  h.imp fun vs H Q E ⟨hl, R, ρ, ws, cs, sR, rs, hc, hn, hi, q⟩ => ⟨hl, R, ρ, ws, cs, sR, rs, hc, hn, hi, by
    have hg : G ws cs ≠ .fail := fun z => by rw [z] at q; exact q
    rw [e ws cs hg]
    exact q⟩
end

/-! calls -/
def renW (L : List Nat) : W → Option W
  | .d x => some (.d x)
  | .loc n => if n ∈ L then some (.loc (L.idxOf n)) else none
def backW (L : List Nat) : W → Option W
  | .d x => some (.d x)
  | .loc i => match L[i]? with | some n => some (.loc n) | none => none
def mapW (g : W → Option W) : List W → Option (List W)
  | [] => some []
  | w :: ws => match g w, mapW g ws with | some w', some ws' => some (w' :: ws') | _, _ => none
def mapF (g : W → Option W) : List (Str × W) → Option (List (Str × W))
  | [] => some []
  | (n, w) :: ws => match g w, mapF g ws with | some w', some ws' => some ((n, w') :: ws') | _, _ => none
def mapCell (g : W → Option W) : Cell → Option Cell
  | .lst xs => some (.lst xs)
  | .dic kvs => some (.dic kvs)
  | .dct kvs => some (.dct kvs)
  | .obj C fs => match mapF g fs with | some fs' => some (.obj C fs') | none => none
  | .lw us => match mapW g us with | some us' => some (.lw us') | none => none
def mapCs (g : W → Option W) : List Cell → Option (List Cell)
  | [] => some []
  | c :: cs => match mapCell g c, mapCs g cs with | some c', some cs' => some (c' :: cs') | _, _ => none
def cellsOf (e : Env) : List Nat → Option (List Cell)
  | [] => some []
  | n :: ns => match e.cell n, cellsOf e ns with | some c, some cs => some (c :: cs) | _, _ => none
def upds (M : List (Option Cell)) : List Nat → List Cell → List (Option Cell)
  | n :: ns, c :: cs => (upds M ns cs).set n (some c)
  | _, _ => M
def nodup : List Nat → Bool
  | [] => true
  | n :: ns => !ns.contains n && nodup ns
theorem nodup_iff : ∀ {l : List Nat}, nodup l = true → l.Nodup
  | [], _ => List.nodup_nil
  | n :: ns, h => by
    unfold nodup at h
    rw [Bool.and_eq_true] at h
    refine List.nodup_cons.mpr ⟨fun z => ?_, nodup_iff h.2⟩
    have q := h.1
    rw [List.contains_iff_mem.mpr z] at q
    cases q
def runF (F : Fd) (L Ln : List Nat) (ws : List W) : Ev := fun e =>
  if (nodup (L ++ Ln) && Ln.all e.open) = true then
    (match mapW (renW L) ws, cellsOf e L with
      | some ws', some cs0 => (match mapCs (renW L) cs0 with
        | some cs => (match F ws' cs with
          | .ok w cs2 => (match mapCs (backW (L ++ Ln)) cs2, backW (L ++ Ln) w with
            | some cs3, some w3 => if cs2.length = (L ++ Ln).length then .ok w3 { e with M := upds e.M (L ++ Ln) cs3 } else .fail
            | _, _ => .fail)
          | .exn x cs2 => (match mapCs (backW L) cs2 with
            | some cs3 => if cs2.length = L.length then .exn x { e with M := upds e.M L cs3 } else .fail
            | none => .fail)
          | .fail => .fail)
        | none => .fail)
      | _, _ => .fail)
  else .fail

section
variable {K : PySem.W.Frag} {R R' : Hp} {ρ ρ' : Nat → Addr}
theorem mapW_rep {g : W → Option W} (h : ∀ w w' v, g w = some w' → RepW K R ρ w v → RepW K R' ρ' w' v) : ∀ {ws ws' : List W} {vs : List V}, mapW g ws = some ws' → Paired (RepW K R ρ) ws vs → Paired (RepW K R' ρ') ws' vs
  | [], _, _, e, .nil => by cases e; exact .nil
  | w :: ws, _, _, e, .cons a t => by
    unfold mapW at e
    cases h1 : g w with
    | none => rw [h1] at e; cases e
    | some w' =>
      cases h2 : mapW g ws with
      | none => rw [h1, h2] at e; cases e
      | some ws' => rw [h1, h2] at e; cases e; exact .cons (h _ _ _ h1 a) (mapW_rep h h2 t)
theorem mapF_rep {g : W → Option W} (h : ∀ w w' v, g w = some w' → RepW K R ρ w v → RepW K R' ρ' w' v) : ∀ {ws ws' : List (Str × W)} {vs : List V}, mapF g ws = some ws' → Paired (RepW K R ρ) (ws.map (·.2)) vs → ws'.map (·.1) = ws.map (·.1) ∧ Paired (RepW K R' ρ') (ws'.map (·.2)) vs
  | [], _, _, e, .nil => by cases e; exact ⟨rfl, .nil⟩
  | (n, w) :: ws, _, _, e, .cons a t => by
    unfold mapF at e
    cases h1 : g w with
    | none => rw [h1] at e; cases e
    | some w' =>
      cases h2 : mapF g ws with
      | none => rw [h1, h2] at e; cases e
      | some ws' =>
        rw [h1, h2] at e; cases e
        obtain ⟨q1, q2⟩ := mapF_rep h h2 t
        exact ⟨by rw [List.map_cons, List.map_cons, q1], .cons (h _ _ _ h1 a) q2⟩
theorem mapCell_at {g : W → Option W} {H : Hp} {a : Addr} {c c' : Cell} (h : ∀ w w' v, g w = some w' → RepW K R ρ w v → RepW K R' ρ' w' v) (s : Same R R') (e : mapCell g c = some c') (ca : CellAt K R ρ H a c) : CellAt K R' ρ' H a c' := by
  cases c with
  | lst xs => cases e; obtain ⟨vs, h1, l⟩ := ca; exact ⟨vs, h1, RepL.mono s l⟩
  | dic xs => cases e; obtain ⟨vs, h1, h2, l⟩ := ca; exact ⟨vs, h1, h2, RepL.mono s l⟩
  | dct xs => cases e; obtain ⟨vs, h1, h2, l⟩ := ca; exact ⟨vs, h1, h2, RepL.mono s l⟩
  | obj C fs =>
    have e : (match mapF g fs with | some fs' => some (Cell.obj C fs') | none => none) = some c' := e
    cases h2 : mapF g fs with
    | none => rw [h2] at e; cases e
    | some fs' =>
      rw [h2] at e; cases e
      obtain ⟨dx, ws, g1, g2, g3⟩ := ca
      obtain ⟨q1, q2⟩ := mapF_rep h h2 g3
      exact ⟨dx, ws, g1, g2.trans q1.symm, q2⟩
  | lw us =>
    have e : (match mapW g us with | some fs' => some (Cell.lw fs') | none => none) = some c' := e
    cases h2 : mapW g us with
    | none => rw [h2] at e; cases e
    | some fs' =>
      rw [h2] at e; cases e
      obtain ⟨vs, g1, g3⟩ := ca
      exact ⟨vs, g1, mapW_rep h h2 g3⟩
theorem mapCs_get {g : W → Option W} : ∀ {cs cs' : List Cell}, mapCs g cs = some cs' → cs'.length = cs.length ∧ ∀ (i : Nat) (c' : Cell), cs'[i]? = some c' → ∃ c, cs[i]? = some c ∧ mapCell g c = some c'
  | [], _, e => by cases e; exact ⟨rfl, fun i c h => by simp at h⟩
  | c :: cs, _, e => by
    unfold mapCs at e
    cases h1 : mapCell g c with
    | none => rw [h1] at e; cases e
    | some c' =>
      cases h2 : mapCs g cs with
      | none => rw [h1, h2] at e; cases e
      | some cs' =>
        rw [h1, h2] at e; cases e
        obtain ⟨q1, q2⟩ := mapCs_get h2
        refine ⟨by rw [List.length_cons, List.length_cons, q1], fun i d hd => ?_⟩
        cases i with
        | zero => simp at hd; subst hd; exact ⟨c, rfl, h1⟩
        | succ i =>
          obtain ⟨d', h3, h4⟩ := q2 i d (by simpa using hd)
          exact ⟨d', by simpa using h3, h4⟩
theorem cellsOf_get {e : Env} : ∀ {L : List Nat} {cs : List Cell}, cellsOf e L = some cs → cs.length = L.length ∧ ∀ (i : Nat) (c : Cell), cs[i]? = some c → ∃ n, L[i]? = some n ∧ e.cell n = some c
  | [], _, h => by cases h; exact ⟨rfl, fun i c h => by simp at h⟩
  | n :: L, _, h => by
    unfold cellsOf at h
    cases h1 : e.cell n with
    | none => rw [h1] at h; cases h
    | some c =>
      cases h2 : cellsOf e L with
      | none => rw [h1, h2] at h; cases h
      | some cs =>
        rw [h1, h2] at h; cases h
        obtain ⟨q1, q2⟩ := cellsOf_get h2
        refine ⟨by rw [List.length_cons, List.length_cons, q1], fun i d hd => ?_⟩
        cases i with
        | zero => simp at hd; subst hd; exact ⟨n, rfl, h1⟩
        | succ i =>
          obtain ⟨d', h3, h4⟩ := q2 i d (by simpa using hd)
          exact ⟨d', by simpa using h3, h4⟩
theorem upds_len (M : List (Option Cell)) : ∀ (L : List Nat) (cs : List Cell), (upds M L cs).length = M.length
  | [], _ => by unfold upds; rfl
  | n :: ns, [] => by unfold upds; rfl
  | n :: ns, c :: cs => by unfold upds; rw [List.length_set, upds_len M ns cs]
theorem upds_get {M : List (Option Cell)} : ∀ {L : List Nat} {cs : List Cell} {n : Nat} {c : Cell}, ((upds M L cs)[n]?).join = some c → cs.length = L.length → (∃ i : Nat, L[i]? = some n ∧ cs[i]? = some c) ∨ (n ∉ L ∧ (M[n]?).join = some c)
  | [], cs, n, c, h, _ => by unfold upds at h; exact .inr ⟨by simp, h⟩
  | k :: ns, [], n, c, h, hl => by simp at hl
  | k :: ns, d :: cs, n, c, h, hl => by
    unfold upds at h
    rw [List.getElem?_set] at h
    by_cases q : k = n
    · subst q
      rw [if_pos rfl] at h
      split at h
      · cases h; exact .inl ⟨0, rfl, rfl⟩
      · cases h
    · rw [if_neg q] at h
      rcases upds_get h (by simpa using hl) with ⟨i, h1, h2⟩ | ⟨h1, h2⟩
      · exact .inl ⟨i + 1, by simpa using h1, by simpa using h2⟩
      · exact .inr ⟨by simp only [List.mem_cons, not_or]; exact ⟨Ne.symm q, h1⟩, h2⟩
theorem upds_live {M : List (Option Cell)} : ∀ {L : List Nat} {cs : List Cell} {n : Nat} {c : Cell}, (M[n]?).join = some c → ∃ c', ((upds M L cs)[n]?).join = some c'
  | [], cs, n, c, h => by unfold upds; exact ⟨c, h⟩
  | k :: ns, [], n, c, h => by unfold upds; exact ⟨c, h⟩
  | k :: ns, d :: cs, n, c, h => by
    unfold upds
    rw [List.getElem?_set]
    by_cases q : k = n
    · subst q
      have hlt : k < (upds M ns cs).length := by
        rw [upds_len]
        by_cases z : k < M.length
        · exact z
        · rw [List.getElem?_eq_none (by omega)] at h; cases h
      rw [if_pos rfl, if_pos hlt]
      exact ⟨d, rfl⟩
    · rw [if_neg q]; exact upds_live h
theorem idx_get {L : List Nat} {n : Nat} (h : n ∈ L) : L[L.idxOf n]? = some n := by
  have := List.idxOf_lt_length_of_mem h
  rw [List.getElem?_eq_getElem this, List.getElem_idxOf]
theorem idx_of {L : List Nat} (hn : L.Nodup) {i n : Nat} (h : L[i]? = some n) : L.idxOf n = i := by
  obtain ⟨hi, e⟩ := List.getElem?_eq_some_iff.mp h
  subst e
  exact hn.idxOf_getElem i hi
end
end Dl
end
section
set_option Elab.async false
set_option linter.all false
set_option maxRecDepth 100000
set_option maxHeartbeats 4000000
namespace Dl
open PySem L2

section
variable {K : PySem.W.Frag} {Wx : WX} {b : Bs} {R R' : Hp} {ρ ρ' : Nat → Addr} {e : Env} {σ : St} {H H' : Hp}
def rhoC (ρ : Nat → Addr) (L : List Nat) : Nat → Addr := fun i => ρ (L.getD i 0)
def rhoN (ρ ρ' : Nat → Addr) (L : List Nat) : Nat → Addr := fun n => if n ∈ L then ρ' (L.idxOf n) else ρ n
theorem rhoC_at {L : List Nat} {i n : Nat} (h : L[i]? = some n) : rhoC ρ L i = ρ n := by
  unfold rhoC
  rw [List.getD_eq_getElem?_getD, h]
  rfl
theorem ren_rep {L : List Nat} (w w' : W) (v : V) (h : renW L w = some w') (r : RepW K R ρ w v) : RepW K R (rhoC ρ L) w' v := by
  cases w with
  | d x => cases h; exact r
  | loc n =>
    have h : (if n ∈ L then some (W.loc (L.idxOf n)) else none) = some w' := h
    by_cases hn : n ∈ L
    · rw [if_pos hn] at h
      cases h
      show v = .ref (rhoC ρ L (L.idxOf n))
      rw [rhoC_at (idx_get hn)]
      exact r
    · rw [if_neg hn] at h; cases h
theorem back_rep {L : List Nat} (hnd : L.Nodup) (w w' : W) (v : V) (h : backW L w = some w') (r : RepW K R ρ' w v) : RepW K R (rhoN ρ ρ' L) w' v := by
  cases w with
  | d x => cases h; exact r
  | loc i =>
    unfold backW at h
    cases q : L[i]? with
    | none => simp only [q] at h; cases h
    | some n =>
      simp only [q] at h
      cases h
      show v = .ref (rhoN ρ ρ' L n)
      unfold rhoN
      rw [if_pos (List.mem_of_getElem? q), idx_of hnd q]
      exact r
theorem after_call {L Ln : List Nat} {cs2 cs3 : List Cell} (m : Md K b R ρ e σ H) (hnd : (L ++ Ln).Nodup) (hop : ∀ n ∈ Ln, e.open n = true) (hL : ∀ n ∈ L, ∃ c, e.cell n = some c) (bk : Back K R (rhoC ρ L) L.length H cs2 R' ρ' H')
    (hm : mapCs (backW (L ++ Ln)) cs2 = some cs3) (hlen : cs2.length = (L ++ Ln).length) :
    Md K b R' (rhoN ρ ρ' (L ++ Ln)) { e with M := upds e.M (L ++ Ln) cs3 } σ H' ∧ Live e { e with M := upds e.M (L ++ Ln) cs3 } ρ (rhoN ρ ρ' (L ++ Ln)) := by
  obtain ⟨hl3, hg3⟩ := mapCs_get hm
  have hl3' : cs3.length = (L ++ Ln).length := hl3.trans hlen
  have closed : ∀ {n : Nat} {c : Cell}, e.cell n = some c → n ∉ Ln := fun {n c} h z => by
    have := (Env.open_of (hop n z)).2.1
    rw [h] at this; cases this
  -- ρ stays at live cells
  have keep : ∀ {n : Nat}, n ∉ Ln → rhoN ρ ρ' (L ++ Ln) n = ρ n := fun {n} hn => by
    unfold rhoN
    by_cases hm2 : n ∈ L ++ Ln
    · rw [if_pos hm2]
      have hnL : n ∈ L := (List.mem_append.mp hm2).resolve_right hn
      have hi := idx_get hm2
      have hlt : (L ++ Ln).idxOf n < L.length := by
        have z := idx_get hnL
        have zl : L.idxOf n < L.length := List.idxOf_lt_length_of_mem hnL
        rw [idx_of hnd (i := L.idxOf n) (by rw [List.getElem?_append_left zl]; exact z)]
        exact zl
      rw [bk.kp _ hlt]
      rw [List.getElem?_append_left hlt] at hi
      exact rhoC_at hi
    · rw [if_neg hm2]
  have at_ : ∀ {i n : Nat}, (L ++ Ln)[i]? = some n → rhoN ρ ρ' (L ++ Ln) n = ρ' i := fun {i n} h => by
    unfold rhoN
    rw [if_pos (List.mem_of_getElem? h), idx_of hnd h]
  have cellD : ∀ {n : Nat} {c : Cell}, (⟨e.ws, upds e.M (L ++ Ln) cs3, e.np⟩ : Env).cell n = some c → (∃ i : Nat, (L ++ Ln)[i]? = some n ∧ cs3[i]? = some c) ∨ (n ∉ L ++ Ln ∧ e.cell n = some c) := fun {n c} h => upds_get h hl3'
  have iLt : ∀ {i : Nat} {c : Cell}, cs3[i]? = some c → i < cs2.length := fun {i c} h => by
    rw [← hl3]; exact (List.getElem?_eq_some_iff.mp h).1
  -- an address of the call's, and one of an old cell that was not handed over
  have apart : ∀ {i n k : Nat} {c' : Cell}, i < cs2.length → (L ++ Ln)[i]? = some n → k ∉ L ++ Ln → e.cell k = some c' → ρ' i ≠ ρ k := fun {i n k c'} hi hn hk hc' hq => by
    by_cases hiL : i < L.length
    · rw [bk.kp i hiL] at hq
      rw [List.getElem?_append_left hiL] at hn
      rw [rhoC_at hn] at hq
      obtain ⟨c2, h2⟩ := hL n (List.mem_of_getElem? hn)
      have := m.inj n k c2 c' h2 hc' hq
      subst this
      exact hk (List.mem_append_left _ (List.mem_of_getElem? hn))
    · obtain ⟨o, ho⟩ := (m.cell k c' hc').some
      have q2 := ((bk.own i hi).2).resolve_left hiL
      rw [hq, ho] at q2; cases q2
  refine ⟨⟨fun i w h => ?_, fun n c h => ?_, fun n n' c1 c2 h1 h2 q => ?_, fun n c h => ?_, fun n h => ?_, m.npl, bk.sub, m.ext.trans bk.sR, fun a o h => ?_, fun a o h hn => ?_, fun a o h => ?_, m.len⟩, fun n c h => ?_⟩
  · obtain ⟨v, h1, h2⟩ := m.slot i w h
    refine ⟨v, h1, ?_⟩
    cases w with
    | d x => exact Rep.mono bk.sR h2
    | loc n =>
      show v = .ref (rhoN ρ ρ' (L ++ Ln) n)
      rw [keep fun z => ?_]
      · exact h2
      · have := Env.noRef_slot (Env.open_of (hop n z)).2.2.2 h
        simp [isLoc] at this
  · rcases cellD h with ⟨i, h1, h2⟩ | ⟨h1, h2⟩
    · obtain ⟨c0, h3, h4⟩ := hg3 i c h2
      rw [at_ h1]
      exact mapCell_at (back_rep hnd) (Same.refl _) h4 (bk.cell i c0 h3)
    · have hc := m.cell n c h2
      obtain ⟨o, ho⟩ := hc.some
      rw [keep (closed h2)]
      refine hc.mono bk.sR ?_ fun k hk => keep fun z => ?_
      · rw [ho]
        refine bk.frame _ _ ho fun i hi hq => ?_
        obtain ⟨k, hk⟩ : ∃ k, L[i]? = some k := ⟨_, List.getElem?_eq_getElem hi⟩
        rw [rhoC_at hk] at hq
        obtain ⟨c2, h2'⟩ := hL k (List.mem_of_getElem? hk)
        have := m.inj k n c2 c h2' h2 hq
        subst this
        exact h1 (List.mem_append_left _ (List.mem_of_getElem? hk))
      · have := Env.noRef_cell (Env.open_of (hop k z)).2.2.2 h2
        rw [this] at hk; cases hk
  · rcases cellD h1 with ⟨i, g1, g2⟩ | ⟨g1, g2⟩
    · rcases cellD h2 with ⟨j, k1, k2⟩ | ⟨k1, k2⟩
      · rw [at_ g1, at_ k1] at q
        have := bk.inj i j (iLt g2) (iLt k2) q
        subst this
        rw [g1] at k1
        exact Option.some.inj k1
      · rw [at_ g1, keep (closed k2)] at q
        exact absurd q (apart (iLt g2) g1 k1 k2)
    · rcases cellD h2 with ⟨j, k1, k2⟩ | ⟨k1, k2⟩
      · rw [at_ k1, keep (closed g2)] at q
        exact absurd q.symm (apart (iLt k2) k1 g1 g2)
      · rw [keep (closed g2), keep (closed k2)] at q
        exact m.inj n n' c1 c2 g2 k2 q
  · rcases cellD h with ⟨i, g1, g2⟩ | ⟨g1, g2⟩
    · rw [at_ g1]
      refine ⟨(bk.own i (iLt g2)).1, ?_⟩
      rcases (bk.own i (iLt g2)).2 with hi | hi
      · rw [bk.kp i hi]
        rw [List.getElem?_append_left hi] at g1
        rw [rhoC_at g1]
        obtain ⟨c2, h2'⟩ := hL n (List.mem_of_getElem? g1)
        exact (m.own n c2 h2').2
      · exact .inr (m.fresh0 hi)
    · rw [keep (closed g2)]
      refine ⟨?_, (m.own n c g2).2⟩
      cases hR : R' (ρ n) with
      | none => rfl
      | some o =>
        rcases bk.new _ _ hR with z | z
        · rw [(m.own n c g2).1] at z; cases z
        · obtain ⟨o2, ho⟩ := (m.cell n c g2).some
          rw [z] at ho; cases ho
  · have h : n < e.np := h
    rw [keep fun z => ?_]
    · exact m.par n h
    · have := (Env.open_of (hop n z)).1
      omega
  · rcases bk.new a o h with z | z
    · exact m.new a o z
    · exact .inr (m.fresh0 z)
  · refine bk.frame a o (m.frame a o h hn) fun i hi hq => ?_
    obtain ⟨k, hk⟩ : ∃ k, L[i]? = some k := ⟨_, List.getElem?_eq_getElem hi⟩
    rw [rhoC_at hk] at hq
    obtain ⟨c2, h2'⟩ := hL k (List.mem_of_getElem? hk)
    rcases (m.own k c2 h2').2 with z | z
    · exact hn (by rw [← hq]; exact List.mem_of_getElem? (m.par k z))
    · rw [hq, h] at z; cases z
  · obtain ⟨o2, h2⟩ := m.there a o h
    exact bk.there a o2 h2
  · exact ⟨keep (closed h), upds_live h⟩

theorem call_run {P : Nat} {F : Fd} {L Ln : List Nat} {ws : List W} {vs : List V} {Q : VK} (m : Md K b R ρ e σ H) (rs : Paired (RepW K R ρ) ws vs) (hP : vs.length = P) (q : OkR K Wx (lW K) b R ρ e σ Q (runF F L Ln ws e)) :
    spD K P F vs H Q (fun cls d H' => Wx cls d σ H') := by
  unfold runF at q
  split at q
  case isFalse => exact q.elim
  case isTrue hcond =>
  rw [Bool.and_eq_true] at hcond
  have hnd := nodup_iff hcond.1
  have hop : ∀ n ∈ Ln, e.open n = true := fun n hn => List.all_eq_true.mp hcond.2 n hn
  cases hws : mapW (renW L) ws with
  | none => simp only [hws] at q; exact q.elim
  | some ws' =>
    cases hc0 : cellsOf e L with
    | none => simp only [hws, hc0] at q; exact q.elim
    | some cs0 =>
      simp only [hws, hc0] at q
      cases hcs : mapCs (renW L) cs0 with
      | none => simp only [hcs] at q; exact q.elim
      | some cs =>
        simp only [hcs] at q
        obtain ⟨l0, g0⟩ := cellsOf_get hc0
        obtain ⟨l1, g1⟩ := mapCs_get hcs
        have lcs : cs.length = L.length := l1.trans l0
        have hL : ∀ n ∈ L, ∃ c, e.cell n = some c := fun n hn => by
          obtain ⟨i, hi⟩ := List.mem_iff_getElem?.mp hn
          have hlt : i < cs0.length := by rw [l0]; exact (List.getElem?_eq_some_iff.mp hi).1
          obtain ⟨n', h1, h2⟩ := g0 i _ (List.getElem?_eq_getElem hlt)
          rw [hi] at h1
          cases h1
          exact ⟨_, h2⟩
        have lget : ∀ i, i < cs.length → ∃ n c, L[i]? = some n ∧ e.cell n = some c := fun i hi => by
          have h1 : L[i]? = some L[i] := List.getElem?_eq_getElem (by rw [← lcs]; exact hi)
          obtain ⟨c, h2⟩ := hL _ (List.mem_of_getElem? h1)
          exact ⟨_, c, h1, h2⟩
        have ndL : L.Nodup := (List.nodup_append.mp hnd).1
        refine ⟨hP, R, rhoC ρ L, ws', cs, m.sub, mapW_rep ren_rep hws rs, fun i c hi => ?_, fun i hi => ?_, fun i j hi hj hq => ?_, ?_⟩
        · obtain ⟨c0, h1, h2⟩ := g1 i c hi
          obtain ⟨n, h3, h4⟩ := g0 i c0 h1
          rw [rhoC_at h3]
          exact mapCell_at ren_rep (Same.refl _) h2 (m.cell n c0 h4)
        · obtain ⟨n, c, h1, h2⟩ := lget i hi
          rw [rhoC_at h1]
          exact (m.own n c h2).1
        · obtain ⟨n, c, h1, h2⟩ := lget i hi
          obtain ⟨n', c', h3, h4⟩ := lget j hj
          rw [rhoC_at h1, rhoC_at h3] at hq
          have := m.inj n n' c c' h2 h4 hq
          subst this
          rw [← idx_of ndL h1, ← idx_of ndL h3]
        · cases hF : F ws' cs with
          | fail => simp only [hF] at q; exact q.elim
          | ok w cs2 =>
            simp only [hF] at q
            cases h3 : mapCs (backW (L ++ Ln)) cs2 with
            | none => simp only [h3] at q; exact q.elim
            | some cs3 =>
              cases h4 : backW (L ++ Ln) w with
              | none => simp only [h3, h4] at q; exact q.elim
              | some w3 =>
                simp only [h3, h4] at q
                by_cases hlen : cs2.length = (L ++ Ln).length
                · rw [if_pos hlen] at q
                  intro R' ρ' v H' bk rv
                  rw [lcs] at bk
                  obtain ⟨m', lv⟩ := after_call m hnd hop hL bk h3 hlen
                  exact q R' _ v H' bk.sR lv m' (back_rep hnd w w3 v h4 rv)
                · rw [if_neg hlen] at q; exact q.elim
          | exn x cs2 =>
            simp only [hF] at q
            cases h3 : mapCs (backW L) cs2 with
            | none => simp only [h3] at q; exact q.elim
            | some cs3 =>
              simp only [h3] at q
              by_cases hlen : cs2.length = L.length
              · rw [if_pos hlen] at q
                intro R' ρ' H' cls d bk rx
                rw [lcs] at bk
                have e0 : L ++ [] = L := List.append_nil L
                obtain ⟨m', lv⟩ := after_call (Ln := []) m (by rw [e0]; exact ndL) (fun n hn => nomatch hn) hL bk (by rw [e0]; exact h3) (by rw [e0]; exact hlen)
                rw [e0] at m'
                exact q R' _ σ H' cls d bk.sR m' rx
              · rw [if_neg hlen] at q; exact q.elim
end

section
variable {X : Cx} {Wx : WX} {a c o : Expr} {es : List Expr} {pos p apos : Pos} {k : Nat} {f C : Addr} {fd : FuncData} {ps : List Str} {F : Fd} {x mn : Str} {fs : List Ev} {ds : List Value} {dvs : List D}
/-- the values of defaults -/
def flatDs : List D → Option (List V)
  | [] => some []
  | d :: ds => match flatD d, flatDs ds with | some v, some vs => some (v :: vs) | _, _ => none
theorem flatDs_rep {K : PySem.W.Frag} {R : Hp} {ρ : Nat → Addr} : ∀ {ds : List D} {vs : List V}, flatDs ds = some vs → Paired (RepW K R ρ) (ds.map W.d) vs
  | [], _, h => by cases h; exact .nil
  | d :: ds, _, h => by
    unfold flatDs at h
    cases h1 : flatD d with
    | none => rw [h1] at h; cases h
    | some v =>
      cases h2 : flatDs ds with
      | none => rw [h1, h2] at h; cases h
      | some vs =>
        rw [h1, h2] at h; cases h
        refine .cons ?_ (flatDs_rep h2)
        show Rep K R d v
        cases d <;> first | (cases h1; constructor) | cases h1
def eCall (P : Nat) (F : Fd) (L Ln : List Nat) (dvs : List D) (fs : List Ev) : Ev := fun e => (evA fs e).bind fun ws e1 => if (ws ++ dvs.map W.d).length = P then runF F L Ln (ws ++ dvs.map W.d) e1 else .fail
theorem d_call {np : Nat} {L Ln : List Nat} {dv : List V} (tk : Takes X Wx) (G : FnOk X.prog X.w X.K X.mg X.base (L2.CX X.prog X.w) k f fd ps (spD X.K np F)) (hr : Room k X.A) (hg : Gl X x) (hm : X.mg x = some (.ref f)) (hk : PySem.W.keepIn X.K (.ref f) = true) (hb : Binds X.K fd ps ds) (hd : Vals dv ds) (hdv : flatDs dvs = some dv)
    (ha : PA X (a :: es) (tDA X.K Wx (evA fs))) (hdb : (x == ("__debug__" : Str)) = false := by decide) (he : starEach (a :: es) X.env = (false, eval a X.env) :: starEach es X.env := by rfl) (hpl : (backTo pos (starEach es X.env)).any (·.1) = false := by rfl) :
    PE X (.Call (.Name x p) (a :: es) [] pos) (tD X.K Wx (eCall np F L Ln dvs fs)) := (pe_callSD (E := WE Wx) G hr hg hm hk hb hd (fun σ => passAt tk σ) ha hdb he hpl).imp fun σ H Q h =>
  tG_one h fun bs R ρ e H ws vs m r q => by
    split at q
    · rename_i hlen
      have r2 : Paired (RepW X.K R ρ) (ws ++ dvs.map W.d) (vs ++ dv) := Paired.app r (flatDs_rep hdv)
      exact call_run m r2 (by rw [← Paired.lengthEq r2]; exact hlen) q
    · exact q.elim
/-- o.m(..), what is raised wished for at the slots -/
def tMethS (C : Addr) (m : Str) (sp : Sp) (dvs : List V) (E : St → XK) (ta : TE) (t : TA) : TE := fun σ H Q => ta σ H fun x H1 => ∃ a dx fs, x = .ref a ∧ H1 a = some (.ins C dx fs) ∧ fs.lookup m = none ∧
  t σ H1 fun vs H2 => sp (x :: (vs ++ dvs)) H2 Q (E σ)
theorem pe_methS {pl : Sem Bool} {m : Str} {sp : Sp} {dvs : List V} {E : St → XK} {CX : CXT} {ta : TE} {t : TA} (he : PE X o ta) (c : Cls X.K C) (hm : Meth X.K C m f) (F : FnOk X.prog X.w X.K X.mg X.base CX k f fd ps sp) (hr : Room k X.A) (hb : Binds X.K fd ps ds) (hd : Vals dvs ds) (hx : ∀ σ, PassesAt CX X σ (E σ)) (ha : PA X (a :: es) t)
    (hst : starEach (a :: es) X.env = (false, eval a X.env) :: starEach es X.env := by rfl) (hpl : (backTo pos (starEach es X.env)).any (·.1) = false := by rfl)
    (ht : eval (.Call (.Attribute o m apos) (a :: es) [] pos) X.env = (do
      let ov ← eval o X.env
      standAt apos.atName
      let (f, first) ← holding [ov] (getMethod ov m pl)
      callWith pos f first (backTo pos (starEach (a :: es) X.env)) (backToKw pos (keywordEach [] X.env))) := by rfl) :
    PE X (.Call (.Attribute o m apos) (a :: es) [] pos) (tMethS C m sp dvs E ta t) := by
  refine ⟨fun pins s σ H Q I h => ?_⟩
  refine PySem.W.methodCall_KW (pl := pl) (thn (he.run pins s σ H _ I h) fun u s1 ⟨x, H1, I1, rx, a', dx, fs, ex, ea, l, q⟩ => ?_) ht
  subst ex
  obtain rfl : u = Value.ref a' := rx
  refine getmeth_ok I1 ea c hm l ?_
  refine PySem.W.callWith_K (first := [.ref a']) (h₀ := X.base) I1.ok.mod.kin hm.kp (thn (ha.run pos pins s1 σ H1 _ I1 q) fun us s2 ⟨vs, H2, I2, r, q2⟩ => ⟨I2.kIn, ?_⟩) hst hpl
  exact run_fnSD (us := .ref a' :: us) (vs := .ref a' :: vs) F hr hb hd (hx σ) I2 (.cons rfl r) q2
theorem pe_methS0 {pl : Sem Bool} {m : Str} {sp : Sp} {dvs : List V} {E : St → XK} {CX : CXT} {ta : TE} (he : PE X o ta) (c : Cls X.K C) (hm : Meth X.K C m f) (F : FnOk X.prog X.w X.K X.mg X.base CX k f fd ps sp) (hr : Room k X.A) (hb : Binds X.K fd ps ds) (hd : Vals dvs ds) (hx : ∀ σ, PassesAt CX X σ (E σ))
    (ht : eval (.Call (.Attribute o m apos) [] [] pos) X.env = (do
      let ov ← eval o X.env
      standAt apos.atName
      let (f, first) ← holding [ov] (getMethod ov m pl)
      callWith pos f first (backTo pos (starEach [] X.env)) (backToKw pos (keywordEach [] X.env))) := by rfl) :
    PE X (.Call (.Attribute o m apos) [] [] pos) (tMethS C m sp dvs E ta tNil) := by
  refine ⟨fun pins s σ H Q I h => ?_⟩
  refine PySem.W.methodCall_KW (pl := pl) (thn (he.run pins s σ H _ I h) fun u s1 ⟨x, H1, I1, rx, a', dx, fs, ex, ea, l, q⟩ => ?_) ht
  subst ex
  obtain rfl : u = Value.ref a' := rx
  refine getmeth_ok I1 ea c hm l ?_
  exact PySem.W.callWith_K0 (first := [.ref a']) I1.kIn hm.kp (run_fnSD (us := [.ref a']) (vs := [.ref a']) F hr hb hd (hx σ) I1 (.cons rfl .nil) q)
/-- w is an instance of the class at C, and mn is none of its attributes -/
def hasNo {α : Type} (mn : Str) : List (Str × α) → Bool
  | [] => true
  | (n, _) :: r => !(n == mn) && hasNo mn r
def insD (C : Addr) (mn : Str) (e : Env) : W → Bool
  | .d (.obj C' fs) => decide (C' = C) && hasNo mn fs
  | .d _ => false
  | .loc n => match e.cell n with | some (.obj C' fs) => decide (C' = C) && hasNo mn fs | _ => false
theorem hasNo_lookup {α β : Type} : ∀ {fs : List (Str × α)} {ws : List (Str × β)}, ws.map (·.1) = fs.map (·.1) → hasNo mn fs = true → ws.lookup mn = none
  | [], [], _, _ => rfl
  | [], _ :: _, h, _ => by simp at h
  | _ :: _, [], h, _ => by simp at h
  | (g, x) :: fs, (g', y) :: ws, h1, h2 => by
    rw [List.map_cons, List.map_cons] at h1
    injection h1 with e1 e2
    have e1 : g' = g := e1
    subst e1
    unfold hasNo at h2
    rw [Bool.and_eq_true] at h2
    have hq : ¬ g' = mn := fun z => by
      have := h2.1
      rw [beq_iff_eq.mpr z] at this
      cases this
    have hb : (mn == g') = false := beq_eq_false_iff_ne.mpr (Ne.symm hq)
    simp only [List.lookup, hb]
    exact hasNo_lookup e2 h2.2
theorem insD_ok {K : PySem.W.Frag} {b : Bs} {R : Hp} {ρ : Nat → Addr} {e : Env} {σ : St} {H : Hp} {w : W} {v : V} (m : Md K b R ρ e σ H) (r : RepW K R ρ w v) (h : insD C mn e w = true) : ∃ a dx fs, v = .ref a ∧ H a = some (.ins C dx fs) ∧ fs.lookup mn = none := by
  unfold insD at h
  split at h
  · rw [Bool.and_eq_true] at h
    have hC := of_decide_eq_true h.1
    subst hC
    have r : Rep K R _ v := r
    cases r with
    | obj h1 h2 l => exact ⟨_, _, _, rfl, m.sub _ _ h1, hasNo_lookup h2 h.2⟩
  · cases h
  · rename_i n
    have e1 : v = .ref (ρ n) := r
    subst e1
    split at h
    · rename_i hc
      rw [Bool.and_eq_true] at h
      have hC := of_decide_eq_true h.1
      subst hC
      obtain ⟨dx, ws, g1, g2, g3⟩ := m.cell n _ hc
      exact ⟨_, _, _, rfl, g1, hasNo_lookup g2 h.2⟩
    · cases h
def eMeth (C : Addr) (mn : Str) (P : Nat) (F : Fd) (L Ln : List Nat) (dvs : List D) (g : Ev) (fs : List Ev) : Ev := fun e => (g e).bind fun w e1 => if (insD C mn e1 w && wl e1 w) = true then
  (evA fs e1).bind fun ws e2 => (if (w :: (ws ++ dvs.map W.d)).length = P then runF F L Ln (w :: (ws ++ dvs.map W.d)) e2 else .fail) else .fail
theorem d_methD {np : Nat} {pl : Sem Bool} {L Ln : List Nat} {dv : List V} {g : Ev} (tk : Takes X Wx) (ho : PE X o (tD X.K Wx g)) (cl : Cls X.K C) (hm : Meth X.K C mn f) (G : FnOk X.prog X.w X.K X.mg X.base (L2.CX X.prog X.w) k f fd ps (spD X.K np F)) (hr : Room k X.A) (hb : Binds X.K fd ps ds) (hd : Vals dv ds) (hdv : flatDs dvs = some dv)
    (ha : PA X (a :: es) (tDA X.K Wx (evA fs))) (hst : starEach (a :: es) X.env = (false, eval a X.env) :: starEach es X.env := by rfl) (hpl : (backTo pos (starEach es X.env)).any (·.1) = false := by rfl)
    (ht : eval (.Call (.Attribute o mn apos) (a :: es) [] pos) X.env = (do
      let ov ← eval o X.env
      standAt apos.atName
      let (f, first) ← holding [ov] (getMethod ov mn pl)
      callWith pos f first (backTo pos (starEach (a :: es) X.env)) (backToKw pos (keywordEach [] X.env))) := by rfl) :
    PE X (.Call (.Attribute o mn apos) (a :: es) [] pos) (tD X.K Wx (eMeth C mn np F L Ln dvs g fs)) := (pe_methS (E := WE Wx) ho cl hm G hr hb hd (fun σ => passAt tk σ) ha hst hpl ht).imp fun σ H Q h =>
  tG_one h fun bs R ρ e H w v m r q => by
    split at q
    · rename_i h1
      rw [Bool.and_eq_true] at h1
      obtain ⟨a', dx, fs', e1, e2, e3⟩ := insD_ok m r h1.1
      refine ⟨a', dx, fs', e1, e2, e3, bs, R, ρ, e, m, (OkR.bind (L := lA X.K) q).imp fun vs H2 h2 => ?_⟩
      obtain ⟨R2, ρ2, e2, ws, s2, l2, m2, r2, _, q2⟩ := h2
      split at q2
      · rename_i hlen
        have r3 : Paired (RepW X.K R2 ρ2) (w :: (ws ++ dvs.map W.d)) (v :: (vs ++ dv)) := .cons (r.later h1.2 s2 l2) (Paired.app r2 (flatDs_rep hdv))
        exact call_run m2 r3 (by rw [← Paired.lengthEq r3]; exact hlen) q2
      · exact q2.elim
    · exact q.elim
theorem d_methD0 {np : Nat} {pl : Sem Bool} {L Ln : List Nat} {dv : List V} {g : Ev} (tk : Takes X Wx) (ho : PE X o (tD X.K Wx g)) (cl : Cls X.K C) (hm : Meth X.K C mn f) (G : FnOk X.prog X.w X.K X.mg X.base (L2.CX X.prog X.w) k f fd ps (spD X.K np F)) (hr : Room k X.A) (hb : Binds X.K fd ps ds) (hd : Vals dv ds) (hdv : flatDs dvs = some dv)
    (ht : eval (.Call (.Attribute o mn apos) [] [] pos) X.env = (do
      let ov ← eval o X.env
      standAt apos.atName
      let (f, first) ← holding [ov] (getMethod ov mn pl)
      callWith pos f first (backTo pos (starEach [] X.env)) (backToKw pos (keywordEach [] X.env))) := by rfl) :
    PE X (.Call (.Attribute o mn apos) [] [] pos) (tD X.K Wx (eMeth C mn np F L Ln dvs g [])) := (pe_methS0 (E := WE Wx) ho cl hm G hr hb hd (fun σ => passAt tk σ) ht).imp fun σ H Q h =>
  tG_one h fun bs R ρ e H w v m r q => by
    split at q
    · rename_i h1
      rw [Bool.and_eq_true] at h1
      obtain ⟨a', dx, fs', e1, e2, e3⟩ := insD_ok m r h1.1
      refine ⟨a', dx, fs', e1, e2, e3, ?_⟩
      have q2 : OkR X.K Wx (lW X.K) bs R ρ e σ Q (if (w :: ([] ++ dvs.map W.d)).length = np then runF F L Ln (w :: ([] ++ dvs.map W.d)) e else .fail) := q
      split at q2
      · rename_i hlen
        have r3 : Paired (RepW X.K R ρ) (w :: ([] ++ dvs.map W.d)) (v :: ([] ++ dv)) := .cons r (flatDs_rep hdv)
        exact call_run m r3 (by rw [← Paired.lengthEq r3]; exact hlen) q2
      · exact q2.elim
    · exact q.elim
end
end Dl
end
section
set_option Elab.async false
set_option linter.all false
set_option maxRecDepth 100000
set_option maxHeartbeats 4000000
namespace Dl
open PySem L2

section
variable {K : PySem.W.Frag} {Wx : WX} {b : Bs} {R R' : Hp} {ρ ρ' : Nat → Addr} {e : Env} {σ : St} {H H' : Hp}
theorem cell_rep {a : Addr} {c : Cell} {x : D} {o : HO} (hk : CellAt K R ρ H a c) (hx : c.toD = some x) (ho : H a = some o) (hR : R a = none) : Rep K (upd R a o) x (.ref a) := by
  have sR : Same R (upd R a o) := same_upd hR
  cases c with
  | lst xs =>
    obtain ⟨vs, h1, h2⟩ := hk
    have e1 : D.lst xs = x := Option.some.inj hx
    subst e1
    rw [h1] at ho; cases ho
    exact .lst upd_same (RepL.mono sR h2)
  | dic kvs =>
    obtain ⟨ws, h1, h2, h3⟩ := hk
    have e1 : D.dic kvs = x := Option.some.inj hx
    subst e1
    rw [h1] at ho; cases ho
    exact .dic upd_same h2 (RepL.mono sR h3)
  | dct kvs =>
    obtain ⟨ws, h1, h2, h3⟩ := hk
    have e1 : D.dct kvs = x := Option.some.inj hx
    subst e1
    rw [h1] at ho; cases ho
    exact .dct upd_same h2 (RepL.mono sR h3)
  | obj C fs =>
    obtain ⟨dx, ws, h1, h2, h3⟩ := hk
    have hx : (toDf fs).map (D.obj C) = some x := hx
    cases q : toDf fs with
    | none => rw [q] at hx; cases hx
    | some ds =>
      rw [q] at hx
      have e1 : D.obj C ds = x := Option.some.inj hx
      subst e1
      rw [h1] at ho; cases ho
      obtain ⟨r1, r2⟩ := toDf_rep q h3
      exact .obj upd_same (h2.trans r2.symm) (RepL.mono sR r1)
  | lw us =>
    obtain ⟨vs, h1, h2⟩ := hk
    have hx : (toDs us).map D.lst = some x := hx
    cases q : toDs us with
    | none => rw [q] at hx; cases hx
    | some ds =>
      rw [q] at hx
      have e1 : D.lst ds = x := Option.some.inj hx
      subst e1
      rw [h1] at ho; cases ho
      exact .lst upd_same (RepL.mono sR (toDs_rep q h2))
theorem Md.dropD {k : Nat} {c : Cell} {x : D} (m : Md K b R ρ e σ H) (hk : e.cell k = some c) (hx : c.toD = some x) (hnp : e.np ≤ k) : ∃ R', Same R R' ∧ Md K b R' ρ (e.setC k none) σ H ∧ Rep K R' x (.ref (ρ k)) := by
  have ca := m.cell k c hk
  obtain ⟨o, ho⟩ := ca.some
  have hR := (m.own k c hk).1
  have sR : Same R (upd R (ρ k) o) := same_upd hR
  have old : ∀ {n c}, (e.setC k none).cell n = some c → n ≠ k ∧ e.cell n = some c := fun {n c} h => by
    rw [Env.cell_setC] at h
    by_cases q : k = n
    · subst q; rw [if_pos rfl] at h; split at h <;> cases h
    · rw [if_neg q] at h; exact ⟨Ne.symm q, h⟩
  refine ⟨_, sR, ⟨fun i w h => ?_, fun n c' h => ?_, fun n n' c1 c2 h1 h2 q => ?_, fun n c' h => ?_, m.par, m.npl, fun a u h => ?_, m.ext.trans sR, fun a u h => ?_, m.frame, m.there, m.len⟩, cell_rep ca hx ho hR⟩
  · obtain ⟨v, q1, q2⟩ := m.slot i w h
    exact ⟨v, q1, q2.mono sR⟩
  · exact (m.cell n c' (old h).2).mono sR rfl fun _ _ => rfl
  · exact m.inj n n' c1 c2 (old h1).2 (old h2).2 q
  · obtain ⟨hn, hc⟩ := old h
    exact ⟨by rw [upd_ne fun z => hn (m.inj n k c' c hc hk z)]; exact (m.own n c' hc).1, (m.own n c' hc).2⟩
  · by_cases q : a = ρ k
    · subst q; rw [upd_same] at h; cases h; exact ho
    · rw [upd_ne q] at h; exact m.sub a u h
  · by_cases q : a = ρ k
    · subst q
      rcases (m.own k c hk).2 with z | z
      · omega
      · exact .inr z
    · rw [upd_ne q] at h; exact m.new a u h
theorem OkR.bind2 {α β γ δ : Type} {L : Rl α β} {L2 : Rl γ δ} {Q : δ → Hp → Prop} {r : Rs α} {k : α → Env → Rs γ} {R0 : Hp} {ρ0 : Nat → Addr} {e0 : Env} (s0 : Same R R0) (h : OkR K Wx L2 b R ρ e σ Q (r.bind k)) :
    OkR K Wx L b R0 ρ0 e0 σ (fun v H1 => ∃ R1 ρ1 e1 a, Same R0 R1 ∧ Live e0 e1 ρ0 ρ1 ∧ Md K b R1 ρ1 e1 σ H1 ∧ L R1 ρ1 a v ∧ OkR K Wx L2 b R ρ e σ Q (k a e1)) r := by
  cases r with
  | ok a e' => exact fun R' ρ' v H' s l m rp => ⟨R', ρ', e', a, s, l, m, rp, h⟩
  | exn x e' => exact fun R' ρ' σ' H' cls d s' m r => h R' ρ' σ' H' cls d (s0.trans s') m r
  | fail => exact h
end

/-- a made object stays own, or is frozen -/
def endO (keep : Bool) (k : Nat) : Ev := fun e => if keep = true then .ok (.loc k) e else match e.cell k with
  | some c => (match c.toD with | some x => if e.np ≤ k then .ok (.d x) (e.setC k none) else .fail | none => .fail)
  | none => .fail
section
variable {X : Cx} {Wx : WX} {a : Expr} {es : List Expr} {pos p : Pos} {k : Nat} {f C : Addr} {fd : FuncData} {ps : List Str} {F : Fd} {x : Str} {fs : List Ev} {ds : List Value} {dvs : List D}
def tMakeS (C : Addr) (sp : Sp) (dvs : List V) (E : St → XK) (t : TA) : TE := fun σ H Q => t σ H fun vs H1 => ∀ x dx, H1 x = none → H1 dx = none → dx ≠ x →
  sp (.ref x :: (vs ++ dvs)) (upd (upd H1 dx (.own x)) x (.ins C dx [])) (fun v H2 => v = .non ∧ Q (.ref x) H2) (E σ)
theorem run_makeS {CX : CXT} {sp : Sp} {dvs : List V} {E : St → XK} {pins : List (Addr × Obj)} {σ : St} {H : Hp} {s : Shared} {Q : VK} {us : List Value} {vs : List V} (M : Mk X.K C f) (F : FnOk X.prog X.w X.K X.mg X.base CX k f fd ps sp) (hr : Room (k + 1) X.A) (hb : Binds X.K fd ps ds) (hd : Vals dvs ds)
    (hx : PassesAt CX X σ (E σ)) (I : Inv X pins σ H s) (r : Vals vs us)
    (h : ∀ x dx, H x = none → H dx = none → dx ≠ x → sp (.ref x :: (vs ++ dvs)) (upd (upd H dx (.own x)) x (.ins C dx [])) (fun v H2 => v = .non ∧ Q (.ref x) H2) (E σ)) :
    wpAny (model X.prog X.w) X.A (call (.ref C) us) (EP X pins σ Q) X.xe s := by
  have hq := h (s.heap.objs.size + 1) s.heap.objs.size (I.hok.fresh (Nat.le_succ _)) (I.hok.fresh (Nat.le_refl _)) (Nat.ne_of_lt (Nat.lt_succ_self _))
  have I2 := Inv.made (C := C) I
  have r2 : Vals (V.ref (s.heap.objs.size + 1) :: (vs ++ dvs)) (Value.ref (s.heap.objs.size + 1) :: (us ++ ds)) := .cons rfl (r.append hd)
  have hl : (Value.ref (s.heap.objs.size + 1) :: us ++ ds).length = ps.length := by
    have e := r2.length
    rw [F.len _ _ _ _ hq] at e
    exact e.symm
  refine wpAny_call (make_map (f := f) I.kIn M.makes M.init (beq_iff_eq.mp M.fn) (codeAny_mono (F.run _ X.stack _ _ ⟨Value.ref (s.heap.objs.size + 1) :: us, []⟩ (Value.ref (s.heap.objs.size + 1) :: (us ++ ds)) _ _ (E σ) (hr.make C us [])
    (I2.env0.make C us []) (hb _ (Value.ref (s.heap.objs.size + 1) :: us) I2.kIn hl) r2 hq) fun r s' hq' => ?_))
  cases r with
  | error e => exact hx pins _ _ e s' I2 hq'
  | ok fl =>
    cases fl with
    | ret u =>
      obtain ⟨v, H', I3, rv, ev, q3⟩ := I2.after hq'
      subst ev
      exact ⟨rv, ⟨V.ref (s.heap.objs.size + 1), H', I3, rfl, q3⟩⟩
    | next => exact False.elim hq'
    | brk => exact False.elim hq'
    | cont => exact False.elim hq'
theorem pe_makeS {CX : CXT} {sp : Sp} {dvs : List V} {E : St → XK} {t : TA} (M : Mk X.K C f) (F : FnOk X.prog X.w X.K X.mg X.base CX k f fd ps sp) (hr : Room (k + 1) X.A) (hg : Gl X x) (hm : X.mg x = some (.ref C)) (hb : Binds X.K fd ps ds) (hd : Vals dvs ds) (hx : ∀ σ, PassesAt CX X σ (E σ))
    (ha : PA X (a :: es) t) (hdb : (x == ("__debug__" : Str)) = false := by decide) (he : starEach (a :: es) X.env = (false, eval a X.env) :: starEach es X.env := by rfl) (hpl : (backTo pos (starEach es X.env)).any (·.1) = false := by rfl) :
    PE X (.Call (.Name x p) (a :: es) [] pos) (tMakeS C sp dvs E t) := by
  refine ⟨fun pins s σ H Q I h => ?_⟩
  refine wpAny_Call_Name_kw (ld_glob I hg hm ?_ hdb)
  refine PySem.W.callWith_K (h₀ := X.base) I.ok.mod.kin M.kp (thn (ha.run pos pins s σ H _ I h) fun us s1 ⟨vs, H1, I1, r, q⟩ => ⟨I1.kIn, ?_⟩) he hpl
  exact run_makeS M F hr hb hd (hx σ) I1 r q
def eMake (C : Addr) (P : Nat) (F : Fd) (k : Nat) (L Ln : List Nat) (keep : Bool) (dvs : List D) (fs : List Ev) : Ev := fun e => (evA fs e).bind fun ws e1 =>
  if (e1.open k && ws.all fun w => !isLoc k w) = true then
    (if (W.loc k :: (ws ++ dvs.map W.d)).length = P then
      (runF F (k :: L) Ln (W.loc k :: (ws ++ dvs.map W.d)) (e1.setC k (some (.obj C [])))).bind fun w e3 => (match w with | .d .non => endO keep k e3 | _ => .fail)
    else .fail)
  else .fail
theorem d_make {np : Nat} {kr : Nat} {L Ln : List Nat} {keep : Bool} {dv : List V} (tk : Takes X Wx) (M : Mk X.K C f) (G : FnOk X.prog X.w X.K X.mg X.base (L2.CX X.prog X.w) k f fd ps (spD X.K np F)) (hr : Room (k + 1) X.A) (hg : Gl X x) (hm : X.mg x = some (.ref C)) (hb : Binds X.K fd ps ds) (hd : Vals dv ds) (hdv : flatDs dvs = some dv)
    (ha : PA X (a :: es) (tDA X.K Wx (evA fs))) (hdb : (x == ("__debug__" : Str)) = false := by decide) (he : starEach (a :: es) X.env = (false, eval a X.env) :: starEach es X.env := by rfl) (hpl : (backTo pos (starEach es X.env)).any (·.1) = false := by rfl) :
    PE X (.Call (.Name x p) (a :: es) [] pos) (tD X.K Wx (eMake C np F kr L Ln keep dvs fs)) := (pe_makeS (E := WE Wx) M G hr hg hm hb hd (fun σ => passAt tk σ) ha hdb he hpl).imp fun σ H Q h =>
  tG_one h fun bs R ρ e H ws vs m r q => by
    split at q
    case isFalse => exact q.elim
    case isTrue hcond =>
    rw [Bool.and_eq_true] at hcond
    obtain ⟨o1, o2, o3, o4⟩ := Env.open_of hcond.1
    split at q
    case isFalse => exact q.elim
    case isTrue hlen =>
    intro y dx hy hdx hne
    have m1 := m.grow (same_upd (o := .own y) hdx)
    have hy1 : upd H dx (.own y) y = none := by rw [upd_ne (Ne.symm hne)]; exact hy
    have m2 := m1.freshC (o := .ins C dx []) hy1 o2 o1 o4 (c := .obj C []) ⟨dx, [], upd_same, rfl, .nil⟩
    have hws : ∀ w ∈ ws, isLoc kr w = false := fun w hw => by
      have := List.all_eq_true.mp hcond.2 w hw
      simpa using this
    have lv : Live e (e.setC kr (some (.obj C []))) ρ (setR ρ kr y) := fun n c hc => by
      have hn : n ≠ kr := fun z => by subst z; rw [o2] at hc; cases hc
      exact ⟨setR_ne hn, c, by rw [Env.cell_setC, if_neg (Ne.symm hn)]; exact hc⟩
    have r3 : Paired (RepW X.K R (setR ρ kr y)) (W.loc kr :: (ws ++ dvs.map W.d)) (V.ref y :: (vs ++ dv)) := .cons (by
      show V.ref y = .ref (setR ρ kr y kr)
      rw [setR_same]) (Paired.app (lw_setR (e := e) r hws) (flatDs_rep hdv))
    refine call_run m2 r3 (by rw [← Paired.lengthEq r3]; exact hlen) ((OkR.bind2 (L := lW X.K) (Same.refl R) q).imp fun v H2 h2 => ?_)
    obtain ⟨R1, ρ1, e3, w, s1, l1, m3, rw3, q3⟩ := h2
    split at q3
    · have rw3 : Rep X.K R1 .non v := rw3
      cases rw3
      refine ⟨rfl, ?_⟩
      have hkc : (e.setC kr (some (.obj C []))).cell kr = some (.obj C []) := by rw [Env.cell_setC, if_pos rfl, if_pos o3]
      obtain ⟨hk1, c1, hc1⟩ := l1 kr _ hkc
      rw [setR_same] at hk1
      unfold endO at q3
      split at q3
      · rw [← hk1]
        exact q3 R1 ρ1 _ H2 s1 (lv.trans l1) m3 rfl
      · rw [hc1] at q3
        simp only at q3
        cases hx : c1.toD with
        | none => simp only [hx] at q3; exact q3.elim
        | some xd =>
          simp only [hx] at q3
          split at q3
          · rename_i hnp
            obtain ⟨R7, s7, m7, r7⟩ := m3.dropD hc1 hx hnp
            rw [hk1] at r7
            refine q3 R7 ρ1 (.ref y) H2 (s1.trans s7) (fun n c hcn => ?_) m7 r7
            obtain ⟨h8, c8, h9⟩ := (lv.trans l1) n c hcn
            have hn : n ≠ kr := fun z => by subst z; rw [o2] at hcn; cases hcn
            exact ⟨h8, c8, by rw [Env.cell_setC, if_neg (Ne.symm hn)]; exact h9⟩
          · exact q3.elim
    · exact q3.elim
end
end Dl
end
section
set_option Elab.async false
set_option linter.all false
set_option maxRecDepth 100000
set_option maxHeartbeats 4000000
namespace Dl
open PySem L2

section
variable {X : Cx} {Wx : WX} {a b c tg : Expr} {es rest : List Expr} {pos : Pos} {K : PySem.W.Frag}
def eNeg (f : Ev) : Ev := fun e => (f e).bind fun w e1 => match w with | .d (.int i) => .ok (.d (.int (-i))) e1 | _ => .fail
theorem d_neg {f : Ev} (h : PE X a (tD X.K Wx f)) : PE X (.UnaryOp .USub a pos) (tD X.K Wx (eNeg f)) := (pe_un un_neg h).imp fun σ H Q q =>
  tG_one q fun bs R ρ e H w v m r q2 => by
    split at q2
    · rename_i i
      have r : Rep X.K R (.int i) v := r
      cases r
      exact ⟨i, rfl, q2.fin (L := lW X.K) (a := .d (.int (-i))) m (Rep.int _)⟩
    · exact q2.elim
def eNot (f : Ev) : Ev := fun e => (f e).bind fun w e1 => match w with | .d (.bl k) => .ok (.d (.bl (!k))) e1 | _ => .fail
theorem d_not {f : Ev} (h : PE X a (tD X.K Wx f)) : PE X (.UnaryOp .Not a pos) (tD X.K Wx (eNot f)) := (pe_not h).imp fun σ H Q q =>
  tG_one q fun bs R ρ e H w v m r q2 => by
    split at q2
    · rename_i k
      have r : Rep X.K R (.bl k) v := r
      cases r
      exact ⟨k, rfl, q2.fin (L := lW X.K) (a := .d (.bl (!k))) m (Rep.bl _)⟩
    · exact q2.elim
def eAnd (f g : Ev) : Ev := fun e => (f e).bind fun w e1 => match w with | .d (.bl k) => if k = true then g e1 else .ok (.d (.bl false)) e1 | _ => .fail
def eOr (f g : Ev) : Ev := fun e => (f e).bind fun w e1 => match w with | .d (.bl k) => if k = true then .ok (.d (.bl true)) e1 else g e1 | _ => .fail
theorem d_one {op} {f : Ev} (h : PE X a (tD X.K Wx f)) : PE X (.BoolOp op [a] pos) (tD X.K Wx f) := pe_one h
theorem d_and {f g : Ev} (ha : PE X a (tD X.K Wx f)) (hb : PE X (.BoolOp .And (b :: rest) pos) (tD X.K Wx g)) : PE X (.BoolOp .And (a :: b :: rest) pos) (tD X.K Wx (eAnd f g)) := (pe_and ha hb).imp fun σ H Q q =>
  tG_one q fun bs R ρ e H w v m r q2 => by
    split at q2
    · rename_i k
      have r : Rep X.K R (.bl k) v := r
      cases r
      refine ⟨k, rfl, ?_⟩
      cases k with
      | true => exact ⟨bs, R, ρ, e, m, q2⟩
      | false => exact q2.fin (L := lW X.K) (a := .d (.bl false)) m (Rep.bl _)
    · exact q2.elim
theorem d_or {f g : Ev} (ha : PE X a (tD X.K Wx f)) (hb : PE X (.BoolOp .Or (b :: rest) pos) (tD X.K Wx g)) : PE X (.BoolOp .Or (a :: b :: rest) pos) (tD X.K Wx (eOr f g)) := (pe_or ha hb).imp fun σ H Q q =>
  tG_one q fun bs R ρ e H w v m r q2 => by
    split at q2
    · rename_i k
      have r : Rep X.K R (.bl k) v := r
      cases r
      refine ⟨k, rfl, ?_⟩
      cases k with
      | false => exact ⟨bs, R, ρ, e, m, q2⟩
      | true => exact q2.fin (L := lW X.K) (a := .d (.bl true)) m (Rep.bl _)
    · exact q2.elim
abbrev eIf (t : Env → Rs Bool) (f g : Ev) : Ev := fun e => (t e).bind fun k e1 => if k = true then f e1 else g e1
abbrev bNot (t : Env → Rs Bool) : Env → Rs Bool := fun e => (t e).bind fun k e1 => .ok (!k) e1
def powD : D → D → Option D := intD fun i j => if CPow i j then some (i ^ j.toNat) else none
theorem powD_ok : OpD K powD (rI CPow fun i j => .int (i ^ j.toNat)) := intD_ok fun i j k h => by
  split at h
  · rename_i hc; exact ⟨hc, (Option.some.inj h).symm⟩
  · cases h
/-- += of ints -/
def addI : D → D → Option D := intD fun i j => some (i + j)
theorem addI_ok : OpD K addI (rI0 fun i j => .int (i + j)) := intD_ok0 fun i j k h => (Option.some.inj h).symm

/-! range(a, b, c), c positive -/
def rangeC (i c : Int) (n : Nat) : List D := (List.range n).map fun k => D.int (i + (k : Nat) * c)
instance (i j c : Int) (n : Nat) : Decidable (RgC i j c n) := by unfold RgC; infer_instance
def kRng3 (ws : List W) : Env → Rs Itr := fun e => match ws with
  | [.d (.int i), .d (.int j), .d (.int c)] => if RgC i j c (Builtin.Range.rangeSize i j c).toNat then .ok ⟨rangeC i c (Builtin.Range.rangeSize i j c).toNat, fun _ => True⟩ e else .fail
  | _ => .fail
theorem rangeC_len (i c : Int) (n : Nat) : (rangeC i c n).length = n := by unfold rangeC; rw [List.length_map, List.length_range]
theorem ItOk.rangeC {R : Hp} {ρ : Nat → Addr} {lo c : Int} {n : Nat} : ItOk K R ρ ⟨Dl.rangeC lo c n, fun _ => True⟩ (Itc lo c n) := fun b R' ρ' e σ H s hr m hc => by
  refine ⟨fun i hi => ?_, by show n ≤ (Dl.rangeC lo c n).length; rw [rangeC_len]; exact Nat.le_refl _⟩
  have hi' : i < n := by
    have : i < (Dl.rangeC lo c n).length := hi
    rw [rangeC_len] at this; exact this
  refine ⟨hi', fun x H' y => ?_⟩
  obtain ⟨e1, e2⟩ := y
  subst e1; subst e2
  refine ⟨R', _, ?_, Same.refl _, m, .int _⟩
  show (Dl.rangeC lo c n)[i]? = _
  unfold Dl.rangeC
  rw [List.getElem?_map, List.getElem?_range hi']
  rfl
def iRg3 (f g h : Ev) : Env → Rs Itr := fun e => (evA [f, g, h] e).bind kRng3
theorem pair3 {F : W → V → Prop} {w w' w2 : W} {vs : List V} (r : Paired F [w, w', w2] vs) : ∃ v v' v2, vs = [v, v', v2] ∧ F w v ∧ F w' v' ∧ F w2 v2 := by
  cases r with
  | cons a t =>
    obtain ⟨v', v2, e, r', r2⟩ := pair2 t
    subst e
    exact ⟨_, v', v2, rfl, a, r', r2⟩
theorem i_range3 {f g h : Ev} {p : Pos} (hg : Gl X "range") (hm : X.mg "range" = none) (ha : PA X [a, b, c] (tDA X.K Wx (evA [f, g, h])))
    (hs : starEach [a, b, c] X.env = (false, eval a X.env) :: starEach [b, c] X.env := by rfl) (hpl : (backTo pos (starEach [b, c] X.env)).any (·.1) = false := by rfl) : PI X tg (.Call (.Name "range" p) [a, b, c] [] pos) (tDI X.K Wx (iRg3 f g h)) := (pi_range3 hg hm ha hs hpl).imp fun σ H Q q =>
  tG_one q fun bs R ρ e H ws vs m r q2 => by
    unfold kRng3 at q2
    split at q2
    · rename_i i j c
      obtain ⟨v, u, z, e1, rv, ru, rz⟩ := pair3 r
      subst e1
      have rv : Rep X.K R (.int i) v := rv
      have ru : Rep X.K R (.int j) u := ru
      have rz : Rep X.K R (.int c) z := rz
      cases rv
      cases ru
      cases rz
      split at q2
      · rename_i hj
        exact ⟨i, j, c, _, rfl, hj, q2.fin m ItOk.rangeC⟩
      · exact q2.elim
    · exact q2.elim
end
end Dl
end
section
set_option Elab.async false
set_option linter.all false
set_option maxRecDepth 100000
set_option maxHeartbeats 4000000
namespace Dl
open PySem L2
/-! evaluating by simp: each construct at a state, its parts one after another, nothing under a binder -/
section
variable {α γ : Type}
/-- constants that simp leaves alone until their first argument is known -/
def varK (o : Option W) (e : Env) : Rs W := match o with | some w => .ok w e | none => .fail
def b2a (r : Rs W) (f2 : Ev) (k : W → W → Env → Rs γ) : Rs γ := r.bind fun w1 e1 => if wl e1 w1 = true then (f2 e1).bind (k w1) else .fail
def b2b (l : Bool) (w1 : W) (r : Rs W) (k : W → W → Env → Rs γ) : Rs γ := if l = true then r.bind (k w1) else .fail
def okB (o : Option Bool) (e : Env) : Rs Bool := match o with | some k => .ok k e | none => .fail
def cbK (r : Rs (List W)) (k : List W → Ev) : Rs W := r.bind k
def eaK (r : Rs W) (fs : List Ev) : Rs (List W) := r.bind fun w e1 => if wl e1 w = true then (evA fs e1).bind fun ws e2 => .ok (w :: ws) e2 else .fail
def ebK (l : Bool) (w : W) (r : Rs (List W)) : Rs (List W) := if l = true then r.bind fun ws e2 => .ok (w :: ws) e2 else .fail
def andK (r : Rs Bool) (g : Env → Rs Bool) : Rs Bool := r.bind fun k e1 => if k = true then g e1 else .ok false e1
def orK (r : Rs Bool) (g : Env → Rs Bool) : Rs Bool := r.bind fun k e1 => if k = true then .ok true e1 else g e1
def notK (r : Rs Bool) : Rs Bool := r.bind fun k e1 => .ok (!k) e1
def truK (r : Rs W) : Rs Bool := r.bind kTru
def eNotK (r : Rs W) : Rs W := r.bind fun w e1 => match w with | .d (.bl k) => .ok (.d (.bl (!k))) e1 | _ => .fail
def eNegK (r : Rs W) : Rs W := r.bind fun w e1 => match w with | .d (.int i) => .ok (.d (.int (-i))) e1 | _ => .fail
def eAndK (r : Rs W) (g : Ev) : Rs W := r.bind fun w e1 => match w with | .d (.bl k) => if k = true then g e1 else .ok (.d (.bl false)) e1 | _ => .fail
def eOrK (r : Rs W) (g : Ev) : Rs W := r.bind fun w e1 => match w with | .d (.bl k) => if k = true then .ok (.d (.bl true)) e1 else g e1 | _ => .fail
def eIfK (r : Rs Bool) (f g : Ev) : Rs W := r.bind fun k e1 => if k = true then f e1 else g e1
def isiK (T : String) (r : Rs W) : Rs W := r.bind fun w e1 => match w with | .d x => okO (isiD T x) e1 | _ => .fail
def fldK (C : Addr) (f : Str) (r : Rs W) : Rs W := r.bind fun w e1 => okW (fldO C f w e1) e1
def ch1K (l : Bool) (w2 : W) (r : Rs Bool) (g' : D → D → Option Bool) (f3 : Ev) : Rs Bool := r.bind fun k e1 => if k = true then (if wl e1 w2 = true then (f3 e1).bind (kB2 g' w2) else .fail) else .ok false e1
def meK (ty : Env → W → Bool) (k : W → List W → Ev) (r : Rs W) (fs : List Ev) : Rs W := r.bind fun w e1 => if (ty e1 w && wl e1 w) = true then (evA fs e1).bind (k w) else .fail
def meK2 (l : Bool) (k : W → List W → Ev) (w : W) (r : Rs (List W)) : Rs W := if l = true then r.bind (k w) else .fail
def slK (r : Rs W) (lo hi : Env → Rs (Option Int)) : Rs W := r.bind fun w e1 => if wl e1 w = true then (lo e1).bind fun l e2 => if wl e2 w = true then (hi e2).bind fun h e3 => kSl w l h e3 else .fail else .fail
def slK2 (b : Bool) (w : W) (r : Rs (Option Int)) (hi : Env → Rs (Option Int)) : Rs W := if b = true then r.bind fun l e2 => if wl e2 w = true then (hi e2).bind fun h e3 => kSl w l h e3 else .fail else .fail
def slK3 (b : Bool) (w : W) (l : Option Int) (r : Rs (Option Int)) : Rs W := if b = true then r.bind fun h e3 => kSl w l h e3 else .fail
def osK (r : Rs W) : Rs (Option Int) := r.bind fun w e1 => match w with | .d (.int i) => .ok (some i) e1 | _ => .fail
def itK (r : Rs W) (k : W → Env → Rs Itr) : Rs Itr := r.bind k
def irK (r : Rs (List W)) (k : List W → Env → Rs Itr) : Rs Itr := r.bind k
def callK (r : Rs (List W)) (P : Nat) (F : Fd) (L Ln : List Nat) (dvs : List D) : Rs W := r.bind fun ws e1 => if (ws ++ dvs.map W.d).length = P then runF F L Ln (ws ++ dvs.map W.d) e1 else .fail
def mcK (r : Rs W) (C : Addr) (mn : Str) (P : Nat) (F : Fd) (L Ln : List Nat) (dvs : List D) (fs : List Ev) : Rs W := r.bind fun w e1 => if (insD C mn e1 w && wl e1 w) = true then
  (evA fs e1).bind fun ws e2 => (if (w :: (ws ++ dvs.map W.d)).length = P then runF F L Ln (w :: (ws ++ dvs.map W.d)) e2 else .fail) else .fail
def mcK2 (l : Bool) (w : W) (r : Rs (List W)) (P : Nat) (F : Fd) (L Ln : List Nat) (dvs : List D) : Rs W := if l = true then
  r.bind fun ws e2 => (if (w :: (ws ++ dvs.map W.d)).length = P then runF F L Ln (w :: (ws ++ dvs.map W.d)) e2 else .fail) else .fail
def mkK (r : Rs (List W)) (C : Addr) (P : Nat) (F : Fd) (k : Nat) (L Ln : List Nat) (keep : Bool) (dvs : List D) : Rs W := r.bind fun ws e1 =>
  if (e1.open k && ws.all fun w => !isLoc k w) = true then
    (if (W.loc k :: (ws ++ dvs.map W.d)).length = P then
      (runF F (k :: L) Ln (W.loc k :: (ws ++ dvs.map W.d)) (e1.setC k (some (.obj C [])))).bind fun w e3 => (match w with | .d .non => endO keep k e3 | _ => .fail)
    else .fail)
  else .fail
def mkK2 (l : Bool) (r : Rs W) (keep : Bool) (k : Nat) : Rs W := if l = true then r.bind fun w e3 => (match w with | .d .non => endO keep k e3 | _ => .fail) else .fail
def rf1 (c : Bool) (ws' : Option (List W)) (cs0 : Option (List Cell)) (F : Fd) (L Ln : List Nat) (e : Env) : Rs W := if c = true then
    (match ws', cs0 with
      | some ws', some cs0 => (match mapCs (renW L) cs0 with
        | some cs => (match F ws' cs with
          | .ok w cs2 => (match mapCs (backW (L ++ Ln)) cs2, backW (L ++ Ln) w with
            | some cs3, some w3 => if cs2.length = (L ++ Ln).length then .ok w3 { e with M := upds e.M (L ++ Ln) cs3 } else .fail
            | _, _ => .fail)
          | .exn x cs2 => (match mapCs (backW L) cs2 with
            | some cs3 => if cs2.length = L.length then .exn x { e with M := upds e.M L cs3 } else .fail
            | none => .fail)
          | .fail => .fail)
        | none => .fail)
      | _, _ => .fail)
  else .fail
def rf2 (cs : Option (List Cell)) (ws' : List W) (F : Fd) (L Ln : List Nat) (e : Env) : Rs W := match cs with
        | some cs => (match F ws' cs with
          | .ok w cs2 => (match mapCs (backW (L ++ Ln)) cs2, backW (L ++ Ln) w with
            | some cs3, some w3 => if cs2.length = (L ++ Ln).length then .ok w3 { e with M := upds e.M (L ++ Ln) cs3 } else .fail
            | _, _ => .fail)
          | .exn x cs2 => (match mapCs (backW L) cs2 with
            | some cs3 => if cs2.length = L.length then .exn x { e with M := upds e.M L cs3 } else .fail
            | none => .fail)
          | .fail => .fail)
        | none => .fail
def rf3 (r : CR) (L Ln : List Nat) (e : Env) : Rs W := match r with
          | .ok w cs2 => (match mapCs (backW (L ++ Ln)) cs2, backW (L ++ Ln) w with
            | some cs3, some w3 => if cs2.length = (L ++ Ln).length then .ok w3 { e with M := upds e.M (L ++ Ln) cs3 } else .fail
            | _, _ => .fail)
          | .exn x cs2 => (match mapCs (backW L) cs2 with
            | some cs3 => if cs2.length = L.length then .exn x { e with M := upds e.M L cs3 } else .fail
            | none => .fail)
          | .fail => .fail
def rf4 (cs3 : Option (List Cell)) (w3 : Option W) (l : Bool) (L2 : List Nat) (e : Env) : Rs W := match cs3, w3 with
            | some cs3, some w3 => if l = true then .ok w3 { e with M := upds e.M L2 cs3 } else .fail
            | _, _ => .fail
def rf5 (cs3 : Option (List Cell)) (x : Xn) (l : Bool) (L2 : List Nat) (e : Env) : Rs W := match cs3 with
            | some cs3 => if l = true then .exn x { e with M := upds e.M L2 cs3 } else .fail
            | none => .fail
/-! statements -/
def sqK (r : SR) (g : Sv) : SR := r.seq g
def ifK (r : Rs Bool) (f g : Sv) : SR := r.to fun k e1 => if k = true then f e1 else g e1
def setK (i : Nat) (r : Rs W) : SR := r.to fun w e' => .nx (e'.setS i (some w))
def retK (r : Rs W) : SR := r.to fun w e' => .rt w e'
def expK (r : Rs W) : SR := r.to fun _ e' => .nx e'
noncomputable def forK (r : Rs Itr) (g : Tg) (fg : List Nat) (body : Sv) : SR := r.to fun a e1 => forD g a.chk body fg a.items e1
def asgK (g : Tg) (r : Rs W) : SR := r.to fun w e1 => match w with | .d d => (match g d e1 with | some e2 => .nx e2 | none => .fail) | _ => .fail
def nxO (o : Option Env) : SR := match o with | some e2 => .nx e2 | none => .fail
def siK (fo fi : Ev) (r : Rs W) : SR := r.to fun w e1 => if wl e1 w = true then (fo e1).to fun o e2 => if (wl e2 w && wl e2 o) = true then (fi e2).to fun i e3 => kSetI w o i e3 else .fail else .fail
def siK2 (l : Bool) (w : W) (r : Rs W) (fi : Ev) : SR := if l = true then r.to fun o e2 => if (wl e2 w && wl e2 o) = true then (fi e2).to fun i e3 => kSetI w o i e3 else .fail else .fail
def siK3 (l : Bool) (w o : W) (r : Rs W) : SR := if l = true then r.to fun i e3 => kSetI w o i e3 else .fail
def nxC (n : Nat) (o : Option Cell) (e : Env) : SR := match o with | some c' => .nx (e.setC n (some c')) | none => .fail
def siK4 (o : Option Cell) (n : Nat) (k : Int) (w : W) (e : Env) : SR := match o with
    | some c => match setC c k w with
      | some c' => .nx (e.setC n (some c'))
      | none => .fail
    | none => .fail
def sfK (C : Addr) (f : Str) (fo : Ev) (r : Rs W) : SR := r.to fun w e1 => if wl e1 w = true then (fo e1).to fun o e2 => kSetF C f w o e2 else .fail
def sfK2 (C : Addr) (f : Str) (l : Bool) (w : W) (r : Rs W) : SR := if l = true then r.to fun o e2 => kSetF C f w o e2 else .fail
def agK (i : Nat) (g : D → D → Option D) (o : Option W) (r : Rs W) : SR := match o with
  | some (.d x) => r.to fun w e1 => match w with
    | .d y => match g x y with
      | some z => .nx (e1.setS i (some (.d z)))
      | none => .fail
    | _ => .fail
  | _ => .fail
def agK2 (i : Nat) (o : Option D) (e : Env) : SR := match o with
      | some z => .nx (e.setS i (some (.d z)))
      | none => .fail
def fzK (o : Option Env) (f : Sv) : SR := match o with | some e' => f e' | none => .fail
noncomputable def lcK (r : Rs Itr) (g : Tg) (t : Env → Rs Bool) (f : Ev) (k : Nat) (keep : Bool) (vs : List Nat) : Rs W := r.bind fun a e1 =>
  if e1.open k = true then (lcD g a.chk t f k vs a.items (e1.setC k (some (.lst [])))).bind fun _ e2 => endL keep k e2 else .fail
def lcK2 (l : Bool) (r : Rs Unit) (keep : Bool) (k : Nat) : Rs W := if l = true then r.bind fun _ e2 => endL keep k e2 else .fail
/-! the end of a def -/
def mfK (r : SR) (n x : Nat) : CR := match r with
  | .rt w e => match takeC (max n x) e.M with | some cs' => .ok w cs' | none => .fail
  | .nx e => match takeC (max n x) e.M with | some cs' => .ok (.d .non) cs' | none => .fail
  | .exn x e => match takeC n e.M with | some cs' => .exn x cs' | none => .fail
  | _ => .fail
def okC (o : Option (List Cell)) (w : W) : CR := match o with | some cs' => .ok w cs' | none => .fail
def exC (o : Option (List Cell)) (x : Xn) : CR := match o with | some cs' => .exn x cs' | none => .fail
end
section
variable {α γ : Type} {e : Env} {f g f1 f2 f3 : Ev} {fs : List Ev} {w w1 w2 : W} {ws : List W} {x y : D} {n i k : Nat}
@[simp] theorem slot_mk {ws M np} : Env.slot ⟨ws, M, np⟩ i = (ws[i]?).join := rfl
@[simp] theorem cell_mk {ws M np} : Env.cell ⟨ws, M, np⟩ i = (M[i]?).join := rfl
@[simp] theorem setS_mk {ws M np o} : Env.setS ⟨ws, M, np⟩ i o = ⟨ws.set i o, M, np⟩ := rfl
@[simp] theorem setC_mk {ws M np o} : Env.setC ⟨ws, M, np⟩ i o = ⟨ws, M.set i o, np⟩ := rfl
@[simp] theorem clr_mk {ws M np vs} : Env.clr ⟨ws, M, np⟩ vs = ⟨clrL ws vs, M, np⟩ := rfl
@[simp] theorem clrL_nil {ws} : clrL ws [] = ws := rfl
@[simp] theorem clrL_cons {ws v vs} : clrL ws (v :: vs) = (clrL ws vs).set v none := rfl
@[simp] theorem open_mk {ws M np} : Env.open ⟨ws, M, np⟩ k = (decide (np ≤ k) && (match M[k]? with | some none => true | _ => false) && Env.noRef ⟨ws, M, np⟩ k) := rfl
@[simp] theorem noRef_mk {ws M np} : Env.noRef ⟨ws, M, np⟩ k = ((ws.all fun o => match o with | some w => !isLoc k w | none => true) && (M.all fun o => match o with | some c => !c.refs k | none => true)) := rfl
@[simp] theorem isLoc_d : isLoc n (.d x) = false := rfl
@[simp] theorem isLoc_loc {m} : isLoc n (.loc m) = (m == n) := rfl
@[simp] theorem refs_lst {xs} : Cell.refs n (.lst xs) = false := rfl
@[simp] theorem refs_dic {xs} : Cell.refs n (.dic xs) = false := rfl
@[simp] theorem refs_dct {xs} : Cell.refs n (.dct xs) = false := rfl
@[simp] theorem refs_obj {C fs} : Cell.refs n (.obj C fs) = fs.any fun f => isLoc n f.2 := rfl
@[simp] theorem refs_lw {us} : Cell.refs n (.lw us) = us.any (isLoc n) := rfl
@[simp] theorem eVar_ev : eVar i e = varK (e.slot i) e := rfl
@[simp] theorem varK_some : varK (some w) e = .ok w e := rfl
@[simp] theorem eC_ev : eC x e = .ok (.d x) e := rfl
@[simp] theorem bin2_ev {k : W → W → Env → Rs γ} : bin2 f1 f2 k e = b2a (f1 e) f2 k := rfl
@[simp] theorem b2a_ok {k : W → W → Env → Rs γ} : b2a (.ok w e) f2 k = b2b (wl e w) w (f2 e) k := rfl
@[simp] theorem b2b_ok {k : W → W → Env → Rs γ} : b2b true w1 (.ok w2 e) k = k w1 w2 e := rfl
@[simp] theorem wl_d : wl e (.d x) = true := rfl
@[simp] theorem wl_loc : wl e (.loc n) = (e.cell n).isSome := rfl
@[simp] theorem eOp_ev {g : D → D → Option D} : eOp g f1 f2 e = b2a (f1 e) f2 (kD2 g) := rfl
@[simp] theorem kD2_ev {g : D → D → Option D} : kD2 g (.d x) (.d y) e = okO (g x y) e := rfl
@[simp] theorem okO_some : okO (some x) e = .ok (.d x) e := rfl
@[simp] theorem okW_some : okW (some w) e = .ok w e := rfl
@[simp] theorem bOp_ev {g : D → D → Option Bool} : bOp g f1 f2 e = b2a (f1 e) f2 (kB2 g) := rfl
@[simp] theorem kB2_ev {g : D → D → Option Bool} : kB2 g (.d x) (.d y) e = okB (g x y) e := rfl
@[simp] theorem okB_some {k : Bool} : okB (some k) e = .ok k e := rfl
@[simp] theorem bChain_ev {g g' : D → D → Option Bool} : bChain g g' f1 f2 f3 e = b2a (f1 e) f2 (fun w1 w2 e => (kB2 g w1 w2 e).bind fun k e1 => if k = true then (if wl e1 w2 = true then (f3 e1).bind (kB2 g' w2) else .fail) else .ok false e1) := rfl
@[simp] theorem bAnd_ev {f g : Env → Rs Bool} : bAnd f g e = andK (f e) g := rfl
@[simp] theorem bOr_ev {f g : Env → Rs Bool} : bOr f g e = orK (f e) g := rfl
@[simp] theorem andK_ok {g : Env → Rs Bool} {k : Bool} : andK (.ok k e) g = if k = true then g e else .ok false e := rfl
@[simp] theorem orK_ok {g : Env → Rs Bool} {k : Bool} : orK (.ok k e) g = if k = true then .ok true e else g e := rfl
@[simp] theorem bNot_ev {f : Env → Rs Bool} : bNot f e = notK (f e) := rfl
@[simp] theorem notK_ok {k : Bool} : notK (.ok k e) = .ok (!k) e := rfl
@[simp] theorem bTru_ev : bTru f e = truK (f e) := rfl
@[simp] theorem truK_ok : truK (.ok w e) = kTru w e := rfl
@[simp] theorem kTru_d : kTru (.d x) e = okB (truD x) e := rfl
@[simp] theorem eNot_ev : eNot f e = eNotK (f e) := rfl
@[simp] theorem eNotK_ok {k : Bool} : eNotK (.ok (.d (.bl k)) e) = .ok (.d (.bl (!k))) e := rfl
@[simp] theorem eNeg_ev : eNeg f e = eNegK (f e) := rfl
@[simp] theorem eNegK_ok {k : Int} : eNegK (.ok (.d (.int k)) e) = .ok (.d (.int (-k))) e := rfl
@[simp] theorem eAnd_ev : eAnd f g e = eAndK (f e) g := rfl
@[simp] theorem eAndK_ok {k : Bool} : eAndK (.ok (.d (.bl k)) e) g = if k = true then g e else .ok (.d (.bl false)) e := rfl
@[simp] theorem eOr_ev : eOr f g e = eOrK (f e) g := rfl
@[simp] theorem eOrK_ok {k : Bool} : eOrK (.ok (.d (.bl k)) e) g = if k = true then .ok (.d (.bl true)) e else g e := rfl
@[simp] theorem eIf_ev {t : Env → Rs Bool} : eIf t f g e = eIfK (t e) f g := rfl
@[simp] theorem eIfK_ok {k : Bool} : eIfK (.ok k e) f g = if k = true then f e else g e := rfl
@[simp] theorem eIsi_ev {T : String} : eIsi T f e = isiK T (f e) := rfl
@[simp] theorem isiK_ok {T : String} : isiK T (.ok (.d x) e) = okO (isiD T x) e := rfl
@[simp] theorem eFld_ev {C : Addr} {s : Str} : eFld C s f e = fldK C s (f e) := rfl
@[simp] theorem fldK_ok {C : Addr} {s : Str} : fldK C s (.ok w e) = okW (fldO C s w e) e := rfl
@[simp] theorem eIx_ev : eIx f1 f2 e = b2a (f1 e) f2 kIx := rfl
@[simp] theorem kIx_d {i : Int} : kIx (.d x) (.d (.int i)) e = okO (ixDD x i) e := rfl
@[simp] theorem kIx_loc {i : Int} : kIx (.loc n) (.d (.int i)) e = (match e.cell n with | some c => okW (ixC c i) e | none => .fail) := rfl
@[simp] theorem ixC_lst {xs : List D} {i : Int} : ixC (.lst xs) i = (atI xs i).map W.d := by show (match atI xs i with | some d => some (W.d d) | none => none) = _; cases atI xs i <;> rfl
@[simp] theorem evA_nil : evA [] e = .ok [] e := rfl
@[simp] theorem evA_cons : evA (f :: fs) e = eaK (f e) fs := rfl
@[simp] theorem eaK_ok : eaK (.ok w e) fs = ebK (wl e w) w (evA fs e) := rfl
@[simp] theorem ebK_ok : ebK true w (.ok ws e) = .ok (w :: ws) e := rfl
@[simp] theorem eCB_ev {k : List W → Ev} : eCB k fs e = cbK (evA fs e) k := rfl
@[simp] theorem cbK_ok {k : List W → Ev} : cbK (.ok ws e) k = k ws e := rfl
@[simp] theorem k1_ev {g : D → Option D} : k1 g [.d x] e = okO (g x) e := rfl
@[simp] theorem k2_ev {g : D → D → Option D} : k2 g [.d x, .d y] e = okO (g x y) e := rfl
@[simp] theorem kLen_d : kLen [.d x] e = okO (lenD x) e := rfl
@[simp] theorem kLen_loc : kLen [.loc n] e = (match e.cell n with | some c => okO (lenC c) e | none => .fail) := rfl
@[simp] theorem eM_ev {ty : Env → W → Bool} {k : W → List W → Ev} : eM ty k f fs e = meK ty k (f e) fs := rfl
@[simp] theorem meK_ok {ty : Env → W → Bool} {k : W → List W → Ev} : meK ty k (.ok w e) fs = meK2 (ty e w && wl e w) k w (evA fs e) := rfl
@[simp] theorem meK2_ok {k : W → List W → Ev} : meK2 true k w (.ok ws e) = k w ws e := rfl
@[simp] theorem eSl_ev {lo hi : Env → Rs (Option Int)} : eSl f lo hi e = slK (f e) lo hi := rfl
@[simp] theorem slK_ok {lo hi : Env → Rs (Option Int)} : slK (.ok w e) lo hi = slK2 (wl e w) w (lo e) hi := rfl
@[simp] theorem slK2_ok {hi : Env → Rs (Option Int)} {l : Option Int} : slK2 true w (.ok l e) hi = slK3 (wl e w) w l (hi e) := rfl
@[simp] theorem slK3_ok {l h : Option Int} : slK3 true w l (.ok h e) = kSl w l h e := rfl
@[simp] theorem oNone_ev : oNone e = .ok none e := rfl
@[simp] theorem oSome_ev : oSome f e = osK (f e) := rfl
@[simp] theorem osK_ok {i : Int} : osK (.ok (.d (.int i)) e) = .ok (some i) e := rfl
@[simp] theorem kSl_d {lo hi : Option Int} : kSl (.d x) lo hi e = okO (slD x lo hi) e := rfl
@[simp] theorem iL_ev : iL f e = itK (f e) kItL := rfl
@[simp] theorem iT_ev : iT f e = itK (f e) kItT := rfl
@[simp] theorem iS_ev : iS f e = itK (f e) kItS := rfl
@[simp] theorem itK_ok {k : W → Env → Rs Itr} : itK (.ok w e) k = k w e := rfl
@[simp] theorem irK_ok {k : List W → Env → Rs Itr} : irK (.ok ws e) k = k ws e := rfl
@[simp] theorem iRg1_ev : iRg1 f e = irK (evA [f] e) kRng1 := rfl
@[simp] theorem iRg2_ev : iRg2 f g e = irK (evA [f, g] e) kRng2 := rfl
@[simp] theorem iRg3_ev : iRg3 f g f3 e = irK (evA [f, g, f3] e) kRng3 := rfl
@[simp] theorem iEnu_ev : iEnu f e = irK (evA [f] e) kEnum := rfl
@[simp] theorem iZp_ev : iZp f g e = irK (evA [f, g] e) kZip := rfl
@[simp] theorem iRv_ev : iRv f e = irK (evA [f] e) kRev := rfl
@[simp] theorem eCall_ev {P F L Ln dvs} : eCall P F L Ln dvs fs e = callK (evA fs e) P F L Ln dvs := rfl
@[simp] theorem callK_ok {P F L Ln dvs} : callK (.ok ws e) P F L Ln dvs = if (ws ++ dvs.map W.d).length = P then runF F L Ln (ws ++ dvs.map W.d) e else .fail := rfl
@[simp] theorem eMeth_ev {C mn P F L Ln dvs} : eMeth C mn P F L Ln dvs g fs e = mcK (g e) C mn P F L Ln dvs fs := rfl
@[simp] theorem mcK_ok {C mn P F L Ln dvs} : mcK (.ok w e) C mn P F L Ln dvs fs = mcK2 (insD C mn e w && wl e w) w (evA fs e) P F L Ln dvs := rfl
@[simp] theorem mcK2_ok {P F L Ln dvs} : mcK2 true w (.ok ws e) P F L Ln dvs = if (w :: (ws ++ dvs.map W.d)).length = P then runF F L Ln (w :: (ws ++ dvs.map W.d)) e else .fail := rfl
@[simp] theorem eMake_ev {C P F L Ln keep dvs} : eMake C P F k L Ln keep dvs fs e = mkK (evA fs e) C P F k L Ln keep dvs := rfl
@[simp] theorem mkK_ok {C P F L Ln keep dvs} : mkK (.ok ws e) C P F k L Ln keep dvs = if (W.loc k :: (ws ++ dvs.map W.d)).length = P then mkK2 (e.open k && ws.all fun w => !isLoc k w) (runF F (k :: L) Ln (W.loc k :: (ws ++ dvs.map W.d)) (e.setC k (some (.obj C [])))) keep k else .fail := by
  unfold mkK mkK2
  simp only [Rs.bind]
  split <;> split <;> rfl
@[simp] theorem mkK2_ok {keep : Bool} : mkK2 true (.ok (.d .non) e) keep k = endO keep k e := rfl
@[simp] theorem runF_ev {F L Ln} : runF F L Ln ws e = rf1 (nodup (L ++ Ln) && Ln.all e.open) (mapW (renW L) ws) (cellsOf e L) F L Ln e := rfl
@[simp] theorem rf1_ok {F L Ln cs0} : rf1 true (some ws) (some cs0) F L Ln e = rf2 (mapCs (renW L) cs0) ws F L Ln e := rfl
@[simp] theorem rf2_ok {F L Ln cs} : rf2 (some cs) ws F L Ln e = rf3 (F ws cs) L Ln e := rfl
@[simp] theorem rf3_ok {L Ln cs2} : rf3 (.ok w cs2) L Ln e = rf4 (mapCs (backW (L ++ Ln)) cs2) (backW (L ++ Ln) w) (decide (cs2.length = (L ++ Ln).length)) (L ++ Ln) e := by
  show (match mapCs (backW (L ++ Ln)) cs2, backW (L ++ Ln) w with
            | some cs3, some w3 => if cs2.length = (L ++ Ln).length then Rs.ok w3 { e with M := upds e.M (L ++ Ln) cs3 } else .fail
            | _, _ => .fail) = _
  cases mapCs (backW (L ++ Ln)) cs2 <;> cases backW (L ++ Ln) w <;> simp [rf4]
@[simp] theorem rf3_exn {L Ln cs2} {x : Xn} : rf3 (.exn x cs2) L Ln e = rf5 (mapCs (backW L) cs2) x (decide (cs2.length = L.length)) L e := by
  show (match mapCs (backW L) cs2 with
            | some cs3 => if cs2.length = L.length then Rs.exn x { e with M := upds e.M L cs3 } else .fail
            | none => .fail) = _
  cases mapCs (backW L) cs2 <;> simp [rf5]
@[simp] theorem rf4_ok {L2 cs3} : rf4 (some cs3) (some w) true L2 e = .ok w { e with M := upds e.M L2 cs3 } := rfl
@[simp] theorem rf5_ok {L2 cs3} {x : Xn} : rf5 (some cs3) x true L2 e = .exn x { e with M := upds e.M L2 cs3 } := rfl
@[simp] theorem upds_nil {M cs} : upds M [] cs = M := rfl
@[simp] theorem upds_cons {M n ns c cs} : upds M (n :: ns) (c :: cs) = (upds M ns cs).set n (some c) := rfl
@[simp] theorem nodup_nil : nodup [] = true := rfl
@[simp] theorem nodup_cons {ns} : nodup (n :: ns) = (!ns.contains n && nodup ns) := rfl
@[simp] theorem cellsOf_nil : cellsOf e [] = some [] := rfl
@[simp] theorem cellsOf_cons {ns} : cellsOf e (n :: ns) = (match e.cell n, cellsOf e ns with | some c, some cs => some (c :: cs) | _, _ => none) := rfl
@[simp] theorem mapW_nil {g : W → Option W} : mapW g [] = some [] := rfl
@[simp] theorem mapW_cons {g : W → Option W} : mapW g (w :: ws) = (match g w, mapW g ws with | some w', some ws' => some (w' :: ws') | _, _ => none) := rfl
@[simp] theorem mapCs_nil {g : W → Option W} : mapCs g [] = some [] := rfl
@[simp] theorem mapCs_cons {g : W → Option W} {c cs} : mapCs g (c :: cs) = (match mapCell g c, mapCs g cs with | some c', some cs' => some (c' :: cs') | _, _ => none) := rfl
@[simp] theorem mapCell_lst {g : W → Option W} {xs} : mapCell g (.lst xs) = some (.lst xs) := rfl
@[simp] theorem mapCell_dic {g : W → Option W} {xs} : mapCell g (.dic xs) = some (.dic xs) := rfl
@[simp] theorem mapCell_dct {g : W → Option W} {xs} : mapCell g (.dct xs) = some (.dct xs) := rfl
@[simp] theorem mapCell_obj {g : W → Option W} {C fs} : mapCell g (.obj C fs) = (match mapF g fs with | some fs' => some (.obj C fs') | none => none) := rfl
@[simp] theorem mapF_nil {g : W → Option W} : mapF g [] = some [] := rfl
@[simp] theorem mapF_cons {g : W → Option W} {nm : Str} {r} : mapF g ((nm, w) :: r) = (match g w, mapF g r with | some w', some ws' => some ((nm, w') :: ws') | _, _ => none) := rfl
@[simp] theorem renW_d {L} : renW L (.d x) = some (.d x) := rfl
@[simp] theorem renW_loc {L} : renW L (.loc n) = if n ∈ L then some (.loc (L.idxOf n)) else none := rfl
@[simp] theorem backW_d {L} : backW L (.d x) = some (.d x) := rfl
@[simp] theorem backW_loc {L} : backW L (.loc n) = (match L[n]? with | some n => some (.loc n) | none => none) := rfl
@[simp] theorem sSeq_ev {f g : Sv} : sSeq f g e = sqK (f e) g := rfl
@[simp] theorem sqK_nx {g : Sv} : sqK (.nx e) g = g e := rfl
@[simp] theorem sqK_rt {g : Sv} : sqK (.rt w e) g = .rt w e := rfl
@[simp] theorem sqK_bk {g : Sv} : sqK (.bk e) g = .bk e := rfl
@[simp] theorem sqK_ct {g : Sv} : sqK (.ct e) g = .ct e := rfl
@[simp] theorem sqK_exn {g : Sv} {x : Xn} : sqK (.exn x e) g = .exn x e := rfl
@[simp] theorem sNil_ev : sNil e = .nx e := rfl
@[simp] theorem sIf_ev {t : Env → Rs Bool} {f g : Sv} : sIf t f g e = ifK (t e) f g := rfl
@[simp] theorem ifK_ok {k : Bool} {f g : Sv} : ifK (.ok k e) f g = if k = true then f e else g e := rfl
@[simp] theorem sSet_ev : sSet i f e = setK i (f e) := rfl
@[simp] theorem setK_ok : setK i (.ok w e) = .nx (e.setS i (some w)) := rfl
@[simp] theorem sRet_ev : sRet f e = retK (f e) := rfl
@[simp] theorem retK_ok : retK (.ok w e) = .rt w e := rfl
@[simp] theorem sExpr_ev : sExpr f e = expK (f e) := rfl
@[simp] theorem expK_ok : expK (.ok w e) = .nx e := rfl
@[simp] theorem sFor_ev {it : Env → Rs Itr} {g : Tg} {fg : List Nat} {body : Sv} : sFor it g fg body e = forK (it e) g fg body := rfl
@[simp] theorem forK_ok {a : Itr} {g : Tg} {fg : List Nat} {body : Sv} : forK (.ok a e) g fg body = forD g a.chk body fg a.items e := rfl
@[simp] theorem sWhile_ev {fuel : Env → Nat} {t : Env → Rs Bool} {fg : List Nat} {body : Sv} : sWhile fuel t fg body e = whD t body fg (fuel e) e := rfl
@[simp] theorem sAsg_ev {g : Tg} : sAsg g f e = asgK g (f e) := rfl
@[simp] theorem asgK_ok {g : Tg} : asgK g (.ok (.d x) e) = nxO (g x e) := rfl
@[simp] theorem nxO_some : nxO (some e) = .nx e := rfl
@[simp] theorem tgName_ev : tgName i x e = some (e.setS i (some (.d x))) := rfl
@[simp] theorem tgTup_ev {gs : List Tg} {ds : List D} : tgTup gs (.tup ds) e = tgL gs ds e := rfl
@[simp] theorem tgL_nil : tgL [] [] e = some e := rfl
@[simp] theorem tgL_cons {g : Tg} {gs : List Tg} {ds : List D} : tgL (g :: gs) (x :: ds) e = (match g x e with | some e1 => tgL gs ds e1 | none => none) := rfl
@[simp] theorem sSetI_ev {fo fi fv : Ev} : sSetI fo fi fv e = siK fo fi (fv e) := rfl
@[simp] theorem siK_ok {fo fi : Ev} : siK fo fi (.ok w e) = siK2 (wl e w) w (fo e) fi := rfl
@[simp] theorem siK2_ok {fi : Ev} : siK2 true w1 (.ok w2 e) fi = siK3 (wl e w1 && wl e w2) w1 w2 (fi e) := rfl
@[simp] theorem siK3_ok {o i : W} : siK3 true w o (.ok i e) = kSetI w o i e := rfl
@[simp] theorem kSetI_ev {k : Int} : kSetI w (.loc n) (.d (.int k)) e = siK4 (e.cell n) n k w e := rfl
@[simp] theorem siK4_ok {c : Cell} {k : Int} : siK4 (some c) n k w e = nxC n (setC c k w) e := rfl
@[simp] theorem nxC_some {c : Cell} : nxC n (some c) e = .nx (e.setC n (some c)) := rfl
@[simp] theorem setC_lst {xs : List D} {k : Int} : setC (.lst xs) k (.d y) = (ixN xs.length k).map fun j => Cell.lst (xs.set j y) := by show (match ixN xs.length k with | some j => some (Cell.lst (xs.set j y)) | none => none) = _; cases ixN xs.length k <;> rfl
@[simp] theorem sSetF_ev {C : Addr} {s : Str} {fo fv : Ev} : sSetF C s fo fv e = sfK C s fo (fv e) := rfl
@[simp] theorem sfK_ok {C : Addr} {s : Str} {fo : Ev} : sfK C s fo (.ok w e) = sfK2 C s (wl e w) w (fo e) := rfl
@[simp] theorem sfK2_ok {C : Addr} {s : Str} : sfK2 C s true w1 (.ok w2 e) = kSetF C s w1 w2 e := rfl
@[simp] theorem sAug_ev {g : D → D → Option D} : sAug i g f e = agK i g (e.slot i) (f e) := rfl
@[simp] theorem agK_ok {g : D → D → Option D} : agK i g (some (.d x)) (.ok (.d y) e) = agK2 i (g x y) e := rfl
@[simp] theorem agK2_ok : agK2 i (some x) e = .nx (e.setS i (some (.d x))) := rfl
@[simp] theorem sFrz_ev {f : Sv} : sFrz k f e = fzK (frz k e) f := rfl
@[simp] theorem fzK_ok {f : Sv} : fzK (some e) f = f e := rfl
@[simp] theorem eLc_ev {it : Env → Rs Itr} {g : Tg} {t : Env → Rs Bool} {f : Ev} {keep : Bool} {vs : List Nat} : eLc it g t f k keep vs e = lcK (it e) g t f k keep vs := rfl
@[simp] theorem lcK_ok {a : Itr} {g : Tg} {t : Env → Rs Bool} {f : Ev} {keep : Bool} {vs : List Nat} : lcK (.ok a e) g t f k keep vs = lcK2 (e.open k) (lcD g a.chk t f k vs a.items (e.setC k (some (.lst [])))) keep k := rfl
@[simp] theorem lcK2_ok {keep : Bool} : lcK2 true (.ok () e) keep k = endL keep k e := rfl
@[simp] theorem mkF_ev {N m r : Nat} {f : Sv} {cs} : mkF N m r f ws cs = mfK (f (env0 N m ws cs)) cs.length r := rfl
@[simp] theorem mfK_rt {n x : Nat} : mfK (.rt w e) n x = okC (takeC (max n x) e.M) w := rfl
@[simp] theorem mfK_nx {n x : Nat} : mfK (.nx e) n x = okC (takeC (max n x) e.M) (.d .non) := rfl
@[simp] theorem mfK_exn {n x : Nat} {z : Xn} : mfK (.exn z e) n x = exC (takeC n e.M) z := rfl
@[simp] theorem okC_some {cs} : okC (some cs) w = .ok w cs := rfl
@[simp] theorem exC_some {cs} {z : Xn} : exC (some cs) z = .exn z cs := rfl
@[simp] theorem takeC_zero {M} : takeC 0 M = some [] := rfl
@[simp] theorem takeC_succ {M c} : takeC (n + 1) (some c :: M) = (match takeC n M with | some cs => some (c :: cs) | none => none) := rfl
/-! data operations at known shapes -/
theorem atI_nat {l : List α} {n : Nat} : atI l (n : Int) = l[n]? := by
  unfold atI ixN
  by_cases h : n < l.length
  · simp [h]
  · simp [h]
@[simp] theorem atI_0 {a : α} {l : List α} : atI (a :: l) 0 = some a := atI_nat (n := 0)
@[simp] theorem atI_1 {a b : α} {l : List α} : atI (a :: b :: l) 1 = some b := atI_nat (n := 1)
@[simp] theorem atI_2 {a b c : α} {l : List α} : atI (a :: b :: c :: l) 2 = some c := atI_nat (n := 2)
@[simp] theorem atI_3 {a b c d : α} {l : List α} : atI (a :: b :: c :: d :: l) 3 = some d := atI_nat (n := 3)
@[simp] theorem atI_4 {a b c d f : α} {l : List α} : atI (a :: b :: c :: d :: f :: l) 4 = some f := atI_nat (n := 4)
theorem atI_pos {l : List α} {i : Int} (h0 : 0 ≤ i) : atI l i = l[i.toNat]? := by
  have := atI_nat (l := l) (n := i.toNat)
  rwa [Int.toNat_of_nonneg h0] at this
theorem atI_last {l : List α} : atI l (-1) = l[l.length - 1]? := by
  unfold atI ixN
  cases l with
  | nil => simp
  | cons a l =>
    simp
    rw [if_pos (by omega)]
    have e : (-1 + ((l.length : Int) + 1)).toNat = l.length := by omega
    rw [e]
    simp
@[simp] theorem addD_int {i j : Int} : addD (.int i) (.int j) = some (.int (i + j)) := rfl
@[simp] theorem addD_str {i j : Str} : addD (.str i) (.str j) = if i.length + j.length ≤ sizeLine then some (.str (i ++ j)) else none := rfl
@[simp] theorem addD_lst {i j : List D} : addD (.lst i) (.lst j) = if i.length + j.length ≤ sizeLine then some (.lst (i ++ j)) else none := rfl
@[simp] theorem addD_tup {i j : List D} : addD (.tup i) (.tup j) = if i.length + j.length ≤ sizeLine then some (.tup (i ++ j)) else none := rfl
@[simp] theorem subD_int {i j : Int} : subD (.int i) (.int j) = some (.int (i - j)) := rfl
@[simp] theorem addI_int {i j : Int} : addI (.int i) (.int j) = some (.int (i + j)) := rfl
@[simp] theorem mulD_int {i j : Int} : mulD (.int i) (.int j) = if CMul i j then some (.int (i * j)) else none := by
  show (match (if CMul i j then some (i * j) else none) with | some k => some (D.int k) | none => none) = _
  split <;> simp_all
@[simp] theorem mulD_lst {i : List D} {j : Int} : mulD (.lst i) (.int j) = if -(2 ^ 63) ≤ j ∧ j < 2 ^ 63 ∧ i.length * j.toNat ≤ sizeLine then some (.lst (List.replicate j.toNat i).flatten) else none := rfl
theorem intD_if {c : Int → Int → Prop} [∀ i j, Decidable (c i j)] {f : Int → Int → Int} {i j : Int} : intD (fun i j => if c i j then some (f i j) else none) (.int i) (.int j) = if c i j then some (.int (f i j)) else none := by
  show (match (if c i j then some (f i j) else none) with | some k => some (D.int k) | none => none) = _
  split <;> simp_all
@[simp] theorem fdivD_int {i j : Int} : fdivD (.int i) (.int j) = if CDivN i j then some (.int (i.fdiv j)) else none := intD_if
@[simp] theorem modD_int {i j : Int} : modD (.int i) (.int j) = if j ≠ 0 then some (.int (i.fmod j)) else none := intD_if (c := fun _ j => j ≠ 0)
@[simp] theorem powD_int {i j : Int} : powD (.int i) (.int j) = if CPow i j then some (.int (i ^ j.toNat)) else none := intD_if
@[simp] theorem shlD_int {i j : Int} : shlD (.int i) (.int j) = if CPow i j then some (.int (i * 2 ^ j.toNat)) else none := intD_if
@[simp] theorem shrD_int {i j : Int} : shrD (.int i) (.int j) = if 0 ≤ j then some (.int (i / 2 ^ j.toNat)) else none := intD_if (c := fun _ j => 0 ≤ j)
@[simp] theorem andD_int {i j : Int} : andD (.int i) (.int j) = some (.int (Builtin.bitAnd i j)) := rfl
@[simp] theorem maxD_int {i j : Int} : maxD (.int i) (.int j) = some (.int (if j > i then j else i)) := rfl
@[simp] theorem minD_int {i j : Int} : minD (.int i) (.int j) = some (.int (if j < i then j else i)) := rfl
@[simp] theorem cmpB_int {p : Int → Int → Bool} {i j : Int} : cmpB p (.int i) (.int j) = some (p i j) := rfl
@[simp] theorem ltB_int {i j : Int} : ltB (.int i) (.int j) = some (decide (i < j)) := rfl
@[simp] theorem ltB_str {i j : Str} : ltB (.str i) (.str j) = some (strLt i j) := rfl
@[simp] theorem eqB_int {i j : Int} : eqB (.int i) (.int j) = some (i == j) := rfl
@[simp] theorem eqB_bl {i j : Bool} : eqB (.bl i) (.bl j) = some (i == j) := rfl
@[simp] theorem eqB_str {i j : Str} : eqB (.str i) (.str j) = some (i == j) := rfl
@[simp] theorem neB_ev {x y : D} : neB x y = (eqB x y).map (!·) := by show (match eqB x y with | some b => some (!b) | none => none) = _; cases eqB x y <;> rfl
@[simp] theorem blG_ev {g : D → D → Option Bool} {x y : D} : blG g x y = (g x y).map D.bl := by show (match g x y with | some z => some (D.bl z) | none => none) = _; cases g x y <;> rfl
@[simp] theorem intOf_int {i : Int} : intOf (.int i) = some (.int i) := rfl
@[simp] theorem intOf_bl {i : Bool} : intOf (.bl i) = some (.int (if i then 1 else 0)) := rfl
@[simp] theorem lenD_lst {i : List D} : lenD (.lst i) = some (.int i.length) := rfl
@[simp] theorem lenD_rd {i : List D} : lenD (.rd i) = some (.int i.length) := rfl
@[simp] theorem lenD_tup {i : List D} : lenD (.tup i) = some (.int i.length) := rfl
@[simp] theorem lenD_str {i : Str} : lenD (.str i) = if i.length ≤ sizeLine then some (.int i.length) else none := rfl
@[simp] theorem lenC_lst {i : List D} : lenC (.lst i) = some (.int i.length) := rfl
@[simp] theorem lenC_lw {i : List W} : lenC (.lw i) = some (.int i.length) := rfl
@[simp] theorem ixDD_lst {l : List D} {i : Int} : ixDD (.lst l) i = atI l i := rfl
@[simp] theorem ixDD_rd {l : List D} {i : Int} : ixDD (.rd l) i = atI l i := rfl
@[simp] theorem ixDD_tup {l : List D} {i : Int} : ixDD (.tup l) i = atI l i := rfl
@[simp] theorem slD_lst {l : List D} {i j : Option Int} : slD (.lst l) i j = some (.lst (cutL l i j)) := rfl
@[simp] theorem slD_rd {l : List D} {i j : Option Int} : slD (.rd l) i j = some (.lst (cutL l i j)) := rfl
@[simp] theorem slD_tup {l : List D} {i j : Option Int} : slD (.tup l) i j = some (.tup (cutL l i j)) := rfl
@[simp] theorem isiD_int {T : String} {i : Int} : isiD T (.int i) = (kitB "int" T).map D.bl := by show (match kitB "int" T with | some k => some (D.bl k) | none => none) = _; cases kitB "int" T <;> rfl
@[simp] theorem isiD_bl {T : String} {i : Bool} : isiD T (.bl i) = (kitB "bool" T).map D.bl := by show (match kitB "bool" T with | some k => some (D.bl k) | none => none) = _; cases kitB "bool" T <;> rfl
@[simp] theorem isiD_str {T : String} {i : Str} : isiD T (.str i) = (kitB "str" T).map D.bl := by show (match kitB "str" T with | some k => some (D.bl k) | none => none) = _; cases kitB "str" T <;> rfl
@[simp] theorem isiD_non {T : String} : isiD T .non = (kitB "NoneType" T).map D.bl := by show (match kitB "NoneType" T with | some k => some (D.bl k) | none => none) = _; cases kitB "NoneType" T <;> rfl
@[simp] theorem isiD_lst {T : String} {i : List D} : isiD T (.lst i) = (kitB "list" T).map D.bl := by show (match kitB "list" T with | some k => some (D.bl k) | none => none) = _; cases kitB "list" T <;> rfl
@[simp] theorem isiD_tup {T : String} {i : List D} : isiD T (.tup i) = (kitB "tuple" T).map D.bl := by show (match kitB "tuple" T with | some k => some (D.bl k) | none => none) = _; cases kitB "tuple" T <;> rfl
@[simp] theorem isiD_dic {T : String} {i} : isiD T (.dic i) = (kitB "dict" T).map D.bl := by show (match kitB "dict" T with | some k => some (D.bl k) | none => none) = _; cases kitB "dict" T <;> rfl
@[simp] theorem truD_bl {k : Bool} : truD (.bl k) = some k := rfl
@[simp] theorem truD_int {k : Int} : truD (.int k) = some (k != 0) := rfl
@[simp] theorem truD_lst {l : List D} : truD (.lst l) = some (!l.isEmpty) := rfl
@[simp] theorem truD_non : truD .non = some false := rfl
@[simp] theorem isNB_ev {x : D} : isNB x .non = some (isNoneD x) := rfl
@[simp] theorem notNB_ev {x : D} : notNB x .non = some (!isNoneD x) := rfl
@[simp] theorem toDs_nil : toDs [] = some [] := rfl
@[simp] theorem toDs_d {ws : List W} : toDs (.d x :: ws) = (toDs ws).map (x :: ·) := rfl
@[simp] theorem kDisp_ev {keep : Option Nat} : kDisp keep ws e = if ws.length ≤ sizeLine then
    (match toDs ws with
      | some ds => newL keep ds e
      | none => match keep with
        | some k => if (ws.all fun w => !isLoc k w) = true then newC k (.lw ws) e else .fail
        | none => .fail)
  else .fail := rfl
@[simp] theorem kTup_ev : kTup ws e = if ws.length ≤ sizeLine then
    (match toDs ws with
      | some ds => .ok (.d (.tup ds)) e
      | none => .fail)
  else .fail := rfl
@[simp] theorem newL_none {xs : List D} : newL none xs e = .ok (.d (.lst xs)) e := rfl
@[simp] theorem newL_some {xs : List D} : newL (some k) xs e = newC k (.lst xs) e := rfl
@[simp] theorem newC_ev {c : Cell} : newC k c e = if e.open k = true then .ok (.loc k) (e.setC k (some c)) else .fail := rfl
@[simp] theorem kItL_lst {l : List D} : kItL (.d (.lst l)) e = .ok ⟨l, fun _ => True⟩ e := rfl
@[simp] theorem kItL_rd {l : List D} : kItL (.d (.rd l)) e = .ok ⟨l, fun _ => True⟩ e := rfl
@[simp] theorem kRng1_ev {j : Int} : kRng1 [.d (.int j)] e = if -(2 ^ 62) ≤ j ∧ j < 2 ^ 62 then .ok ⟨rangeL 0 j.toNat, fun _ => True⟩ e else .fail := rfl
@[simp] theorem kRng2_ev {i j : Int} : kRng2 [.d (.int i), .d (.int j)] e = if -(2 ^ 62) ≤ i ∧ i < 2 ^ 62 ∧ -(2 ^ 62) ≤ j ∧ j < 2 ^ 62 then .ok ⟨rangeL i (j - i).toNat, fun _ => True⟩ e else .fail := rfl
@[simp] theorem kEnum_lst {l : List D} : kEnum [.d (.lst l)] e = .ok ⟨enumL l, fun _ => True⟩ e := rfl
theorem sizeL : sizeLine = 16777216 := sizeLine_eq
end
end Dl
end
section
set_option Elab.async false
set_option linter.all false
set_option maxRecDepth 100000
set_option maxHeartbeats 4000000
namespace Dl
open PySem L2
/-! a law: a list of ints comes in, True comes out -/
def spLaw (K : PySem.W.Frag) : Sp := fun vs H Q _ => ∃ (a : Addr) (ns : List Int), vs = [.ref a] ∧ SqL K H a (ns.map V.int) ∧ ns.length ≤ 63 ∧ ∀ H', Q (.bl true) H'
theorem law_sp {K : PySem.W.Frag} {F : Fd} (h : ∀ ns : List Int, ns.length ≤ 63 → ∃ cs, F [.d (.rd (ns.map .int))] [] = .ok (.d (.bl true)) cs) : ∀ vs H Q E, spLaw K vs H Q E → spD K 1 F vs H Q E := fun vs H Q E ⟨a, ns, e, hS, hl, q⟩ => by
  subst e
  obtain ⟨cs, hF⟩ := h ns hl
  refine ⟨rfl, H, fun _ => a, [.d (.rd (ns.map .int))], [], Same.refl H, .cons (.rd hS RepL.ints) .nil, fun i c hc => by simp at hc, fun i hi => absurd hi (Nat.not_lt_zero _), fun i j hi => absurd hi (Nat.not_lt_zero _), ?_⟩
  rw [hF]
  intro R' ρ' v H' _ rv
  have rv : Rep K R' (.bl true) v := rv
  cases rv
  exact q H'
theorem walk {l : PySem.W.OpenLaw} {q : Program} {loose : List Str} {XP : (Str → Option Value) → Heap → Prop} {YP : World → Heap → Prop} {d : DefRec} {K : Params → PySem.W.Frag} {k : Nat} {x : Str} (hn : l.most = some 63) (hdf : d.params.defaults = []) (hr : Room k callerA)
    (hY : ∀ (w : World) (h : Heap), YP w h → (K w.params).In h)
    (F : ∀ (w : World) (mg : Str → Option Value) (fa : Addr) (h : Heap), (K w.params).In h → h.Ns mainGlobals mg → mg d.name = some (.ref fa) →
      ∃ fd : FuncData, (∀ (s : Shared) (u : Value), BindsTo s fd ⟨[u], []⟩ [(x, u)]) ∧ ∀ base : Heap, (K w.params).In base → base.Ns mainGlobals mg → FnOk l.prog w (K w.params) mg base (L2.CX l.prog w) k fa fd [x] (spLaw (K w.params))) :
    PySem.W.WalkO q loose XP YP l.row.toRowW d [] (fun f vs => PySem.call f vs) :=
  L2.walk_of (n := 63) (k := k) (x := x) (CX := fun w => L2.CX l.prog w) (sp := fun w => spLaw (K w.params)) hn (by decide) hdf hr hY F (fun _ _ a ns hl _ hS => ⟨a, ns, rfl, hS, hl, fun _ => rfl⟩) fun w H s e s' h => by
    obtain ⟨_, _, _, _, _, _, _, _, _, _, _, _, z⟩ := h
    exact z
/-- a def of which nothing is promised -/
theorem fn_fail {P : Program} {w : World} {K : PySem.W.Frag} {mg : Str → Option Value} {base : Heap} {CX : CXT} {k n : Nat} {f : Addr} {fd : FuncData} {ps : List Str} (h : n = ps.length) : FnOk P w K mg base CX k f fd ps (spD K n (fun _ _ => .fail)) :=
  ⟨fun vs H Q E q => q.1.trans h, fun A outer s H args us vs Q E hr e0 hb r q => by
    obtain ⟨_, _, _, _, _, _, _, _, _, _, z⟩ := q
    exact z.elim⟩
/-! loops -/
section
variable {g : Tg} {chk : Env → Prop} {body : Sv} {fg : List Nat}
theorem forD_inv (I : Nat → Env → Prop) : ∀ (items : List D) (j : Nat) (e : Env), I j e →
    (∀ i d e, items[i]? = some d → I (j + i) e → chk e ∧ ∃ e1 e2, g d e = some e1 ∧ (body e1 = .nx e2 ∨ body e1 = .ct e2) ∧ I (j + i + 1) (e2.clr fg)) → (∀ e, I (j + items.length) e → chk e) →
    ∃ e', forD g chk body fg items e = .nx e' ∧ I (j + items.length) e'
  | [], j, e, h, _, hc => by
    refine ⟨e, ?_, h⟩
    unfold forD
    rw [if_pos (hc e h)]
  | d :: ds, j, e, h, hs, hc => by
    obtain ⟨h1, e1, e2, h2, h3, h4⟩ := hs 0 d e rfl h
    have h5 : ∃ e', forD g chk body fg ds (e2.clr fg) = .nx e' ∧ I (j + 1 + ds.length) e' := by
      refine forD_inv I ds (j + 1) (e2.clr fg) h4 (fun i d' e' hd hi => ?_) fun e' hi => hc e' ?_
      · have q := hs (i + 1) d' e' (by simpa using hd) (by rw [show j + (i + 1) = j + 1 + i by omega]; exact hi)
        obtain ⟨q1, e3, e4, q2, q3, q4⟩ := q
        exact ⟨q1, e3, e4, q2, q3, by rw [show j + 1 + i + 1 = j + (i + 1) + 1 by omega]; exact q4⟩
      · rw [show j + (d :: ds).length = j + 1 + ds.length by rw [List.length_cons]; omega]; exact hi
    obtain ⟨e', h6, h7⟩ := h5
    refine ⟨e', ?_, by rw [show j + (d :: ds).length = j + 1 + ds.length by rw [List.length_cons]; omega]; exact h7⟩
    unfold forD
    rw [if_pos h1, h2]
    rcases h3 with h3 | h3
    · simp only [h3]; exact h6
    · simp only [h3]; exact h6
/-- a for that goes through: I of the turn and the state -/
theorem for_inv {items : List D} {e : Env} (I : Nat → Env → Prop) (h0 : I 0 e) (hs : ∀ i d e, items[i]? = some d → I i e → chk e ∧ ∃ e1 e2, g d e = some e1 ∧ (body e1 = .nx e2 ∨ body e1 = .ct e2) ∧ I (i + 1) (e2.clr fg)) (hc : ∀ e, I items.length e → chk e) :
    ∃ e', forD g chk body fg items e = .nx e' ∧ I items.length e' := by
  have q := forD_inv (g := g) (chk := chk) (body := body) (fg := fg) I items 0 e h0 (fun i d e hd hi => by
    rw [Nat.zero_add] at hi ⊢
    exact hs i d e hd hi) (fun e hi => hc e (by rw [Nat.zero_add] at hi; exact hi))
  rwa [Nat.zero_add] at q
theorem lcD_inv {t : Env → Rs Bool} {f : Ev} {k : Nat} {vs : List Nat} (I : Nat → Env → Prop) : ∀ (items : List D) (j : Nat) (e : Env), I j e →
    (∀ i d e, items[i]? = some d → I (j + i) e → chk e ∧ ∃ e1, g d (e.clr vs) = some e1 ∧
      ((∃ e2 w e3 e4, t e1 = .ok true e2 ∧ f e2 = .ok w e3 ∧ pushK k w e3 = some e4 ∧ I (j + i + 1) (e4.clr vs)) ∨ ∃ e2, t e1 = .ok false e2 ∧ I (j + i + 1) (e2.clr vs))) → (∀ e, I (j + items.length) e → chk e) →
    ∃ e', lcD g chk t f k vs items e = .ok () e' ∧ I (j + items.length) e'
  | [], j, e, h, _, hc => by
    refine ⟨e, ?_, h⟩
    unfold lcD
    rw [if_pos (hc e h)]
  | d :: ds, j, e, h, hs, hc => by
    obtain ⟨h1, e1, h2, h3⟩ := hs 0 d e rfl h
    have go : ∀ e5, I (j + 1) e5 → ∃ e', lcD g chk t f k vs ds e5 = .ok () e' ∧ I (j + 1 + ds.length) e' := fun e5 h4 => by
      refine lcD_inv I ds (j + 1) e5 h4 (fun i d' e' hd hi => ?_) fun e' hi => hc e' ?_
      · have q := hs (i + 1) d' e' (by simpa using hd) (by rw [show j + (i + 1) = j + 1 + i by omega]; exact hi)
        rw [show j + (i + 1) + 1 = j + 1 + i + 1 by omega] at q
        exact q
      · rw [show j + (d :: ds).length = j + 1 + ds.length by rw [List.length_cons]; omega]; exact hi
    rcases h3 with ⟨e2, w, e3, e4, q1, q2, q3, q4⟩ | ⟨e2, q1, q4⟩
    · obtain ⟨e', h6, h7⟩ := go _ q4
      refine ⟨e', ?_, by rw [show j + (d :: ds).length = j + 1 + ds.length by rw [List.length_cons]; omega]; exact h7⟩
      unfold lcD
      rw [if_pos h1, h2]
      simp only [q1, Rs.bindF, if_true, q2, q3]
      exact h6
    · obtain ⟨e', h6, h7⟩ := go _ q4
      refine ⟨e', ?_, by rw [show j + (d :: ds).length = j + 1 + ds.length by rw [List.length_cons]; omega]; exact h7⟩
      unfold lcD
      rw [if_pos h1, h2]
      simp only [q1, Rs.bindF]
      rw [if_neg Bool.false_ne_true]
      exact h6
theorem lc_inv {t : Env → Rs Bool} {f : Ev} {k : Nat} {vs : List Nat} {items : List D} {e : Env} (I : Nat → Env → Prop) (h0 : I 0 e)
    (hs : ∀ i d e, items[i]? = some d → I i e → chk e ∧ ∃ e1, g d (e.clr vs) = some e1 ∧
      ((∃ e2 w e3 e4, t e1 = .ok true e2 ∧ f e2 = .ok w e3 ∧ pushK k w e3 = some e4 ∧ I (i + 1) (e4.clr vs)) ∨ ∃ e2, t e1 = .ok false e2 ∧ I (i + 1) (e2.clr vs))) (hc : ∀ e, I items.length e → chk e) :
    ∃ e', lcD g chk t f k vs items e = .ok () e' ∧ I items.length e' := by
  have q := lcD_inv (g := g) (chk := chk) (t := t) (f := f) (k := k) (vs := vs) I items 0 e h0 (fun i d e hd hi => by
    rw [Nat.zero_add] at hi ⊢
    exact hs i d e hd hi) (fun e hi => hc e (by rw [Nat.zero_add] at hi; exact hi))
  rwa [Nat.zero_add] at q
/-- a while that goes through: an invariant and a measure -/
theorem wh_inv {t : Env → Rs Bool} (I : Env → Prop) (μ : Env → Nat) (Z : Env → Prop)
    (hs : ∀ e, I e → (∃ e1, t e = .ok false e1 ∧ Z e1) ∨ ∃ e1 e2, t e = .ok true e1 ∧ (body e1 = .nx e2 ∨ body e1 = .ct e2) ∧ I (e2.clr fg) ∧ μ (e2.clr fg) < μ e) : ∀ (n : Nat) (e : Env), I e → μ e < n → ∃ e', whD t body fg n e = .nx e' ∧ Z e'
  | 0, e, _, h => absurd h (Nat.not_lt_zero _)
  | n + 1, e, h, hn => by
    unfold whD
    rcases hs e h with ⟨e1, h1, h2⟩ | ⟨e1, e2, h1, h2, h3, h4⟩
    · rw [h1]
      exact ⟨e1, rfl, h2⟩
    · rw [h1]
      obtain ⟨e', h5, h6⟩ := wh_inv I μ Z hs n (e2.clr fg) h3 (by omega)
      refine ⟨e', ?_, h6⟩
      simp only [Rs.to, if_true]
      rcases h2 with h2 | h2
      · simp only [h2]; exact h5
      · simp only [h2]; exact h5
end
end Dl
end
section
set_option Elab.async false
set_option linter.all false
set_option maxRecDepth 100000
set_option maxHeartbeats 4000000
namespace Dl
open PySem L2
/-- the end over a head by facts: the context may hang on the world -/
theorem walkE {l : PySem.W.OpenLaw} {q : Program} {loose : List Str} {XP : (Str → Option Value) → Heap → Prop} {YP : World → Heap → Prop} {d : DefRec} {k : Nat} {x : Str} (hn : l.most = some 63) (hdf : d.params.defaults = []) (hr : Room k callerA)
    (F : ∀ (w : World) (mg : Str → Option Value) (fa : Addr) (h : Heap), YP w h → h.Ns mainGlobals mg → mg d.name = some (.ref fa) →
      ∃ (K : PySem.W.Frag) (fd : FuncData), K.In h ∧ (∀ (s : Shared) (u : Value), BindsTo s fd ⟨[u], []⟩ [(x, u)]) ∧
        ∀ base : Heap, K.In base → base.Ns mainGlobals mg → FnOk l.prog w K mg base (L2.CX l.prog w) k fa fd [x] (spLaw K)) :
    PySem.W.WalkO q loose XP YP l.row.toRowW d [] (fun f vs => PySem.call f vs) := by
  refine Att.attach_call hn hdf fun w s₀ s₁ mg mb fa o pm cd doc a vs ns G Y ho hd hcd hmg hobj hints hlen hg => ?_
  obtain ⟨K, fd, KX, hb, hF⟩ := F w mg fa _ Y G.T.g hmg
  exact L2.law_call KX G.T.g G.T.b G.T.builtins G.T.nolimit hg hobj hints (Nat.le_trans hlen (by decide)) hr hF hb (fun H hO hS => ⟨a, ns, rfl, hS, hlen, fun _ => rfl⟩) fun H e s' h => by
    obtain ⟨_, _, _, _, _, _, _, _, _, _, _, _, z⟩ := h
    exact z
theorem binds_one {K : PySem.W.Frag} {x qual p : Str} {params : Arguments} {body : List Stmt} {scope : Scope} {kws : List (Str × V)} {f : Addr} {fd : FuncData} (F : FunD K x qual params body scope [] kws f fd)
    (h : ∀ (kV doc pm : Value) (an : Option Addr) (cdv ct : Value) (us : List Value), us.length = 1 → bindArgs (PySem.W.fnOf x qual params body scope .none kV doc pm an cdv ct) ⟨us, []⟩ = pure ([p].zip us)) : ∀ (s : Shared) (u : Value), BindsTo s fd ⟨[u], []⟩ [(p, u)] := fun s u => F.bindsA (ps := [p]) h s [u] rfl
end Dl
end
section
set_option Elab.async false
set_option linter.all false
set_option maxRecDepth 100000
set_option maxHeartbeats 4000000
namespace Dl
open PySem L2
section
variable {e : Env} {w w1 w2 : W} {ws : List W} {x y : D} {n i k : Nat} {keep : Option Nat}
@[simp] theorem kEnum_loc : kEnum [.loc n] e = (match e.cell n with
    | some (.lst xs) => .ok ⟨enumL xs, fun e' => e'.cell n = some (.lst xs) ∧ n < e'.np⟩ e
    | _ => .fail) := rfl
@[simp] theorem kItL_loc : kItL (.loc n) e = (match e.cell n with
    | some (.lst xs) => .ok ⟨xs, fun e' => e'.cell n = some (.lst xs) ∧ n < e'.np⟩ e
    | _ => .fail) := rfl
@[simp] theorem kList_lst {xs : List D} : kList keep [.d (.lst xs)] e = newL keep xs e := rfl
@[simp] theorem kList_rd {xs : List D} : kList keep [.d (.rd xs)] e = newL keep xs e := rfl
@[simp] theorem kList_tup {xs : List D} : kList keep [.d (.tup xs)] e = newL keep xs e := rfl
@[simp] theorem kList_loc : kList keep [.loc n] e = (match e.cell n with | some (.lst xs) => newL keep xs e | _ => .fail) := rfl
@[simp] theorem kSl_loc {lo hi : Option Int} : kSl (.loc n) lo hi e = (match e.cell n with | some (.lst xs) => .ok (.d (.lst (cutL xs lo hi))) e | _ => .fail) := rfl
@[simp] theorem kAppend_ev : kAppend (.loc n) [w] e = (match e.cell n with
    | some c => match pushC c w with
      | some c' => .ok (.d .non) (e.setC n (some c'))
      | none => .fail
    | none => .fail) := rfl
@[simp] theorem pushC_d {xs : List D} : pushC (.lst xs) (.d y) = if xs.length < sizeLine then some (.lst (xs ++ [y])) else none := rfl
@[simp] theorem isLst_loc : isLst e (.loc n) = (match e.cell n with | some (.lst _) => true | some (.lw _) => true | _ => false) := rfl
@[simp] theorem kSetF_ev {C : Addr} {f : Str} : kSetF C f w (.loc n) e = (match e.cell n with
    | some (.obj C' fs) => if C' = C ∧ fs.length < 1000 then .nx (e.setC n (some (.obj C' (putW f w fs)))) else .fail
    | _ => .fail) := rfl
@[simp] theorem putW_nil {f : Str} : putW f w [] = [(f, w)] := rfl
@[simp] theorem putW_cons {f g : Str} {r} : putW f w ((g, w1) :: r) = if g = f then (g, w) :: r else (g, w1) :: putW f w r := rfl
@[simp] theorem fldO_loc {C : Addr} {f : Str} : fldO C f (.loc n) e = (match e.cell n with | some (.obj C' fs) => if C' = C then fs.lookup f else none | _ => none) := rfl
@[simp] theorem fldO_obj {C C' : Addr} {f : Str} {fs} : fldO C f (.d (.obj C' fs)) e = if C' = C then (match fs.lookup f with | some d => some (.d d) | none => none) else none := rfl
theorem lookup_if {α : Type} {f g : Str} {a : α} {r : List (Str × α)} : List.lookup f ((g, a) :: r) = if f = g then some a else r.lookup f := by
  rw [List.lookup]
  by_cases h : f = g
  · subst h; simp
  · rw [if_neg h]
    have : (f == g) = false := by simp [h]
    rw [this]
@[simp] theorem insD_obj {C C' : Addr} {mn : Str} {fs} : insD C mn e (.d (.obj C' fs)) = (decide (C' = C) && hasNo mn fs) := rfl
@[simp] theorem insD_loc {C : Addr} {mn : Str} : insD C mn e (.loc n) = (match e.cell n with | some (.obj C' fs) => decide (C' = C) && hasNo mn fs | _ => false) := rfl
@[simp] theorem hasNo_nil {α : Type} {mn : Str} : hasNo mn ([] : List (Str × α)) = true := rfl
theorem hasNo_if {α : Type} {mn g : Str} {a : α} {r : List (Str × α)} : hasNo mn ((g, a) :: r) = (!decide (g = mn) && hasNo mn r) := by
  show (!(g == mn) && hasNo mn r) = _
  by_cases h : g = mn
  · subst h; simp
  · simp [h]
@[simp] theorem frz_ev {ws M np} : frz k ⟨ws, M, np⟩ = if np ≤ k then
    (match Env.cell ⟨ws, M, np⟩ k with
    | some c => match c.toD with
      | some x => some ⟨mapO (substW k x) ws, (mapO (Cell.subst k x) M).set k none, np⟩
      | none => none
    | none => none)
  else none := rfl
@[simp] theorem mapO_nil {α β : Type} {f : α → β} : mapO f [] = [] := rfl
@[simp] theorem mapO_some {α β : Type} {f : α → β} {a r} : mapO f (some a :: r) = some (f a) :: mapO f r := rfl
@[simp] theorem mapO_none {α β : Type} {f : α → β} {r} : mapO f (none :: r) = none :: mapO f r := rfl
@[simp] theorem substW_loc {x} : substW k x (.loc n) = if n = k then .d x else .loc n := rfl
@[simp] theorem substW_d {x y} : substW k x (.d y) = .d y := rfl
@[simp] theorem subst_obj {x C fs} : Cell.subst k x (.obj C fs) = .obj C (fs.map fun f => (f.1, substW k x f.2)) := rfl
@[simp] theorem subst_lw {x us} : Cell.subst k x (.lw us) = .lw (us.map (substW k x)) := rfl
@[simp] theorem subst_lst {x xs} : Cell.subst k x (.lst xs) = .lst xs := rfl
@[simp] theorem toD_lst {xs} : Cell.toD (.lst xs) = some (.lst xs) := rfl
@[simp] theorem toD_obj {C fs} : Cell.toD (.obj C fs) = (toDf fs).map (.obj C) := rfl
@[simp] theorem toDf_nil : toDf [] = some [] := rfl
@[simp] theorem toDf_d {f : Str} {r} : toDf ((f, .d x) :: r) = (toDf r).map ((f, x) :: ·) := rfl
theorem kRng3_ok {a b c : Int} (h : RgC a b c (Builtin.Range.rangeSize a b c).toNat) : kRng3 [.d (.int a), .d (.int b), .d (.int c)] e = .ok ⟨rangeC a c (Builtin.Range.rangeSize a b c).toNat, fun _ => True⟩ e := if_pos h
@[simp] theorem endO_true : endO true k e = .ok (.loc k) e := rfl
@[simp] theorem endO_false : endO false k e = (match e.cell k with
  | some c => (match c.toD with | some x => if e.np ≤ k then .ok (.d x) (e.setC k none) else .fail | none => .fail)
  | none => .fail) := rfl
@[simp] theorem endL_ev {kp : Bool} : endL kp k e = (match e.cell k with
  | some (.lst xs) => if kp = true then .ok (.loc k) e else .ok (.d (.lst xs)) (e.setC k none)
  | _ => .fail) := rfl
@[simp] theorem pushK_ev : pushK k (.d y) e = (match e.cell k with | some (.lst acc) => if acc.length < sizeLine then some (e.setC k (some (.lst (acc ++ [y])))) else none | _ => none) := by
  unfold pushK
  cases e.cell k with
  | none => rfl
  | some c => cases c <;> rfl
end
section
variable {g : Tg} {chk : Env → Prop} {body : Sv} {fg : List Nat}
theorem for_at {items : List D} {e : Env} {q : SR} (hq : forD g chk body fg items e = q) (I : Nat → Env → Prop) (h0 : I 0 e) (hs : ∀ i d e, items[i]? = some d → I i e → chk e ∧ ∃ e1 e2, g d e = some e1 ∧ (body e1 = .nx e2 ∨ body e1 = .ct e2) ∧ I (i + 1) (e2.clr fg)) (hc : ∀ e, I items.length e → chk e) :
    ∃ e', q = .nx e' ∧ I items.length e' := by
  subst hq
  exact for_inv I h0 hs hc
/-- the simplest form: the state after i turns is told, the body goes through -/
theorem for_eq {items : List D} {q : SR} (E : Nat → Env) (hq : forD g chk body fg items (E 0) = q) (hs : ∀ i d, items[i]? = some d → chk (E i) ∧ ∃ e1 e2, g d (E i) = some e1 ∧ body e1 = .nx e2 ∧ e2.clr fg = E (i + 1)) (hc : chk (E items.length)) :
    q = .nx (E items.length) := by
  obtain ⟨e', h1, h2⟩ := for_at hq (fun i e => e = E i) rfl (fun i d e hd he => by
    subst he
    obtain ⟨h1, e1, e2, h2, h3, h4⟩ := hs i d hd
    exact ⟨h1, e1, e2, h2, .inl h3, h4⟩) (fun e he => by subst he; exact hc)
  rw [h1, h2]
theorem lc_at {t : Env → Rs Bool} {f : Ev} {k : Nat} {vs : List Nat} {items : List D} {e : Env} {q : Rs Unit} (hq : lcD g chk t f k vs items e = q) (I : Nat → Env → Prop) (h0 : I 0 e)
    (hs : ∀ i d e, items[i]? = some d → I i e → chk e ∧ ∃ e1, g d (e.clr vs) = some e1 ∧
      ((∃ e2 w e3 e4, t e1 = .ok true e2 ∧ f e2 = .ok w e3 ∧ pushK k w e3 = some e4 ∧ I (i + 1) (e4.clr vs)) ∨ ∃ e2, t e1 = .ok false e2 ∧ I (i + 1) (e2.clr vs))) (hc : ∀ e, I items.length e → chk e) :
    ∃ e', q = .ok () e' ∧ I items.length e' := by
  subst hq
  exact lc_inv I h0 hs hc
theorem wh_at {t : Env → Rs Bool} {n : Nat} {e : Env} {q : SR} (hq : whD t body fg n e = q) (I : Env → Prop) (μ : Env → Nat) (Z : Env → Prop) (h0 : I e) (hn : μ e < n)
    (hs : ∀ e, I e → (∃ e1, t e = .ok false e1 ∧ Z e1) ∨ ∃ e1 e2, t e = .ok true e1 ∧ (body e1 = .nx e2 ∨ body e1 = .ct e2) ∧ I (e2.clr fg) ∧ μ (e2.clr fg) < μ e) : ∃ e', q = .nx e' ∧ Z e' := by
  subst hq
  exact wh_inv I μ Z hs n e h0 hn
end
end Dl
end
section
set_option Elab.async false
set_option linter.all false
set_option maxRecDepth 100000
set_option maxHeartbeats 4000000
namespace Dl
open PySem L2
/-! raise of an own exception class whose __init__ stores one field -/
def spXI (C : Addr) (f : Str) : Sp := fun vs H Q _ => ∃ (a : Addr) (v : V), vs = [.ref a, v] ∧ H a = some (exo a C none) ∧ ∀ dx, H dx = none → dx ≠ a → Q .non (upd (upd H dx (exd dx [(f, v)])) a (exo a C (some dx)))
structure XCls (K : PySem.W.Frag) (C fI : Addr) (f : Str) : Prop where
  ox : OexC K C
  no : PySem.W.findIn K (.ref C) f = some none
  iC : PySem.W.findIn K (.ref C) "__init__" = some (some (.ref fI))
  tI : PySem.W.typeIn K (.ref fI) = some (.type "function")
def sRaise (C : Addr) (f : Str) (g : Ev) : Sv := fun e => match g e with
  | .ok (.d x) e1 => .exn ⟨C, some [(f, x)]⟩ e1
  | .exn x e1 => .exn x e1
  | _ => .fail
theorem del_upd {H1 : Hp} {a dx : Addr} {o1 o2 o3 o4 : HO} (na : H1 a = none) (hne : dx ≠ a) : upd (del (upd (upd (upd H1 a o1) dx o2) a o3) a) dx o4 = upd H1 dx o4 := by
  funext b
  by_cases h : b = dx
  · subst h
    rw [upd_same, upd_same]
  · rw [upd_ne h, upd_ne h]
    by_cases h2 : b = a
    · subst h2
      rw [del_same, na]
    · rw [del_ne h2, upd_ne h2, upd_ne h, upd_ne h2]
theorem passF {X : Cx} : Passes (L2.CX X.prog X.w) X (fun _ _ _ => False) := fun _ _ _ _ _ _ _ h => by
  obtain ⟨_, _, _, _, _, _, _, _, _, _, _, _, z⟩ := h
  exact z.elim
section
variable {X : Cx} {Wx : WX} {a : Expr} {pos pos2 p : Pos} {g : Ev} {C fI : Addr} {f cn : Str} {k : Nat} {fd : FuncData} {ps : List Str} {CX : CXT}
theorem s_raise (hc : X.calm = true) (T : XCls X.K C fI f) (F1 : FnOk X.prog X.w X.K X.mg X.base CX k fI fd ps (spXI C f)) (hr : Room (k + 1) X.A) (hb : Binds X.K fd ps []) (hx : Passes CX X (fun _ _ _ => False)) (tk : L2.Takes X Wx)
    (hg : Gl X cn) (hm : X.mg cn = some (.ref C)) (ha : PE X a (tD X.K Wx g)) (hdb : (cn == ("__debug__" : Str)) = false := by decide)
    (he : starEach [a] X.env = (false, eval a X.env) :: starEach [] X.env := by rfl) (hpl : (backTo pos (starEach [] X.env)).any (·.1) = false := by rfl) :
    PS X (.Raise (some (.Call (.Name cn p) [a] [] pos)) none pos2) (tS X.K Wx (sRaise C f g)) :=
  (ps_raise hc tk (pmk_oex T.ox T.iC T.tI F1 hr hb .nil hx hg hm (a_cons ha a_nil he) hdb he hpl)).imp fun D σ H h => by
    obtain ⟨b, R, ρ, e, m, q⟩ := h
    refine ⟨b, R, ρ, e, m, ?_⟩
    unfold sRaise at q
    cases hge : g e with
    | fail => rw [hge] at q; exact q.elim
    | exn x e1 =>
      rw [hge] at q
      have e2 : evA [g] e = .exn x e1 := by
        rw [evA_cons, hge]
        rfl
      rw [e2]
      exact q
    | ok w e1 =>
      rw [hge] at q
      cases w with
      | loc n => exact q.elim
      | d x =>
        have e2 : evA [g] e = .ok [.d x] e1 := by
          rw [evA_cons, hge]
          rfl
        rw [e2]
        intro R' ρ' vs H1 s l m' r
        obtain ⟨v, ev, rv⟩ := pair1 r
        subst ev
        have rv : Rep X.K R' x v := rv
        refine ⟨by simp, fun a na => ⟨a, v, rfl, upd_same, fun dx hdx hne => ⟨rfl, dx, [(f, v)], upd_same, by rw [upd_ne hne, upd_same], by rw [upd_ne hne] at hdx; exact hdx, ?_⟩⟩⟩
        have hd1 : H1 dx = none := by rw [upd_ne hne] at hdx; exact hdx
        show Wx (.ref C) (some dx) σ (upd (del (upd (upd (upd H1 a _) dx _) a _) a) dx (.xd [(f, v)]))
        rw [del_upd na hne]
        have sm : Same R' (upd R' dx (.xd [(f, v)])) := same_upd (m'.freshR hd1)
        exact q _ ρ' σ _ _ _ (s.trans sm) (m'.freshD hd1 _) ⟨rfl, dx, [(f, v)], rfl, upd_same, rfl, .cons (Rep.mono sm rv) .nil⟩
/-- the exception's fields in an except suite: the suite returns what te reads -/
def sTry (C : Addr) (i : Nat) (k : List (Str × D) → Option D) (fb : Sv) : Sv := fun e => match fb e with
  | .exn x e1 => if x.C = C ∧ i < e1.ws.length then (match x.fs with
    | some fs => (match k fs with | some y => .rt (.d y) e1 | none => .fail)
    | none => .fail) else .fail
  | r => r
/-- what a suite must do: at a caught exception (a, its dict dd, the fields ws) it returns what k tells -/
def SuiteOk (K : PySem.W.Frag) (C : Addr) (i : Nat) (k : List (Str × D) → Option D) (ts : Addr → Value → Option Addr → TS) : Prop :=
  ∀ (a dd : Addr) (D' : Ends) (σ : St) (H R : Hp) (fs : List (Str × D)) (ws : List (Str × V)) (y : D), k fs = some y → σ[i]? = some (some (.ref a)) → H dd = some (.xd ws) → Same R H → ws.map (·.1) = fs.map (·.1) → RepL K R (fs.map (·.2)) (ws.map (·.2)) →
    (∀ (v : V) (H' : Hp), (∃ (p : Addr) (o : HO), H p = none ∧ H' = upd H p o ∧ Rep K (upd R p o) y v) ∨ (H' = H ∧ Rep K R y v) → D'.rt v H') → ts a (.ref C) (some dd) D' σ H
theorem s_try {body suite : List Stmt} {b0 : Stmt} {cn n : Str} {np pos' : Pos} {i : Nat} {fb : Sv} {kf : List (Str × D) → Option D} {ts : Addr → Value → Option Addr → TS}
    (hs : X.stack = X.env :: X.outer) (hf : X.env.frame = some X.env.locals) (hN : X.N.Nodup) (hi : X.N[i]? = some n) (hln : X.env.kindOf n = some .local) (hc : Names X cn (.ref C)) (tk : L2.Takes X Wx) (te : PySem.W.exmOne X.K (.ref C) (.ref C) = some true)
    (hb : ∀ (W : WX) (pn : List (Addr × Obj)) (xe : Value → Shared → Prop), L2.Takes (X.tr pn xe) W → PassesOwn (model X.prog X.w) X.A X.env xe → PSs (X.tr pn xe) body (tS X.K W fb))
    (hsu : ∀ (a : Addr) (oe : Obj) (cls : Value) (d : Option Addr) (pn : List (Addr × Obj)), L2.Zc cls d oe → (∃ vs, oe.data = .fields vs) → PSs (X.suite a ((a, oe) :: pn)) (b0 :: suite) (ts a cls d)) (ok : SuiteOk X.K C i kf ts) :
    PS X (.Try body [.ExceptHandler (some (.Name cn np)) (some n) (b0 :: suite) pos'] [] [] pos) (tS X.K Wx (sTry C i kf fb)) :=
  (L2.ps_try_as (tb := fun W => tS X.K W fb) hs hf hN hi hln hc tk hb hsu).imp fun D σ H h => by
    obtain ⟨b, R, ρ, e, m, q⟩ := h
    refine ⟨b, R, ρ, e, m, ?_⟩
    unfold sTry at q
    cases hfe : fb e with
    | nx e1 => rw [hfe] at q; exact q
    | rt w e1 => rw [hfe] at q; exact q
    | bk e1 => rw [hfe] at q; exact q
    | ct e1 => rw [hfe] at q; exact q
    | fail => rw [hfe] at q; exact q.elim
    | exn x e1 =>
      rw [hfe] at q
      intro R' ρ' σ' H' cls d s' m' xr
      dsimp only at q
      split at q
      · rename_i hx
        obtain ⟨rfl, xf⟩ := xr
        cases hfs : x.fs with
        | none => rw [hfs] at q; exact q.elim
        | some fs =>
          rw [hfs] at q xf
          obtain ⟨dd, ws, rfl, h1, h2, h3⟩ := xf
          dsimp only at q
          cases hk : kf fs with
          | none => rw [hk] at q; exact q.elim
          | some y =>
            rw [hk] at q
            rw [hx.1]
            refine ⟨true, te, fun _ a na => ?_, fun z => Bool.noConfusion z⟩
            refine ok a dd _ _ H' R' fs ws y hk ?_ (m'.sub _ _ h1) m'.sub h2 h3 fun v H2 hv => ?_
            · rw [List.getElem?_set_self (by rw [m'.len]; exact hx.2)]
            · rcases hv with ⟨p, o, hp, rfl, rv⟩ | ⟨rfl, rv⟩
              · exact q _ ρ' σ' _ v (s'.trans (same_upd (m'.freshR hp))) (m'.freshD hp o) rv
              · exact q R' ρ' σ' _ v s' m' rv
      · exact q.elim
/-- return n.f -/
def kFld (f : Str) : List (Str × D) → Option D := fun fs => fs.lookup f
theorem suite_fld {C : Addr} {i : Nat} {f : Str} {K : PySem.W.Frag} : SuiteOk K C i (kFld f) (fun a cls d => tRet (tXf a cls d C f (tVar i))) := fun a dd D' σ H R fs ws y hk hi hd sm hn hr q => by
  obtain ⟨c, h1, h2⟩ := lookup_rep (F := fun x v => Rep K R x v) f hn hr.paired hk
  exact ⟨.ref a, hi, rfl, rfl, dd, ws, c, rfl, hd, h1, q c H (.inr ⟨rfl, h2⟩)⟩
end
/-! the __init__ of such a class -/
section
variable {P : Program} {w : World} {K : PySem.W.Frag} {mg : Str → Option Value} {base : Heap} {x qual self pn f : Str} {params : Arguments} {body : List Stmt} {scope : Scope} {kws : List (Str × V)} {C fI : Addr} {fd : FuncData}
theorem fnX_ok (F : FunD K x qual params body scope [] kws fI fd) (S : FnScope [self, pn] [self, pn] scope) (T : XCls K C fI f)
    (hb : ∀ (cdv : Value) (A : Around) (outer : List PySem.Env) (s : Shared) (H : Hp) (E : XK), PSs (cxOf (L2.CX P w) P w K mg base [self, pn] qual scope fI cdv A outer s H E) body (tOst K f (tVar 0) (tVar 1))) :
    FnOk P w K mg base (L2.CX P w) 1 fI fd [self, pn] (spXI C f) := by
  refine F.ok (k := 0) (CX := L2.CX P w) S (fun vs H Q E h => ?_) (fun cdv A outer s H vs Q E hr h => ⟨_, hb cdv A outer s H E, ?_⟩)
  · obtain ⟨a, v, rfl, _⟩ := h
    rfl
  · obtain ⟨a, v, rfl, ha, q⟩ := h
    exact ⟨v, rfl, .ref a, rfl, a, C, rfl, T.ox, T.no, .inl ⟨ha, fun dx n ne => q dx n ne⟩⟩
end
end Dl
end
section
set_option Elab.async false
set_option linter.all false
set_option maxRecDepth 100000
set_option maxHeartbeats 4000000
namespace Dl
open PySem L2
/-! the head's facts of own exception classes, as one Bool -/
def oexB (K : PySem.W.Frag) (C : Addr) : Bool := match K.lookup C with
  | some ⟨.type "type", _, .cls cd, sl⟩ => (match cd.mro, sl.toList with
    | .ref C' :: bm, [_, _, _, _, some (.builtin n), _] => C' == C && n == "ValueError.__new__" && !cd.hasDel && cd.hasDict && PySem.HandSPX.refsVE bm
    | _, _ => false)
  | _ => false
theorem oexB_ok {K : PySem.W.Frag} {C : Addr} (q : oexB K C = true) : ∃ nm q N bs bm sn sub ab col dd k0 k1 k2 k3 k5, K.lookup C = some (PySem.excClassObj nm q C N bs bm true sn sub ab col dd k0 k1 k2 k3 k5 "ValueError.__new__") ∧ PySem.HandSPX.refsVE bm = true := by
  unfold oexB at q
  split at q
  · rename_i dd cd sl ho
    split at q
    · rename_i C' bm k0 k1 k2 k3 n k5 hm hs
      simp only [Bool.and_eq_true, beq_iff_eq, Bool.not_eq_true'] at q
      obtain ⟨⟨⟨⟨rfl, rfl⟩, hdel⟩, hdc⟩, ht⟩ := q
      obtain ⟨nm, bs, mro, ns, qn, hd, sn, sub, ab, col, del⟩ := cd
      dsimp only at hm hdel hdc
      subst hm hdel hdc
      have hsl : sl = #[k0, k1, k2, k3, some (.builtin "ValueError.__new__"), k5] := by
        obtain ⟨l⟩ := sl
        simp only at hs
        rw [hs]
      subst hsl
      exact ⟨nm, qn, ns, bs, bm, sn, sub, ab, col, dd, k0, k1, k2, k3, k5, ho, ht⟩
    · cases q
  · cases q
/-- class x with an __init__ that stores the field f -/
def xB (K : PySem.W.Frag) (x f : Str) : Bool := oexB K (He.ga K x) && (He.eqO (PySem.W.findIn K (.ref (He.ga K x)) "__setattr__") (some (some (.builtin "object.__setattr__"))) &&
  (decide (PySem.W.subIn K (.ref (He.ga K x)) (.type "BaseException") = some true) && (decide (PySem.W.typeIn K (.ref (He.ga K x)) = some (.type "type")) && (PySem.W.keepIn K (.ref (He.ga K x)) &&
  (He.eqO (PySem.W.findIn K (.ref (He.ga K x)) f) (some none) && (He.eqO (PySem.W.findIn K (.ref (He.ga K x)) "__init__") (some (some (.ref (He.ma K (He.ga K x) "__init__")))) &&
  (decide (PySem.W.typeIn K (.ref (He.ma K (He.ga K x) "__init__")) = some (.type "function")) && (xfB K (He.ga K x) && (decide (PySem.W.exmOne K (.ref (He.ga K x)) (.ref (He.ga K x)) = some true) && decide (PySem.W.kitOne K (.ref (He.ga K x)) (.type "ValueError") = some true))))))))))
theorem xB_ok {K : PySem.W.Frag} {x f : Str} (h : xB K x f = true) : XCls K (He.ga K x) (He.ma K (He.ga K x) "__init__") f ∧ XfC K (He.ga K x) ∧ PySem.W.exmOne K (.ref (He.ga K x)) (.ref (He.ga K x)) = some true ∧ PySem.W.kitOne K (.ref (He.ga K x)) (.type "ValueError") = some true := by
  unfold xB at h
  simp only [Bool.and_eq_true, decide_eq_true_eq] at h
  obtain ⟨h1, h2, h3, h4, h5, h6, h7, h8, h9, h10, h11⟩ := h
  exact ⟨⟨⟨oexB_ok h1, He.eqO_ok h2, h3, h4, h5⟩, He.eqO_ok h6, He.eqO_ok h7, h8⟩, xfB_ok h9, h10, h11⟩
abbrev AlX : Type := Bool × He.AlD
def obsX (xs : List (Str × Str)) (fa : List He.Fa) (fn : List He.DefD) (K : PySem.W.Frag) : AlX := (xs.all fun x => xB K x.1 x.2, He.obsD fa fn K)
def valX (fn : List He.DefD) : AlX := (true, He.valD fn)
def SaysX (xs : List (Str × Str)) (fa : List He.Fa) (fn : List He.DefD) (K : PySem.W.Frag) : Prop := obsX xs fa fn K = valX fn
def obsXG (n : Nat) (xs : List (Str × Str)) (fa : List He.Fa) (fn : List He.DefD) (g : Addr → Option Obj) : AlX := obsX xs fa fn (He.frG g (He.asD g n))
def hookX (n : Nat) (xs : List (Str × Str)) (fa : List He.Fa) (fn : List He.DefD) : PySem.W.Hook where
  α := AlX
  obs := fun s => obsXG n xs fa fn s.heap.get?
  val := fun _ => valX fn
  says := fun _ h => ∃ K : PySem.W.Frag, K.In h ∧ SaysX xs fa fn K
  of := fun _ _ e => ⟨_, He.frG_in, e⟩
  keeps := fun _ _ _ ⟨K, hK, c⟩ k => ⟨K, PySem.W.Frag.In.keeps hK k, c⟩
theorem obsXG_eq {n : Nat} {xs : List (Str × Str)} {fa : List He.Fa} {fn : List He.DefD} {g : Addr → Option Obj} {s : Shared} (h : ∀ a, g a = s.heap.get? a) : obsXG n xs fa fn g = (hookX n xs fa fn).obs s := by
  have e : g = s.heap.get? := funext h
  rw [e] <;> rfl
theorem SaysX.d {xs : List (Str × Str)} {fa : List He.Fa} {fn : List He.DefD} {K : PySem.W.Frag} (c : SaysX xs fa fn K) : He.SaysD fa fn K := congrArg (fun z : AlX => z.2) c
theorem SaysX.x {xs : List (Str × Str)} {fa : List He.Fa} {fn : List He.DefD} {K : PySem.W.Frag} (c : SaysX xs fa fn K) (i : Nat) {x : Str × Str} (h : xs[i]? = some x := by rfl) : xB K x.1 x.2 = true := by
  have c1 : (xs.all fun x => xB K x.1 x.2) = true := congrArg (fun z : AlX => z.1) c
  exact List.all_eq_true.mp c1 x (List.mem_of_getElem? h)
end Dl
end
section
set_option Elab.async false
set_option linter.all false
set_option maxRecDepth 100000
set_option maxHeartbeats 4000000
namespace Dl
open PySem PySem.Spec PySem.Calls PyProof.Rows PySem.W
/-- isinstance that is answered by the type itself: __class__ is not asked -/
theorem ans_true {K : PySem.W.Frag} {x t c : Value} {H : Heap → Prop} (ty : ∀ (M : Model) (h : Heap), K.In h → H h → Looks M h (typeOf x) t) (ne : (t == c) = false) (e : kitOne K t c = some true) : Answers (fun s => K.In s.heap ∧ H s.heap) x c true := by
  rintro dep tk prog w A R ⟨hh, gg, dd, tt, oo⟩ ⟨⟨X, p⟩, hq⟩
  unfold kitOne at e
  rw [ne, if_neg Bool.false_ne_true] at e
  obtain ⟨k1, k2, k3⟩ := kit_cls (M := model prog w) X e
  have lt := ty (model prog w) hh X p
  unfold Builtin.«isinstance.nested»
  refine wpAny_bind (lt.at ?_); rw [ne, if_neg Bool.false_ne_true]
  refine wpAny_bind (k1.at ?_); rw [if_pos (by decide)]
  k_delta "plainIsInstance"
  refine wpAny_bind (wpAny_bind (k2.at ?_))
  simp only [Bool.false_eq_true, Bool.not_true, if_false]
  refine wpAny_bind ((lt.andThen k3).at ?_)
  first
    | exact wpAny_pure (wpAny_pure (hq _))
    | (simp only [if_true]; first | exact wpAny_pure (wpAny_pure (hq _)) | exact wpAny_pure (hq _) | exact wpAny_bind (wpAny_pure (wpAny_pure (hq _))))
theorem isinst_true {K : PySem.W.Frag} {x t c : Value} {H : Heap → Prop} {prog : Program} {w : World} {A : Around} {E Q : Value → Shared → Prop} {s : Shared} (ty : ∀ (M : Model) (h : Heap), K.In h → H h → Looks M h (typeOf x) t) (ne : (t == c) = false) (e : kitOne K t c = some true)
    (X : K.In s.heap) (p : H s.heap) (hx : x ≠ .builtin "__main__.__loader__#opaque") (h : ∀ tk, Q (.bool true) { s with toks := tk }) : wpAny (model prog w) A (call (.builtin "isinstance") [x, c]) Q E s :=
  call_isinstance (S := fun _ R s => (K.In s.heap ∧ H s.heap) ∧ ∀ tk, R (.ok (.ret (.bool true))) { s with toks := tk }) (fun prog w A R s hs => isinstance_outer (ans_true ty ne e 0 _ prog w A R s hs) hx) ⟨⟨X, p⟩, h⟩
end Dl
end
section
set_option Elab.async false
set_option linter.all false
set_option maxRecDepth 100000
set_option maxHeartbeats 4000000
namespace Dl
open PySem L2
/-- isinstance(e, ValueError) of the error that the suite holds -/
def rIsF (a : Addr) (cls : Value) (D : Addr) : List V → Hp → VK → Prop := fun xs H Q => xs = [.ref a, .ty "ValueError"] ∧ cls = .ref D ∧ Q (.bl true) H
theorem call_isF {X : Cx} {a D : Addr} {oe : Obj} {cls : Value} {d : Option Addr} {pn : List (Addr × Obj)} (hv : PySem.W.kitOne X.K (.ref D) (.type "ValueError") = some true) (hz : L2.Zc cls d oe) : CallR (X.suite a ((a, oe) :: pn)) (.builtin "isinstance") (rIsF a cls D) := by
  intro pins s σ H xs us Q I r h
  obtain ⟨rfl, rfl, q⟩ := h
  cases r with
  | cons rx rr =>
    cases rr with
    | cons rt rr =>
      cases rr
      cases rx
      cases rt
      obtain ⟨hget, _⟩ := I.pin (a, oe) (List.mem_append.mpr (.inl List.mem_cons_self))
      exact isinst_true (H := fun h => h.get? a = some oe) (t := .ref D) (fun M h _ p => hz.1 ▸ (PySem.W.Looks.ld p).andThen .now) (by first | rfl | decide | (apply beq_false_of_ne; intro z; cases z)) hv I.kIn hget (fun z => nomatch z) fun tk => ⟨.bl true, H, I.kept (t' := tk) fun _ _ z => z, rfl, q⟩
def kPair (f : Str) : List (Str × D) → Option D := fun fs => (fs.lookup f).map fun x => .tup [x, .bl true]
theorem suite_pair {C : Addr} {i : Nat} {f : Str} {K : PySem.W.Frag} : SuiteOk K C i (kPair f) (fun a cls d => tRet (tTup (tCons (tXf a cls d C f (tVar i)) (tCons (tCB (rIsF a cls C) (tCons (tVar i) (tCons (tC (.ty "ValueError")) tNil))) tNil)))) := fun a dd D' σ H R fs ws y hk hi hd sm hn hr q => by
  unfold kPair at hk
  cases hl : fs.lookup f with
  | none => rw [hl] at hk; cases hk
  | some x =>
    rw [hl] at hk
    cases hk
    obtain ⟨c, h1, h2⟩ := lookup_rep (F := fun x v => Rep K R x v) f hn hr.paired hl
    refine ⟨.ref a, hi, rfl, rfl, dd, ws, c, rfl, hd, h1, .ref a, hi, ⟨rfl, rfl, ?_⟩⟩
    refine ⟨by rw [sizeL]; simp, fun p hp => ?_⟩
    have hR : R p = none := by
      cases hR : R p with
      | none => rfl
      | some o => exact absurd ((sm p o hR).symm.trans hp) (fun z => nomatch z)
    exact q (.ref p) _ (.inl ⟨p, _, hp, rfl, .tup upd_same (.cons (Rep.mono (same_upd hR) h2) (.cons (.bl true) .nil))⟩)
end Dl
end
section
set_option Elab.async false
set_option linter.all false
set_option maxRecDepth 100000
set_option maxHeartbeats 4000000
namespace Dl
open PySem L2
/-! evaluation rules of raise and try; a for that raises -/
def xrK (C : Addr) (f : Str) (r : Rs W) : SR := match r with
  | .ok (.d x) e1 => .exn ⟨C, some [(f, x)]⟩ e1
  | .exn x e1 => .exn x e1
  | _ => .fail
def tryK (C : Addr) (i : Nat) (k : List (Str × D) → Option D) (r : SR) : SR := match r with
  | .exn x e1 => if x.C = C ∧ i < e1.ws.length then (match x.fs with
    | some fs => (match k fs with | some y => .rt (.d y) e1 | none => .fail)
    | none => .fail) else .fail
  | r => r
section
variable {C : Addr} {f : Str} {i : Nat} {k : List (Str × D) → Option D} {g : Ev} {fb : Sv} {e : Env} {x : D} {w : W} {z : Xn}
@[simp] theorem sRaise_ev : sRaise C f g e = xrK C f (g e) := rfl
@[simp] theorem xrK_ok : xrK C f (.ok (.d x) e) = .exn ⟨C, some [(f, x)]⟩ e := rfl
@[simp] theorem sTry_ev : sTry C i k fb e = tryK C i k (fb e) := rfl
@[simp] theorem tryK_nx : tryK C i k (.nx e) = .nx e := rfl
@[simp] theorem tryK_rt : tryK C i k (.rt w e) = .rt w e := rfl
theorem tryK_exn {fs : List (Str × D)} {y : D} (h : i < e.ws.length) (hk : k fs = some y) : tryK C i k (.exn ⟨C, some fs⟩ e) = .rt (.d y) e := by
  show (if C = C ∧ i < e.ws.length then (match k fs with | some y => SR.rt (.d y) e | none => .fail) else .fail) = _
  rw [if_pos ⟨rfl, h⟩, hk]
end
section
variable {g : Tg} {chk : Env → Prop} {body : Sv} {fg : List Nat}
theorem forD_exn (E : Nat → Env) {x : Xn} {e2 : Env} : ∀ (items : List D) (j n : Nat) (d : D), items[n]? = some d →
    (∀ i d, i < n → items[i]? = some d → chk (E (j + i)) ∧ ∃ e1 e2, g d (E (j + i)) = some e1 ∧ body e1 = .nx e2 ∧ e2.clr fg = E (j + i + 1)) →
    (chk (E (j + n)) ∧ ∃ e1, g d (E (j + n)) = some e1 ∧ body e1 = .exn x e2) → forD g chk body fg items (E j) = .exn x e2
  | [], _, _, _, h, _, _ => by simp at h
  | a :: l, j, 0, d, h, _, hx => by
    have h : a = d := by simpa using h
    subst h
    obtain ⟨h1, e1, h2, h3⟩ := hx
    have h1 : chk (E j) := h1
    have h2 : g a (E j) = some e1 := h2
    unfold forD
    rw [if_pos h1, h2]
    simp only [h3]
  | a :: l, j, n + 1, d, h, hs, hx => by
    obtain ⟨h1, e1, e3, h2, h3, h4⟩ := hs 0 a (by omega) rfl
    have h1 : chk (E j) := h1
    have h2 : g a (E j) = some e1 := h2
    unfold forD
    rw [if_pos h1, h2]
    simp only [h3]
    rw [h4]
    refine forD_exn E l (j + 0 + 1) n d (by simpa using h) (fun i d' hi hd => ?_) (by rw [show j + 0 + 1 + n = j + (n + 1) by omega]; exact hx)
    have q := hs (i + 1) d' (by omega) (by simpa using hd)
    rw [show j + (i + 1) = j + 0 + 1 + i by omega] at q
    exact q
/-- a for that raises at its item n -/
theorem for_exn {items : List D} {q : SR} (E : Nat → Env) {x : Xn} {e2 : Env} (n : Nat) (d : D) (hq : forD g chk body fg items (E 0) = q) (hd : items[n]? = some d)
    (hs : ∀ i d, i < n → items[i]? = some d → chk (E i) ∧ ∃ e1 e2, g d (E i) = some e1 ∧ body e1 = .nx e2 ∧ e2.clr fg = E (i + 1)) (hx : chk (E n) ∧ ∃ e1, g d (E n) = some e1 ∧ body e1 = .exn x e2) : q = .exn x e2 := by
  subst hq
  refine forD_exn E items 0 n d hd (fun i d hi hd => ?_) ?_
  · rw [Nat.zero_add]; exact hs i d hi hd
  · rw [Nat.zero_add]; exact hx
end
end Dl
end
section
set_option Elab.async false
set_option linter.all false
set_option maxRecDepth 100000
set_option maxHeartbeats 4000000
namespace Dl
open PySem L2
section
variable {X : Cx} {Wx : WX} {a c tg : Expr} {st : Stmt} {pos : Pos}
/-- a ghost step behind: a cell is frozen -/
def sThen (k : Nat) (f : Sv) : Sv := fun e => match f e with
  | .nx e1 => (match frz k e1 with | some e2 => .nx e2 | none => .fail)
  | r => r
theorem s_then {k : Nat} {f : Sv} (h : PS X st (tS X.K Wx f)) : PS X st (tS X.K Wx (sThen k f)) := h.imp fun D σ H ⟨b, R, ρ, e, m, q⟩ => by
  refine ⟨b, R, ρ, e, m, ?_⟩
  unfold sThen at q
  cases hf : f e with
  | nx e1 =>
    rw [hf] at q
    cases hz : frz k e1 with
    | none => simp only [hz] at q; exact q.elim
    | some e2 =>
      simp only [hz] at q
      intro R' ρ' σ' H' s' m'
      obtain ⟨R2, s2, m2⟩ := m'.frz hz
      exact q R2 ρ' σ' H' (s'.trans s2) m2
  | rt w e1 => rw [hf] at q; exact q
  | bk e1 => rw [hf] at q; exact q
  | ct e1 => rw [hf] at q; exact q
  | exn x e1 => rw [hf] at q; exact q
  | fail => rw [hf] at q; exact q
/-- [..] * n as an own list -/
def kRep (k : Nat) (w1 w2 : W) : Ev := fun e => match w1, w2 with
  | .d (.lst xs), .d (.int j) => if -(2 ^ 63) ≤ j ∧ j < 2 ^ 63 ∧ xs.length * j.toNat ≤ sizeLine then newC k (.lst (List.replicate j.toNat xs).flatten) e else .fail
  | _, _ => .fail
def eRep (k : Nat) (f1 f2 : Ev) : Ev := bin2 f1 f2 (kRep k)
theorem d_rep {k : Nat} {f1 f2 : Ev} (ha : PE X a (tD X.K Wx f1)) (hb : PE X c (tD X.K Wx f2)) : PE X (.BinOp a .Mult c pos) (tD X.K Wx (eRep k f1 f2)) :=
  (pe_op op_rep ha hb).imp fun σ H Q h => tG_two h fun bs R ρ e H w1 w2 v1 v2 m r1 r2 q => by
    unfold kRep at q
    split at q
    · rename_i xs j
      have r1 : Rep X.K R _ v1 := r1
      have r2 : Rep X.K R _ v2 := r2
      cases r2
      cases r1 with
      | lst h1 l1 =>
        split at q
        · rename_i hl
          refine ⟨_, j, _, rfl, rfl, m.sub _ _ h1, hl.1, hl.2.1, by rw [← l1.length]; exact hl.2.2, fun p hp => ?_⟩
          exact newC_ok m q hp ⟨_, upd_same, RepL.flat l1 _⟩
        · exact q.elim
    · exact q.elim
/-- reversed(range(n)) -/
def kRr1 (w : W) : Env → Rs Itr := fun e => match w with
  | .d (.int j) => if -(2 ^ 62) ≤ j ∧ j < 2 ^ 62 then .ok ⟨rangeC (j.toNat - 1) (-1) j.toNat, fun _ => True⟩ e else .fail
  | _ => .fail
def iRr1 (f : Ev) : Env → Rs Itr := fun e => (f e).bind kRr1
theorem i_revrange1 {f : Ev} {p p2 pos2 : Pos} (hg : Gl X "reversed") (hg2 : Gl X "range") (hm : X.mg "reversed" = none) (hm2 : X.mg "range" = none) (ha1 : PE X a (tD X.K Wx f))
    (na : starEach [a] X.env = (false, eval a X.env) :: starEach [] X.env := by rfl) (hs : starEach [.Call (.Name "range" p2) [a] [] pos2] X.env = (false, eval (.Call (.Name "range" p2) [a] [] pos2) X.env) :: starEach [] X.env := by rfl) :
    PI X tg (.Call (.Name "reversed" p) [.Call (.Name "range" p2) [a] [] pos2] [] pos) (tDI X.K Wx (iRr1 f)) := (pi_revR hg hm (prg_1 hg2 hm2 ha1 na) hs).imp fun σ H Q q =>
  tG_one q fun bs R ρ e H w v m r q2 => by
    unfold kRr1 at q2
    split at q2
    · rename_i j
      have rv : Rep X.K R (.int j) v := r
      cases rv
      split at q2
      · rename_i hj
        refine ⟨j, rfl, by decide, by decide, hj.1, hj.2, ?_⟩
        have e1 : (0 + (((j - 0).toNat : Nat) : Int) - 1) = (j.toNat : Int) - 1 := by rw [Int.sub_zero]; omega
        have e2 : (j - 0).toNat = j.toNat := by rw [Int.sub_zero]
        rw [e1, e2]
        exact q2.fin m ItOk.rangeC
      · exact q2.elim
    · exact q2.elim
/-- n.bit_length() -/
def bitsD : D → Option D
  | .int i => some (.int (Builtin.Int.intBits i : Nat))
  | _ => none
def eBits (f : Ev) : Ev := fun e => (f e).bind fun w e1 => match w with | .d x => okO (bitsD x) e1 | _ => .fail
theorem d_bits {f : Ev} {apos : Pos} (ho : PE X a (tD X.K Wx f)) (hbase : attributeBase a "bit_length" X.env (eval a X.env) = eval a X.env := by rfl) (hline : (apos.endLine == pos.line) = true := by rfl) :
    PE X (.Call (.Attribute a "bit_length" apos) [] [] pos) (tD X.K Wx (eBits f)) := (pe_bits ho hbase hline).imp fun σ H Q q =>
  tG_one q fun bs R ρ e H w v m r q2 => by
    cases w with
    | loc n => exact q2.elim
    | d x =>
      obtain ⟨z, hz, q2⟩ := okO_ok q2
      have rv : Rep X.K R x v := r
      cases rv with
      | int i =>
        cases hz
        exact ⟨i, rfl, q2.fin m (Rep.int _)⟩
      | _ => cases hz
end
/-! evaluation rules -/
section
variable {α γ : Type} {e : Env} {f f1 f2 : Ev} {w : W} {x y : D} {n k : Nat} {sv : Sv}
def thK (k : Nat) (r : SR) : SR := match r with
  | .nx e1 => nxO (frz k e1)
  | r => r
@[simp] theorem sThen_ev : sThen k sv e = thK k (sv e) := rfl
@[simp] theorem thK_nx : thK k (.nx e) = nxO (frz k e) := rfl
@[simp] theorem thK_rt : thK k (.rt w e) = .rt w e := rfl
@[simp] theorem thK_exn {z : Xn} : thK k (.exn z e) = .exn z e := rfl
@[simp] theorem eRep_ev : eRep k f1 f2 e = b2a (f1 e) f2 (kRep k) := rfl
@[simp] theorem kRep_ev {xs : List D} {j : Int} : kRep k (.d (.lst xs)) (.d (.int j)) e = if -(2 ^ 63) ≤ j ∧ j < 2 ^ 63 ∧ xs.length * j.toNat ≤ sizeLine then newC k (.lst (List.replicate j.toNat xs).flatten) e else .fail := rfl
@[simp] theorem iRr1_ev : iRr1 f e = itK (f e) kRr1 := rfl
@[simp] theorem kRr1_ev {j : Int} : kRr1 (.d (.int j)) e = if -(2 ^ 62) ≤ j ∧ j < 2 ^ 62 then .ok ⟨rangeC (j.toNat - 1) (-1) j.toNat, fun _ => True⟩ e else .fail := rfl
def bitK (r : Rs W) : Rs W := r.bind fun w e1 => match w with | .d x => okO (bitsD x) e1 | _ => .fail
@[simp] theorem eBits_ev : eBits f e = bitK (f e) := rfl
@[simp] theorem bitK_ok {i : Int} : bitK (.ok (.d (.int i)) e) = .ok (.d (.int (Builtin.Int.intBits i : Nat))) e := rfl
end
/-! loops by one turn -/
def turnK (fg : List Nat) (r : SR) : SR := match r with
  | .nx e => .nx (e.clr fg)
  | .ct e => .nx (e.clr fg)
  | r => r
@[simp] theorem turnK_nx {fg : List Nat} {e : Env} : turnK fg (.nx e) = .nx (e.clr fg) := rfl
@[simp] theorem turnK_ct {fg : List Nat} {e : Env} : turnK fg (.ct e) = .nx (e.clr fg) := rfl
@[simp] theorem turnK_rt {fg : List Nat} {e : Env} {w : W} : turnK fg (.rt w e) = .rt w e := rfl
@[simp] theorem turnK_bk {fg : List Nat} {e : Env} : turnK fg (.bk e) = .bk e := rfl
@[simp] theorem turnK_exn {fg : List Nat} {e : Env} {x : Xn} : turnK fg (.exn x e) = .exn x e := rfl
def turnO (fg : List Nat) (o : Option Env) (body : Sv) : SR := match o with
  | some e1 => turnK fg (body e1)
  | none => .fail
@[simp] theorem turnO_some {fg : List Nat} {e : Env} {body : Sv} : turnO fg (some e) body = turnK fg (body e) := rfl
/-- one turn of a for -/
def turn (g : Tg) (body : Sv) (fg : List Nat) (d : D) (e : Env) : SR := turnO fg (g d e) body
@[simp] theorem turn_ev {g : Tg} {body : Sv} {fg : List Nat} {d : D} {e : Env} : turn g body fg d e = turnO fg (g d e) body := rfl
theorem turn_nx {g : Tg} {body : Sv} {fg : List Nat} {d : D} {e e' : Env} (h : turn g body fg d e = .nx e') : ∃ e1 e2, g d e = some e1 ∧ (body e1 = .nx e2 ∨ body e1 = .ct e2) ∧ e2.clr fg = e' := by
  unfold turn turnO at h
  cases hg : g d e with
  | none => rw [hg] at h; cases h
  | some e1 =>
    rw [hg] at h
    have h : turnK fg (body e1) = .nx e' := h
    cases hb : body e1 with
    | nx e2 => rw [hb] at h; cases h; exact ⟨e1, e2, rfl, .inl hb, rfl⟩
    | ct e2 => rw [hb] at h; cases h; exact ⟨e1, e2, rfl, .inr hb, rfl⟩
    | rt w e2 => rw [hb] at h; cases h
    | bk e2 => rw [hb] at h; cases h
    | exn x e2 => rw [hb] at h; cases h
    | fail => rw [hb] at h; cases h
section
variable {it : Env → Rs Itr} {g : Tg} {fg : List Nat} {body : Sv} {items : List D} {chk : Env → Prop}
/-- a for whose states are told by the turn -/
theorem for_e (E : Nat → Env) {e0 e' : Env} (hit : it e0 = .ok ⟨items, chk⟩ (E 0)) (hs : ∀ i d, items[i]? = some d → chk (E i) ∧ turn g body fg d (E i) = .nx (E (i + 1))) (hc : chk (E items.length)) (he : E items.length = e' := by rfl) :
    sFor it g fg body e0 = .nx e' := by
  subst he
  unfold sFor
  rw [hit]
  show forD g chk body fg items (E 0) = _
  obtain ⟨e', h1, h2⟩ := for_inv (g := g) (chk := chk) (body := body) (fg := fg) (items := items) (e := E 0) (fun i e => e = E i) rfl (fun i d e hd he => by
    subst he
    obtain ⟨h1, h2⟩ := hs i d hd
    obtain ⟨e1, e2, q1, q2, q3⟩ := turn_nx h2
    exact ⟨h1, e1, e2, q1, q2, q3⟩) (fun e he => by subst he; exact hc)
  rw [h1, h2]
/-- a for with an invariant over some state S -/
theorem for_i {S : Type} (E : S → Env) (I : Nat → S → Prop) (s0 : S) {e0 : Env} (hit : it e0 = .ok ⟨items, chk⟩ (E s0)) (h0 : I 0 s0)
    (hs : ∀ i d s, items[i]? = some d → I i s → chk (E s) ∧ ∃ s', turn g body fg d (E s) = .nx (E s') ∧ I (i + 1) s') (hc : ∀ s, I items.length s → chk (E s)) :
    ∃ s, sFor it g fg body e0 = .nx (E s) ∧ I items.length s := by
  unfold sFor
  rw [hit]
  show ∃ s, forD g chk body fg items (E s0) = _ ∧ _
  obtain ⟨e', h1, s, rfl, h2⟩ := for_inv (g := g) (chk := chk) (body := body) (fg := fg) (items := items) (e := E s0) (fun i e => ∃ s, e = E s ∧ I i s) ⟨s0, rfl, h0⟩ (fun i d e hd he => by
    obtain ⟨s, rfl, hi⟩ := he
    obtain ⟨h1, s', h2, h3⟩ := hs i d s hd hi
    obtain ⟨e1, e2, q1, q2, q3⟩ := turn_nx h2
    exact ⟨h1, e1, e2, q1, q2, s', q3, h3⟩) (fun e he => by obtain ⟨s, rfl, hi⟩ := he; exact hc s hi)
  exact ⟨s, h1, h2⟩
def outS : SR → Prop
  | .rt _ _ => True
  | .exn _ _ => True
  | _ => False
/-- a for that leaves at its item n: by return or an exception -/
theorem forD_out (E : Nat → Env) {r : SR} (hr : outS r) : ∀ (items : List D) (j n : Nat) (d : D), items[n]? = some d →
    (∀ i d, i < n → items[i]? = some d → chk (E (j + i)) ∧ turn g body fg d (E (j + i)) = .nx (E (j + i + 1))) →
    (chk (E (j + n)) ∧ turn g body fg d (E (j + n)) = r) → forD g chk body fg items (E j) = r
  | [], _, _, _, h, _, _ => by simp at h
  | a :: l, j, 0, d, h, _, hx => by
    have h : a = d := by simpa using h
    subst h
    obtain ⟨h1, h2⟩ := hx
    have h1 : chk (E j) := h1
    have h2 : turn g body fg a (E j) = r := h2
    unfold forD
    rw [if_pos h1]
    unfold turn turnO at h2
    cases hg : g a (E j) with
    | none => rw [hg] at h2; subst h2; exact hr.elim
    | some e1 =>
      rw [hg] at h2
      dsimp only at h2 ⊢
      cases hb : body e1 with
      | nx e2 => rw [hb] at h2; subst h2; exact hr.elim
      | ct e2 => rw [hb] at h2; subst h2; exact hr.elim
      | bk e2 => rw [hb] at h2; subst h2; exact hr.elim
      | rt w e2 => rw [hb] at h2; exact h2
      | exn x e2 => rw [hb] at h2; exact h2
      | fail => rw [hb] at h2; subst h2; exact hr.elim
  | a :: l, j, n + 1, d, h, hs, hx => by
    obtain ⟨h1, h2⟩ := hs 0 a (by omega) rfl
    have h1 : chk (E j) := h1
    obtain ⟨e1, e3, q1, q2, q3⟩ := turn_nx h2
    have q1 : g a (E j) = some e1 := q1
    have go : forD g chk body fg l (E (j + 0 + 1)) = r := forD_out E hr l (j + 0 + 1) n d (by simpa using h) (fun i d' hi hd => by
      have q := hs (i + 1) d' (by omega) (by simpa using hd)
      rw [show j + (i + 1) = j + 0 + 1 + i by omega] at q
      exact q) (by rw [show j + 0 + 1 + n = j + (n + 1) by omega]; exact hx)
    unfold forD
    rw [if_pos h1, q1]
    rcases q2 with q2 | q2
    · simp only [q2]
      rw [q3]
      exact go
    · simp only [q2]
      rw [q3]
      exact go
theorem for_out (E : Nat → Env) {e0 : Env} (r : SR) (n : Nat) (d : D) (hit : it e0 = .ok ⟨items, chk⟩ (E 0)) (hd : items[n]? = some d)
    (hs : ∀ i d, i < n → items[i]? = some d → chk (E i) ∧ turn g body fg d (E i) = .nx (E (i + 1))) (hx : chk (E n) ∧ turn g body fg d (E n) = r) (hr : outS r) : sFor it g fg body e0 = r := by
  unfold sFor
  rw [hit]
  show forD g chk body fg items (E 0) = _
  refine forD_out E hr items 0 n d hd (fun i d hi hd => ?_) ?_
  · rw [Nat.zero_add]; exact hs i d hi hd
  · rw [Nat.zero_add]; exact hx
end
/-! while by one turn -/
section
variable {t : Env → Rs Bool} {fg : List Nat} {body : Sv} {fuel : Env → Nat}
def whT (r : Rs Bool) (body : Sv) (fg : List Nat) : SR := r.to fun k e1 => if k = true then turnK fg (body e1) else .bk e1
@[simp] theorem whT_t {body : Sv} {fg : List Nat} {e : Env} : whT (.ok true e) body fg = turnK fg (body e) := rfl
@[simp] theorem whT_f {body : Sv} {fg : List Nat} {e : Env} : whT (.ok false e) body fg = .bk e := rfl
theorem turnK_inv {r : SR} {e' : Env} (h : turnK fg r = .nx e') : ∃ e2, (r = .nx e2 ∨ r = .ct e2) ∧ e2.clr fg = e' := by
  cases r with
  | nx e2 => cases h; exact ⟨e2, .inl rfl, rfl⟩
  | ct e2 => cases h; exact ⟨e2, .inr rfl, rfl⟩
  | rt w e2 => cases h
  | bk e2 => cases h
  | exn x e2 => cases h
  | fail => cases h
theorem whD_i {S : Type} (E : S → Env) (I : S → Prop) (μ : S → Nat) (Z : SR → Prop) (hs : ∀ s, I s → (∃ s', whT (t (E s)) body fg = .nx (E s') ∧ I s' ∧ μ s' < μ s) ∨ (∃ e1, whT (t (E s)) body fg = .bk e1 ∧ Z (.nx e1)) ∨ (∃ w e1, whT (t (E s)) body fg = .rt w e1 ∧ Z (.rt w e1)) ∨ (∃ x e1, whT (t (E s)) body fg = .exn x e1 ∧ Z (.exn x e1))) :
    ∀ (n : Nat) (s : S), I s → μ s < n → Z (whD t body fg n (E s))
  | 0, s, _, h => absurd h (Nat.not_lt_zero _)
  | n + 1, s, h, hn => by
    have H := hs s h
    unfold whD
    unfold whT at H
    cases ht : t (E s) with
    | fail => simp only [ht, Rs.to] at H; rcases H with ⟨_, h, _⟩ | ⟨_, h, _⟩ | ⟨_, _, h, _⟩ | ⟨_, _, h, _⟩ <;> cases h
    | exn x e1 =>
      simp only [ht, Rs.to] at H ⊢
      rcases H with ⟨_, h, _⟩ | ⟨_, h, _⟩ | ⟨_, _, h, _⟩ | ⟨_, _, h, z⟩
      · cases h
      · cases h
      · cases h
      · cases h; exact z
    | ok k e1 =>
      simp only [ht, Rs.to] at H ⊢
      cases k with
      | false =>
        simp only [Bool.false_eq_true, if_false] at H ⊢
        rcases H with ⟨_, h, _⟩ | ⟨_, h, z⟩ | ⟨_, _, h, _⟩ | ⟨_, _, h, z⟩
        · cases h
        · cases h; exact z
        · cases h
        · cases h
      | true =>
        simp only [if_true] at H ⊢
        cases hb : body e1 with
        | nx e2 =>
          simp only [hb, turnK_nx] at H ⊢
          rcases H with ⟨s', h, i, l⟩ | ⟨_, h, z⟩ | ⟨_, _, h, _⟩ | ⟨_, _, h, z⟩
          · have h := SR.nx.inj h
            rw [h]
            exact whD_i E I μ Z hs n s' i (by omega)
          · cases h
          · cases h
          · cases h
        | ct e2 =>
          simp only [hb, turnK_ct] at H ⊢
          rcases H with ⟨s', h, i, l⟩ | ⟨_, h, z⟩ | ⟨_, _, h, _⟩ | ⟨_, _, h, z⟩
          · have h := SR.nx.inj h
            rw [h]
            exact whD_i E I μ Z hs n s' i (by omega)
          · cases h
          · cases h
          · cases h
        | bk e2 =>
          simp only [hb, turnK_bk] at H ⊢
          rcases H with ⟨s', h, i, l⟩ | ⟨_, h, z⟩ | ⟨_, _, h, _⟩ | ⟨_, _, h, z⟩
          · cases h
          · cases h; exact z
          · cases h
          · cases h
        | rt w e2 =>
          simp only [hb, turnK_rt] at H ⊢
          rcases H with ⟨s', h, i, l⟩ | ⟨_, h, z⟩ | ⟨_, _, h, z⟩ | ⟨_, _, h, z⟩
          · cases h
          · cases h
          · cases h; exact z
          · cases h
        | exn x e2 =>
          simp only [hb, turnK_exn] at H ⊢
          rcases H with ⟨s', h, i, l⟩ | ⟨_, h, z⟩ | ⟨_, _, h, z⟩ | ⟨_, _, h, z⟩
          · cases h
          · cases h
          · cases h
          · cases h; exact z
        | fail =>
          simp only [hb] at H
          rcases H with ⟨_, h, _⟩ | ⟨_, h, _⟩ | ⟨_, _, h, _⟩ | ⟨_, _, h, _⟩ <;> cases h
/-- a while: an invariant over some state S, a number that falls, what the end says -/
theorem while_i {S : Type} (E : S → Env) (I : S → Prop) (μ : S → Nat) (Z : SR → Prop) (s0 : S) (h0 : I s0) (hn : μ s0 < fuel (E s0))
    (hs : ∀ s, I s → (∃ s', whT (t (E s)) body fg = .nx (E s') ∧ I s' ∧ μ s' < μ s) ∨ (∃ e1, whT (t (E s)) body fg = .bk e1 ∧ Z (.nx e1)) ∨ (∃ w e1, whT (t (E s)) body fg = .rt w e1 ∧ Z (.rt w e1)) ∨ (∃ x e1, whT (t (E s)) body fg = .exn x e1 ∧ Z (.exn x e1))) :
    Z (sWhile fuel t fg body (E s0)) := whD_i E I μ Z hs _ s0 h0 hn
end
/-! comprehensions by one turn -/
def pushR (k : Nat) (vs : List Nat) (w : W) (e : Env) : Rs Unit := match pushK k w e with | some e4 => .ok () (e4.clr vs) | none => .fail
def lcT2 (f : Ev) (k : Nat) (vs : List Nat) (r : Rs Bool) : Rs Unit := r.bindF fun c e2 => if c = true then (f e2).bindF (pushR k vs) else .ok () (e2.clr vs)
def lcT1 (o : Option Env) (t : Env → Rs Bool) (f : Ev) (k : Nat) (vs : List Nat) : Rs Unit := match o with
  | some e1 => lcT2 f k vs (t e1)
  | none => .fail
/-- one turn of a comprehension -/
def lcT (g : Tg) (t : Env → Rs Bool) (f : Ev) (k : Nat) (vs : List Nat) (d : D) (e : Env) : Rs Unit := lcT1 (g d (e.clr vs)) t f k vs
def lcT3 (k : Nat) (vs : List Nat) (r : Rs W) : Rs Unit := r.bindF (pushR k vs)
section
variable {g : Tg} {t : Env → Rs Bool} {f : Ev} {k : Nat} {vs : List Nat} {d : D} {e : Env} {w : W}
@[simp] theorem lcT_ev : lcT g t f k vs d e = lcT1 (g d (e.clr vs)) t f k vs := rfl
@[simp] theorem lcT1_some : lcT1 (some e) t f k vs = lcT2 f k vs (t e) := rfl
@[simp] theorem lcT2_t : lcT2 f k vs (.ok true e) = lcT3 k vs (f e) := rfl
@[simp] theorem lcT2_f : lcT2 f k vs (.ok false e) = .ok () (e.clr vs) := rfl
@[simp] theorem lcT3_ok {x : D} : lcT3 k vs (.ok (.d x) e) = match e.cell k with | some (.lst acc) => if acc.length < sizeLine then .ok () ((e.setC k (some (.lst (acc ++ [x])))).clr vs) else .fail | _ => .fail := by
  show pushR k vs (.d x) e = _
  unfold pushR
  rw [pushK_ev]
  cases e.cell k with
  | none => rfl
  | some c =>
    cases c with
    | lst acc => by_cases h : acc.length < sizeLine
                 · simp only [if_pos h]
                 · simp only [if_neg h]
    | _ => rfl
theorem lcT_inv {e' : Env} (h : lcT g t f k vs d e = .ok () e') : ∃ e1, g d (e.clr vs) = some e1 ∧
    ((∃ e2 w e3 e4, t e1 = .ok true e2 ∧ f e2 = .ok w e3 ∧ pushK k w e3 = some e4 ∧ e4.clr vs = e') ∨ ∃ e2, t e1 = .ok false e2 ∧ e2.clr vs = e') := by
  unfold lcT lcT1 at h
  cases hg : g d (e.clr vs) with
  | none => rw [hg] at h; cases h
  | some e1 =>
    rw [hg] at h
    refine ⟨e1, rfl, ?_⟩
    have h : lcT2 f k vs (t e1) = .ok () e' := h
    cases ht : t e1 with
    | fail => rw [ht] at h; cases h
    | exn x e2 => rw [ht] at h; cases h
    | ok c e2 =>
      rw [ht] at h
      cases c with
      | false => cases h; exact .inr ⟨e2, rfl, rfl⟩
      | true =>
        have h : (f e2).bindF (pushR k vs) = .ok () e' := h
        cases hf : f e2 with
        | fail => rw [hf] at h; cases h
        | exn x e3 => rw [hf] at h; cases h
        | ok w e3 =>
          rw [hf] at h
          have h : pushR k vs w e3 = .ok () e' := h
          unfold pushR at h
          cases hp : pushK k w e3 with
          | none => rw [hp] at h; cases h
          | some e4 => rw [hp] at h; cases h; exact .inl ⟨e2, w, e3, e4, rfl, hf, hp, rfl⟩
end
section
variable {it : Env → Rs Itr} {g : Tg} {t : Env → Rs Bool} {f : Ev} {k : Nat} {keep : Bool} {vs : List Nat} {items : List D} {chk : Env → Prop}
theorem comp_i {S : Type} (E : S → Env) (I : Nat → S → Prop) (s0 : S) {e0 e1 : Env} (hit : it e0 = .ok ⟨items, chk⟩ e1) (ho : e1.open k = true) (hE : e1.setC k (some (.lst [])) = E s0) (h0 : I 0 s0)
    (hs : ∀ i d s, items[i]? = some d → I i s → chk (E s) ∧ ∃ s', lcT g t f k vs d (E s) = .ok () (E s') ∧ I (i + 1) s') (hc : ∀ s, I items.length s → chk (E s)) :
    ∃ s, eLc it g t f k keep vs e0 = endL keep k (E s) ∧ I items.length s := by
  unfold eLc
  rw [hit]
  show ∃ s, (if e1.open k = true then _ else _) = _ ∧ _
  rw [if_pos ho, hE]
  obtain ⟨e', h1, s, rfl, h2⟩ := lc_inv (g := g) (chk := chk) (t := t) (f := f) (k := k) (vs := vs) (items := items) (e := E s0) (fun i e => ∃ s, e = E s ∧ I i s) ⟨s0, rfl, h0⟩ (fun i d e hd he => by
    obtain ⟨s, rfl, hi⟩ := he
    obtain ⟨h1, s', h2, h3⟩ := hs i d s hd hi
    obtain ⟨e1, q1, q2⟩ := lcT_inv h2
    refine ⟨h1, e1, q1, ?_⟩
    rcases q2 with ⟨e2, w, e3, e4, a, b, c, z⟩ | ⟨e2, a, z⟩
    · exact .inl ⟨e2, w, e3, e4, a, b, c, s', z, h3⟩
    · exact .inr ⟨e2, a, s', z, h3⟩) (fun e he => by obtain ⟨s, rfl, hi⟩ := he; exact hc s hi)
  refine ⟨s, ?_, h2⟩
  rw [h1]
  rfl
/-- a comprehension that reads alone: its list -/
theorem comp_e (h : D → Option D) {e0 e1 : Env} {n : Nat} (hit : it e0 = .ok ⟨items, chk⟩ e1) (ho : e1.open k = true) (hl : items.length ≤ n) (hn : n ≤ sizeLine) (hv : e1.clr vs = e1)
    (hs : ∀ (i : Nat) d (acc : List D), items[i]? = some d → acc.length < n → chk (e1.setC k (some (.lst acc))) ∧ lcT g t f k vs d (e1.setC k (some (.lst acc))) = .ok () (e1.setC k (some (.lst (acc ++ (h d).toList))))) (hc : ∀ acc, chk (e1.setC k (some (.lst acc)))) :
    eLc it g t f k keep vs e0 = endL keep k (e1.setC k (some (.lst (items.filterMap h)))) := by
  obtain ⟨s, h1, h2⟩ := comp_i (keep := keep) (items := items) (chk := chk) (fun acc : List D => e1.setC k (some (.lst acc))) (fun i acc => acc = (items.take i).filterMap h) [] hit ho rfl (by simp) (fun i d acc hd hi => by
    have hlt : i < items.length := (List.getElem?_eq_some_iff.mp hd).1
    have hal : acc.length ≤ i := by
      rw [hi]
      exact Nat.le_trans (List.length_filterMap_le _ _) (by simp; omega)
    obtain ⟨q1, q2⟩ := hs i d acc hd (by omega)
    refine ⟨q1, _, q2, ?_⟩
    rw [List.take_add_one, List.filterMap_append, ← hi, hd]
    cases hh : h d with
    | none => simp [hh]
    | some x => simp [hh]) (fun acc _ => hc acc)
  rw [h1, h2, List.take_length]
end
end Dl
end
section
set_option Elab.async false
set_option linter.all false
set_option maxRecDepth 100000
set_option maxHeartbeats 8000000
namespace Dl
open PySem L2
/-- the addresses of the classes -/
structure Cs where
  TopiaryError : Addr
  InvalidRow : Addr
  InvalidPlace : Addr
  Bits : Addr
  InvalidSize : Addr
  InvalidSymbol : Addr
  Wave : Addr
  InvalidStretch : Addr
  NotTurned : Addr
  InvalidText : Addr
  UnknownText : Addr
  InvalidStep : Addr
  InvalidPart : Addr
  Finder : Addr
  TextError : Addr
  TooLarge : Addr
  DocumentReader : Addr
  InvalidRows : Addr
  InvalidDocument : Addr
  Rows : Addr
  Gatherer : Addr
  Builder : Addr
  Kept : Addr
  InvalidQuestion : Addr
  QuestionReader : Addr
  ImproperQuestion : Addr
  Evaluation : Addr
  Meaning : Addr
  FilteredQuestion : Addr
  Comparison : Addr
  InvalidEdit : Addr
  View : Addr
  Layers : Addr
  Search : Addr
  InvalidCounts : Addr
  InvalidLengths : Addr
  InvalidBox : Addr
  Loader : Addr
  InvalidLine : Addr
  Desk : Addr
  fn_node_at : Addr
  fn_parent_of : Addr
  fn_children_of : Addr
  fn_depth_of : Addr
  fn_upward_path : Addr
  fn_depth : Addr
  fn_family : Addr
  fn_name : Addr
  fn_node_of : Addr
  fn_parent : Addr
  fn_place : Addr
  fn_row_of : Addr
  fn_subtree : Addr
  fn_text : Addr
  fn_weight : Addr
  fn_upward : Addr
  fn_found_from : Addr
  fn_nodes : Addr
  fn_nodes_kept : Addr
  fn_compare : Addr
  fn_takes : Addr
  fn_places_after : Addr
  fn_edited : Addr
  fn_taken_back : Addr
  gd_SIGNS_writer : Addr
  gd_ESCAPES : Addr
  gd_NUMBERS : Addr
end Dl
end
section
set_option Elab.async false
set_option linter.all false
set_option maxRecDepth 100000
set_option maxHeartbeats 4000000
namespace LiZ
open PySem PySem.Spec PySem.Calls PyProof.Rows L2
theorem nolen_zip : typeLookup (.type "zip") "__len__" = pure none := by rw [typeLookup_type, builtinLookup_eq_fast]; kernel_rfl
theorem nohint_zip : typeLookup (.type "zip") "__length_hint__" = pure none := by rw [typeLookup_type, builtinLookup_eq_fast]; kernel_rfl
/-- the tuples that a zip gave out, in order -/
structure ZlG (xs ys : Array Value) (lo : Addr) (h : Heap) (as : List Addr) : Prop where
  rise : as.Pairwise (· < ·)
  above : ∀ a ∈ as, lo < a
  pairs : ∀ (j : Nat) (a : Addr), as[j]? = some a → ∃ x y, xs[j]? = some x ∧ ys[j]? = some y ∧ IsPair h a x y
theorem ZlG.there {xs ys : Array Value} {lo : Addr} {h : Heap} {as : List Addr} (g : ZlG xs ys lo h as) {a : Addr} (ha : a ∈ as) : a < h.objs.size := by
  obtain ⟨j, hj⟩ := List.mem_iff_getElem?.mp ha
  obtain ⟨_, _, _, _, e⟩ := g.pairs j a hj
  exact Heap.lt_size e
def ZSt (z TI TO i1 i2 l1 l2 S : Addr) (xs ys : Array Value) (i : Nat) (h : Heap) : Prop :=
  IsPair h TI (.ref i1) (.ref i2) ∧ h.IsListIter i1 l1 i ∧ h.IsListIter i2 l2 i ∧ h.IsList l1 xs ∧ h.IsList l2 ys ∧
    ((IsZip h z TI TO .none ∧ ∃ a b, IsPair h TO a b) ∨ ∃ T f oT, IsZipHeld h z TI TO T f ∧ h.get? T = some oT ∧ T ≠ z ∧ T ≠ i1 ∧ T ≠ i2 ∧ T ≠ S)
structure Below (z TI TO i1 i2 l1 l2 S : Addr) : Prop where
  z : z < S
  TI : TI < S
  TO : TO < S
  i1 : i1 < S
  i2 : i2 < S
  l1 : l1 < S
  l2 : l2 < S
section
variable {z TI TO i1 i2 l1 l2 S : Addr} {xs ys : Array Value}
theorem ZSt.keep {i : Nat} {h h' : Heap} (B : Below z TI TO i1 i2 l1 l2 S) (st : ZSt z TI TO i1 i2 l1 l2 S xs ys i h) (hk : ∀ b o, b ≠ S → h.get? b = some o → h'.get? b = some o) : ZSt z TI TO i1 i2 l1 l2 S xs ys i h' := by
  obtain ⟨hTI, h1, h2, hl1, hl2, hz⟩ := st
  refine ⟨hk _ _ (Nat.ne_of_lt B.TI) hTI, h1.at fun o e => hk _ o (Nat.ne_of_lt B.i1) e, h2.at fun o e => hk _ o (Nat.ne_of_lt B.i2) e, hl1.at fun o e => hk _ o (Nat.ne_of_lt B.l1) e, hl2.at fun o e => hk _ o (Nat.ne_of_lt B.l2) e, ?_⟩
  rcases hz with ⟨hz, a, b, hTO⟩ | ⟨T, f, oT, hz, hT, r1, r2, r3, r4⟩
  · exact .inl ⟨hk _ _ (Nat.ne_of_lt B.z) hz, a, b, hk _ _ (Nat.ne_of_lt B.TO) hTO⟩
  · exact .inr ⟨T, f, oT, hk _ _ (Nat.ne_of_lt B.z) hz, hk _ _ r4 hT, r1, r2, r3, r4⟩
variable {prog : Program} {w : World} {A : Around} {E : Value → Shared → Prop} {s : Shared}
theorem zl_item {i : Nat} {Q : Option Value → Shared → Prop} (D : ZipApart z TI TO i1 i2 l1 l2) (st : ZSt z TI TO i1 i2 l1 l2 S xs ys i s.heap) (hS : S < s.heap.objs.size) (hi : i < min xs.size ys.size)
    (hQ : ∀ h' x y, xs[i]? = some x → ys[i]? = some y → ZSt z TI TO i1 i2 l1 l2 S xs ys (i + 1) h' → IsPair h' s.heap.objs.size x y → h'.objs.size = s.heap.objs.size + 1 →
      (∀ b o, b ≠ z → b ≠ TO → b ≠ i1 → b ≠ i2 → s.heap.get? b = some o → h'.get? b = some o) → Q (some (.ref s.heap.objs.size)) { s with heap := h' }) :
    wpAny (model prog w) A (pyNext (.ref z)) Q E s := by
  obtain ⟨hTI, h1, h2, hl1, hl2, hz⟩ := st
  have hix : i < xs.size := Nat.lt_of_lt_of_le hi (Nat.min_le_left ..)
  have hiy : i < ys.size := Nat.lt_of_lt_of_le hi (Nat.min_le_right ..)
  have ex := Array.getElem?_eq_getElem hix
  have ey := Array.getElem?_eq_getElem hiy
  have lt : ∀ {c o}, s.heap.get? c = some o → s.heap.objs.size ≠ c := fun e => Nat.ne_of_gt (Heap.lt_size e)
  have n1 : s.heap.objs.size ≠ i1 := let ⟨_, e, _⟩ := h1; lt e
  have n2 : s.heap.objs.size ≠ i2 := let ⟨_, e, _⟩ := h2; lt e
  rcases hz with ⟨hz, a, b, hTO⟩ | ⟨T, f, oT, hz, hT, r1, r2, r3, r4⟩
  · refine wpAny_pyNext_zip_item D hz hTI hTO h1 h2 hl1 hl2 ex ey fun h' a1 a2 a3 a4 a5 a6 hk => ?_
    exact hQ h' _ _ ex ey ⟨hk _ _ D.TIz D.TITO D.TIi1 D.TIi2 hTI, a3, a4, hl1.at fun o e => hk _ o D.l1z D.l1TO D.l1i1 D.l1i2 e, hl2.at fun o e => hk _ o D.l2z D.l2TO D.l2i1 D.l2i2 e,
        .inr ⟨s.heap.objs.size, false, _, a1, a5, lt hz, n1, n2, Nat.ne_of_gt hS⟩⟩ a5 a6 hk
  · refine wpAny_pyNext_zip_item_held D hz hT hTI h1 h2 hl1 hl2 ex ey fun h' a1 a3 a4 a5 a6 hk => ?_
    exact hQ h' _ _ ex ey ⟨hk _ _ D.TIz D.TIi1 D.TIi2 hTI, a3, a4, hl1.at fun o e => hk _ o D.l1z D.l1i1 D.l1i2 e, hl2.at fun o e => hk _ o D.l2z D.l2i1 D.l2i2 e,
        .inr ⟨T, true, oT, a1, hk _ _ r1 r2 r3 hT, r1, r2, r3, r4⟩⟩ a5 a6 fun b o q1 _ q3 q4 e => hk b o q1 q3 q4 e
theorem zl_done {i : Nat} {Q : Option Value → Shared → Prop} (hh : A.handled = none) (D : ZipApart z TI TO i1 i2 l1 l2) (st : ZSt z TI TO i1 i2 l1 l2 S xs ys i s.heap) (hi : min xs.size ys.size ≤ i)
    (hQ : ∀ h', (∀ b o, b ≠ z → b ≠ TO → b ≠ i1 → b ≠ i2 → s.heap.get? b = some o → h'.get? b = some o) → Q none { s with heap := h' }) : wpAny (model prog w) A (pyNext (.ref z)) Q E s := by
  obtain ⟨hTI, h1, h2, hl1, hl2, hz⟩ := st
  have hend : xs[i]? = none ∨ ys[i]? = none := by
    rcases Nat.le_total xs.size ys.size with h | h
    · exact .inl (Array.getElem?_eq_none (by omega))
    · exact .inr (Array.getElem?_eq_none (by omega))
  rcases hz with ⟨hz, a, b, hTO⟩ | ⟨T, f, oT, hz, hT, r1, r2, r3, r4⟩
  · exact wpAny_pyNext_zip_end hh D hz hTI hTO h1 h2 hl1 hl2 hend fun h' hk => hQ h' hk
  · exact wpAny_pyNext_zip_end_held hh D hz hT hTI h1 h2 hl1 hl2 hend fun h' hk => hQ h' fun b o q1 _ q3 q4 e => hk b o q1 q3 q4 e
theorem zl_loop {R : Result → Shared → Prop} (hh : A.handled = none) (D : ZipApart z TI TO i1 i2 l1 l2) (B : Below z TI TO i1 i2 l1 l2 S) (hn : min xs.size ys.size ≤ sizeLine) (res : Value) {h₁ : Heap}
    (hR : ∀ h' tk acc c as, (∀ b o, b ≠ S → b ≠ z → b ≠ TO → b ≠ i1 → b ≠ i2 → h₁.get? b = some o → h'.get? b = some o) → h'.get? S = some { cls := .type "list", dict := none, data := .seq acc c, slots := #[] } → as.length = min xs.size ys.size → ZlG xs ys S h' as →
      acc.toList = as.map Value.ref → R (.ok (.ret res)) { s with heap := h', toks := tk }) :
    ∀ (k i : Nat) (h : Heap) (tk c : Nat) (acc : Array Value) (as : List Addr), min xs.size ys.size - i = k → i ≤ min xs.size ys.size → ZSt z TI TO i1 i2 l1 l2 S xs ys i h → (∀ b o, b ≠ S → b ≠ z → b ≠ TO → b ≠ i1 → b ≠ i2 → h₁.get? b = some o → h.get? b = some o) →
      h.get? S = some { cls := .type "list", dict := none, data := .seq acc c, slots := #[] } → acc.toList = as.map Value.ref → as.length = i → ZlG xs ys S h as →
      codeAny (model prog w) A (.builtin "list.extend.loop" ⟨[.ref S, .ref z, res], []⟩) R { s with heap := h, toks := tk } := by
  intro k
  have nS : S ≠ z ∧ S ≠ TO ∧ S ≠ i1 ∧ S ≠ i2 := ⟨Nat.ne_of_gt B.z, Nat.ne_of_gt B.TO, Nat.ne_of_gt B.i1, Nat.ne_of_gt B.i2⟩
  have nA : ∀ {a : Addr}, S < a → a ≠ S ∧ a ≠ z ∧ a ≠ TO ∧ a ≠ i1 ∧ a ≠ i2 := fun ha => ⟨Nat.ne_of_gt ha, Nat.ne_of_gt (Nat.lt_trans B.z ha), Nat.ne_of_gt (Nat.lt_trans B.TO ha), Nat.ne_of_gt (Nat.lt_trans B.i1 ha), Nat.ne_of_gt (Nat.lt_trans B.i2 ha)⟩
  induction k with
  | zero =>
    intro i h tk c acc as hk hi hst hkeep hS hacc hal hG
    refine codeAny_builtin PySem.F.entry_extend_loop ?_
    rw [Around.under_plainId PySem.F.plain_extend_loop _]
    show wpAny _ A.in1 (pyNext (.ref z) >>= _) _ _ _
    refine wpAny_bind (zl_done (s := { s with heap := h, toks := tk }) (A := A.in1) hh D hst (by omega) fun h' he => ?_)
    refine wpAny_pure (hR h' tk acc c as (fun b o q0 q1 q2 q3 q4 e => he b o q1 q2 q3 q4 (hkeep b o q0 q1 q2 q3 q4 e)) (he S _ nS.1 nS.2.1 nS.2.2.1 nS.2.2.2 hS) (by omega) ⟨hG.rise, hG.above, fun j a hj => ?_⟩ hacc)
    obtain ⟨x, y, e1, e2, e3⟩ := hG.pairs j a hj
    obtain ⟨_, q1, q2, q3, q4⟩ := nA (hG.above a (List.mem_of_getElem? hj))
    exact ⟨x, y, e1, e2, he a _ q1 q2 q3 q4 e3⟩
  | succ k ih =>
    intro i h tk c acc as hk hi hst hkeep hS hacc hal hG
    have hlt : i < min xs.size ys.size := by omega
    have hsz : acc.size = i := by rw [← Array.length_toList, hacc, List.length_map, hal]
    refine codeAny_builtin PySem.F.entry_extend_loop ?_
    rw [Around.under_plainId PySem.F.plain_extend_loop _]
    show wpAny _ A.in1 (pyNext (.ref z) >>= _) _ _ _
    refine wpAny_bind (zl_item (s := { s with heap := h, toks := tk }) D hst (Heap.lt_size hS) hlt fun h' x y ex ey hst' ht hz hkp => ?_)
    dsimp only at ht hz hkp ⊢
    have hS' := hkp S _ nS.1 nS.2.1 nS.2.2.1 nS.2.2.2 hS
    have up : ∀ b o, b ≠ S → h'.get? b = some o → (h'.update S (Obj.mapSeq (·.push (Value.ref h.objs.size)))).get? b = some o := fun b o hb e => (Heap.get?_update_other _ _ (Ne.symm hb)).trans e
    have hSl : S < h.objs.size := Heap.lt_size hS
    show wpAny _ A.in1 (updateSeq S (·.push (Value.ref h.objs.size)) >>= _) _ _ _
    refine wpAny_bind ?_
    refine wpAny_updateSeq hS' rfl (wpAny_pure ⟨plainId_quiet PySem.F.plain_extend_loop _, ih (i + 1) _ tk _ (acc.push (Value.ref h.objs.size)) (as ++ [h.objs.size]) (by omega) hlt (hst'.keep B up)
      (fun b o q0 q1 q2 q3 q4 e => up b o q0 (hkp b o q1 q2 q3 q4 (hkeep b o q0 q1 q2 q3 q4 e))) (Heap.get?_update_self _ hS' rfl) (by rw [Array.toList_push, hacc, List.map_append]; rfl) (by rw [List.length_append, hal]; rfl) ⟨?_, ?_, ?_⟩⟩) (by rw [hsz]; omega) (by rw [Array.size_push, hsz]; omega)
    · refine List.pairwise_append.mpr ⟨hG.rise, List.pairwise_singleton _ _, fun a ha b hb => ?_⟩
      rw [List.mem_singleton.mp hb]
      exact hG.there ha
    · intro a ha
      rcases List.mem_append.mp ha with ha | ha
      · exact hG.above a ha
      · rw [List.mem_singleton.mp ha]; exact hSl
    · intro j b hj
      rcases Nat.lt_trichotomy j as.length with g1 | g1 | g1
      · rw [List.getElem?_append_left g1] at hj
        obtain ⟨x', y', f1, f2, e3⟩ := hG.pairs j b hj
        obtain ⟨q0, q1, q2, q3, q4⟩ := nA (hG.above b (List.mem_of_getElem? hj))
        exact ⟨x', y', f1, f2, up b _ q0 (hkp b _ q1 q2 q3 q4 e3)⟩
      · subst g1
        have hb : h.objs.size = b := by simpa using hj
        subst hb
        subst hal
        exact ⟨x, y, ex, ey, up _ _ (Nat.ne_of_gt hSl) ht⟩
      · have hnone : (as ++ [h.objs.size])[j]? = none := List.getElem?_eq_none (by rw [List.length_append, List.length_singleton]; omega)
        rw [hnone] at hj; cases hj
theorem zl_extend {R : Result → Shared → Prop} (hh : A.handled = none) (D : ZipApart z TI TO i1 i2 l1 l2) (B : Below z TI TO i1 i2 l1 l2 S) (hn : min xs.size ys.size ≤ sizeLine) (st : ZSt z TI TO i1 i2 l1 l2 S xs ys 0 s.heap) (hz0 : ∃ f0, IsZip s.heap z TI TO f0) (res : Value) (c₀ : Nat) (hS : s.heap.get? S = some { cls := .type "list", data := .seq #[] c₀ })
    (hR : ∀ h' tk acc c as, (∀ b o, b ≠ S → b ≠ z → b ≠ TO → b ≠ i1 → b ≠ i2 → s.heap.get? b = some o → h'.get? b = some o) → h'.get? S = some { cls := .type "list", dict := none, data := .seq acc c, slots := #[] } → as.length = min xs.size ys.size → ZlG xs ys S h' as →
      acc.toList = as.map Value.ref → R (.ok (.ret res)) { s with heap := h', toks := tk }) :
    wpAny (model prog w) A.in1 (Builtin.List.listExtendWith (.ref S) (.ref z) res)
      (fun fin s' => match fin with | .done f => R (.ok f) s' | .again c' => c'.quiet = true ∧ codeAny (model prog w) A c' R s') (fun e s' => R (.error e) s') s := by
  obtain ⟨f0, hz0⟩ := hz0
  have hT : s.TypeIs (.ref z) "zip" := ⟨_, hz0, rfl⟩
  unfold Builtin.List.listExtendWith
  refine wpAny_bind (wpAny_typeOf hT ?_)
  have h1 : Builtin.List.listSameRef (.ref S) (.ref z) = false := by simp [Builtin.List.listSameRef, Nat.ne_of_gt B.z]
  have h2 : (Value.type "zip" == Value.type "list") = false := by decide
  have h3 : (Value.type "zip" == Value.type "tuple") = false := by decide
  simp only [h1, h2, h3, Bool.or_false, Bool.false_eq_true, if_false]
  refine wpAny_bind (wpAny_pyIter_zip hz0 ?_)
  refine wpAny_bind (wpAny_holding ?_)
  unfold Builtin.List.listLengthHint
  refine wpAny_bind (wpAny_specialOf hT nolen_zip ?_)
  show wpAny _ A.in1 (specialOf (Value.ref z) (Str.ofString "__length_hint__") >>= _) _ _ _
  refine wpAny_bind (wpAny_specialOf hT nohint_zip ?_)
  refine wpAny_pure ?_
  show wpAny _ A.in1 (rule "list.extend.makes-room" >>= fun _ => Builtin.List.listTouch (.ref S) >>= fun _ =>
    again (.builtin "list.extend.loop" ⟨[.ref S, .ref z, res], []⟩)) _ _ _
  refine wpAny_bind (wpAny_rule ?_)
  refine wpAny_bind ?_
  show wpAny _ A.in1 (updateSeq S (·.push .none) >>= fun _ => updateSeq S (·.pop)) _ _ _
  refine wpAny_bind (wpAny_updateSeq hS rfl ?_)
  have hS₂ := Heap.get?_update_self (Obj.mapSeq (·.push Value.none)) hS rfl
  refine wpAny_updateSeq (hz := by seq_fits) hS₂ rfl ?_
  have hS₃ := Heap.get?_update_self (Obj.mapSeq (·.pop)) hS₂ rfl
  have oth : ∀ b o, b ≠ S → s.heap.get? b = some o → ((s.heap.update S (Obj.mapSeq (·.push Value.none))).update S (Obj.mapSeq (·.pop))).get? b = some o :=
    fun b o hb e => (Heap.get?_update_other _ _ (Ne.symm hb)).trans ((Heap.get?_update_other _ _ (Ne.symm hb)).trans e)
  refine wpAny_pure ⟨plainId_quiet PySem.F.plain_extend_loop _, ?_⟩
  exact zl_loop (h₁ := s.heap) hh D B hn res hR (min xs.size ys.size) 0 _ _ _ #[] [] (Nat.sub_zero _) (Nat.zero_le _) (st.keep B oth) (fun b o q0 _ _ _ _ e => oth b o q0 e) hS₃ rfl rfl
    ⟨List.Pairwise.nil, (fun _ ha => nomatch ha), (fun j a hj => by simp at hj)⟩
theorem zl_call {Q : Value → Shared → Prop} (hh : A.handled = none) (D : ZipApart z TI TO i1 i2 l1 l2) (B : Below z TI TO i1 i2 l1 l2 s.heap.objs.size) (hn : min xs.size ys.size ≤ sizeLine)
    (st : IsPair s.heap TI (.ref i1) (.ref i2) ∧ s.heap.IsListIter i1 l1 0 ∧ s.heap.IsListIter i2 l2 0 ∧ s.heap.IsList l1 xs ∧ s.heap.IsList l2 ys) (hz0 : IsZip s.heap z TI TO .none) (hTO : ∃ a b, IsPair s.heap TO a b)
    (hQ : ∀ h' tk acc c as, (∀ b o, b ≠ z → b ≠ TO → b ≠ i1 → b ≠ i2 → s.heap.get? b = some o → h'.get? b = some o) → h'.get? s.heap.objs.size = some { cls := .type "list", dict := none, data := .seq acc c, slots := #[] } → as.length = min xs.size ys.size → ZlG xs ys s.heap.objs.size h' as →
      acc.toList = as.map Value.ref → Q (.ref s.heap.objs.size) { s with heap := h', toks := tk }) :
    wpAny (model prog w) A (call (.type "list") [.ref z]) Q E s := by
  refine callType_codes (Q₁ := fun obj s₁ => obj = .ref s.heap.objs.size ∧ s₁ = { s with heap := s.heap.push { cls := .type "list", data := .seq #[] } }) PySem.F.called_list (PySem.F.typeCall_list_1 _) PySem.F.entry_list_init
    (code_list_new _ ⟨rfl, rfl⟩) fun obj s₁ h₁ => ?_
  obtain ⟨rfl, rfl⟩ := h₁
  have hS : (s.heap.push { cls := .type "list", data := .seq #[] }).get? s.heap.objs.size = some { cls := .type "list", data := .seq #[] } := Heap.get?_push_size _ rfl
  refine ⟨⟨_, hS, rfl⟩, PySem.F.args_list_init_2 _ _, ?_⟩
  show wpAny _ _ (do let old ← Builtin.List.listItems (.ref s.heap.objs.size); Builtin.List.listUpdate (.ref s.heap.objs.size) (fun _ => #[]); letGo old.toList.reverse; Builtin.List.listExtendWith (.ref s.heap.objs.size) (.ref z) .none) _ _ _
  refine wpAny_bind ?_
  unfold Builtin.List.listItems
  refine wpAny_bind (wpAny_seqItems hS rfl (wpAny_pure ?_))
  show wpAny _ _ (updateSeq s.heap.objs.size (fun _ => #[]) >>= fun _ => letGo (#[] : Array Value).toList.reverse >>= fun _ => Builtin.List.listExtendWith (.ref s.heap.objs.size) (.ref z) .none) _ _ _
  refine wpAny_bind (wpAny_updateSeq hS rfl ?_)
  have hS₂ := Heap.get?_update_self (Obj.mapSeq (fun _ => (#[] : Array Value))) hS rfl
  have oth : ∀ b o, b ≠ s.heap.objs.size → s.heap.get? b = some o → ((s.heap.push { cls := .type "list", data := .seq #[] }).update s.heap.objs.size (Obj.mapSeq (fun _ => (#[] : Array Value)))).get? b = some o :=
    fun b o hb e => (Heap.get?_update_other _ _ (Ne.symm hb)).trans (Heap.get?_push_of_some _ e)
  refine wpAny_bind (wpAny_letGo ?_)
  obtain ⟨hTI, h1, h2, hl1, hl2⟩ := st
  obtain ⟨a, b, hTO⟩ := hTO
  have st' : ZSt z TI TO i1 i2 l1 l2 s.heap.objs.size xs ys 0 ((s.heap.push { cls := .type "list", data := .seq #[] }).update s.heap.objs.size (Obj.mapSeq (fun _ => (#[] : Array Value)))) :=
    ZSt.keep B ⟨hTI, h1, h2, hl1, hl2, .inl ⟨hz0, a, b, hTO⟩⟩ oth
  refine zl_extend (A := A.in1) (S := s.heap.objs.size) hh D B hn st' ⟨_, oth _ _ (Nat.ne_of_lt B.z) hz0⟩ .none _ hS₂ (fun h' tk acc c as hk hS' hl hG hacc => ?_)
  exact ⟨rfl, hQ h' tk acc c as (fun b o q1 q2 q3 q4 e => hk b o (Nat.ne_of_lt (Heap.lt_size e)) q1 q2 q3 q4 (oth b o (Nat.ne_of_lt (Heap.lt_size e)) e)) hS' hl hG hacc⟩
end
end LiZ
end
section
set_option Elab.async false
set_option linter.all false
set_option maxRecDepth 100000
set_option maxHeartbeats 4000000
namespace LiZ
open PySem PySem.Spec PySem.Calls PyProof.Rows L2
/-- pairs tracked at their addresses -/
def putP : Hp → List Addr → List (V × V) → Hp
  | H, a :: as, p :: ps => putP (upd H a (.tup [p.1, p.2])) as ps
  | H, _, _ => H
theorem putP_off {b : Addr} : ∀ (as : List Addr) (ps : List (V × V)) (H : Hp), b ∉ as → putP H as ps b = H b
  | [], _, _, _ => rfl
  | _ :: _, [], _, _ => rfl
  | a :: as, p :: ps, H, h => by
    show putP (upd H a (.tup [p.1, p.2])) as ps b = H b
    rw [putP_off as ps _ (fun z => h (List.mem_cons_of_mem _ z)), upd_ne (fun z => h (by rw [z]; exact List.mem_cons_self))]
theorem putP_at : ∀ (as : List Addr) (ps : List (V × V)) (H : Hp), as.length = ps.length → as.Nodup → Paired (fun (t : Addr) (p : V × V) => putP H as ps t = some (.tup [p.1, p.2])) as ps
  | [], [], _, _, _ => .nil
  | [], _ :: _, _, h, _ => by cases h
  | _ :: _, [], _, h, _ => by cases h
  | a :: as, p :: ps, H, h, hn => by
    have hn' := List.nodup_cons.mp hn
    have ih := putP_at as ps (upd H a (.tup [p.1, p.2])) (Nat.succ.inj h) hn'.2
    refine .cons ?_ ih
    show putP (upd H a (.tup [p.1, p.2])) as ps a = some (.tup [p.1, p.2])
    rw [putP_off as ps _ hn'.1, upd_same]
/-- what list(zip(a, b)) asks -/
def rListZip (K : PySem.W.Frag) : List V → Hp → VK → Prop := fun vs H Q => ∃ (a b : Addr) (xs ys : List V), vs = [.ref a, .ref b] ∧ SqL K H a xs ∧ SqL K H b ys ∧
  ∀ (H' : Hp) (p : Addr) (ts : List Addr), (∀ c o, H c = some o → H' c = some o) → H p = none → (∀ t ∈ ts, H t = none) → H' p = some (.lst (ts.map V.ref)) → Paired (fun (t : Addr) (q : V × V) => H' t = some (.tup [q.1, q.2])) ts (xs.zip ys) → Q (.ref p) H'
def tListZip (K : PySem.W.Frag) (ta : TA) : TE := fun σ H Q => ta σ H fun vs H1 => rListZip K vs H1 Q
section
variable {X : Cx} {e e2 : Expr} {ta : TA} {p p2 pos pos2 : Pos}
theorem vals_get {xs : List V} {us : List Value} (h : Vals xs us) {j : Nat} {u : Value} (hj : us[j]? = some u) : ∃ x, xs[j]? = some x ∧ RelV x u := by
  induction h generalizing j with
  | nil => simp at hj
  | cons r t ih =>
    cases j with
    | zero => simp at hj; subst hj; exact ⟨_, rfl, r⟩
    | succ j => simpa using ih (by simpa using hj)
theorem pe_listZip (hc : X.calm = true) (hg : Gl X "list") (hm : X.mg "list" = none) (hv : bootBuiltins "list" = some (.type "list")) (hg2 : Gl X "zip") (hm2 : X.mg "zip" = none) (ha : PA X [e, e2] ta)
    (hs2 : starEach [e, e2] X.env = (false, eval e X.env) :: starEach [e2] X.env := by rfl) (hpl : (backTo pos2 (starEach [e2] X.env)).any (·.1) = false := by rfl)
    (hs : starEach [.Call (.Name "zip" p2) [e, e2] [] pos2] X.env = (false, eval (.Call (.Name "zip" p2) [e, e2] [] pos2) X.env) :: starEach [] X.env := by rfl) :
    PE X (.Call (.Name "list" p) [.Call (.Name "zip" p2) [e, e2] [] pos2] [] pos) (tListZip X.K ta) := by
  refine ⟨fun pins s σ H Q I h => ?_⟩
  refine wpAny_Call_Name_kw (ld_blt I hg hm hv ?_)
  refine PyProof.Rows.callWith_type1 ?_ hs rfl
  rw [hs]
  show wpAny _ _ (spliced ((false, eval (.Call (.Name "zip" p2) [e, e2] [] pos2) X.env) :: backTo pos (starEach [] X.env))) _ _ s
  refine Calls.spliced_cons ?_
  refine Call_ (ld_blt I hg2 hm2 PyProof.Rows.boot_zip (PyProof.Rows.callWith_type1 (thn (ha.run pos2 pins s σ H _ I h) fun us s1 ⟨vs, H1, I1, r1, q1⟩ => ?_) hs2 hpl))
  obtain ⟨a, b, xs, ys, ex, hqx, hqy, q⟩ := q1
  subst ex
  cases r1 with
  | cons r rr =>
    cases rr with
    | cons r' rr =>
      cases rr
      cases r
      cases r'
      obtain ⟨its, rv, pl1, z1⟩ := I1.list hqx
      obtain ⟨its2, rv2, pl2, z2⟩ := I1.list hqy
      have la : a < s1.heap.objs.size := pl1.lt
      have lb : b < s1.heap.objs.size := pl2.lt
      have l1 : its.length = xs.length := (Paired.length rv).symm
      have l2 : its2.length = ys.length := (Paired.length rv2).symm
      have D := PySem.W.ktu_apart s1.heap.objs.size a b la lb
      refine call_zip_2 pl1.isList pl2.isList fun h' hz hTI hTO h1 h2 hsz hk => ?_
      have I2 : Inv X pins σ H1 { s1 with heap := h' } := I1.kept (t' := s1.toks) hk
      refine Calls.spliced_nil ?_
      have hsz' : h'.objs.size = s1.heap.objs.size + 5 := hsz
      have B : Below (s1.heap.objs.size + 4) (s1.heap.objs.size + 2) (s1.heap.objs.size + 3) s1.heap.objs.size (s1.heap.objs.size + 1) a b h'.objs.size := by
        rw [hsz']
        refine ⟨?_, ?_, ?_, ?_, ?_, ?_, ?_⟩ <;> (show (_ : Nat) < _) <;> first | omega | exact Nat.lt_trans la (by omega) | exact Nat.lt_trans lb (by omega)
      refine zl_call (s := { s1 with heap := h' }) (xs := its.toArray) (ys := its2.toArray) (I1.ok.hd hc) D B (by rw [List.size_toArray, List.size_toArray]; omega) ⟨hTI, h1, h2, pl1.isList.at fun o x => hk _ o x, pl2.isList.at fun o x => hk _ o x⟩ hz ⟨_, _, hTO⟩ fun h2' tk acc c as hk2 hS hl hG hacc => ?_
      dsimp only at hk2 hS hl hG ⊢
      rw [List.size_toArray, List.size_toArray, l1, l2] at hl
      have low : ∀ c, c < s1.heap.objs.size → c ≠ s1.heap.objs.size + 4 ∧ c ≠ s1.heap.objs.size + 3 ∧ c ≠ s1.heap.objs.size ∧ c ≠ s1.heap.objs.size + 1 := fun c hc => by
        have hc : (c : Nat) < s1.heap.objs.size := hc
        refine ⟨?_, ?_, ?_, ?_⟩ <;> (intro z; have z : (c : Nat) = _ := z; omega)
      have keep : ∀ c o, s1.heap.get? c = some o → h2'.get? c = some o := fun c o ho => by
        obtain ⟨q1, q2, q3, q4⟩ := low c (Heap.lt_size ho)
        exact hk2 c o q1 q2 q3 q4 (hk c o ho)
      have hle : s1.heap.objs.size ≤ h'.objs.size := by rw [hsz']; exact Nat.le_add_right _ _
      have nd : as.Nodup := List.Pairwise.imp (fun {a b} (h : a < b) => Nat.ne_of_lt h) hG.rise
      have new : ∀ t ∈ as, H1 t = none := fun t ht => I1.hok.fresh (Nat.le_trans hle (Nat.le_of_lt (hG.above t ht)))
      have newS : H1 h'.objs.size = none := I1.hok.fresh hle
      have hSn : h'.objs.size ∉ as := fun z => Nat.lt_irrefl _ (hG.above _ z)
      have lz : as.length = (xs.zip ys).length := by rw [List.length_zip]; exact hl
      have atP := putP_at as (xs.zip ys) (upd H1 h'.objs.size (.lst (as.map V.ref))) lz nd
      have off : ∀ b, b ∉ as → b ≠ h'.objs.size → putP (upd H1 h'.objs.size (.lst (as.map V.ref))) as (xs.zip ys) b = H1 b := fun b h1 h2 => by rw [putP_off as _ _ h1, upd_ne h2]
      have kp : ∀ b u, H1 b = some u → (putP (upd H1 h'.objs.size (.lst (as.map V.ref))) as (xs.zip ys)) b = some u := fun b u e => by
        rw [off b (fun z => by rw [new b z] at e; cases e) (fun z => by rw [z, newS] at e; cases e)]
        exact e
      have eS : putP (upd H1 h'.objs.size (.lst (as.map V.ref))) as (xs.zip ys) h'.objs.size = some (.lst (as.map V.ref)) := by rw [putP_off as _ _ hSn, upd_same]
      refine ⟨.ref h'.objs.size, putP (upd H1 h'.objs.size (.lst (as.map V.ref))) as (xs.zip ys), ?_, rfl, q _ _ as kp newS new eS atP⟩
      refine I1.call' (ch := []) rfl ⟨fun b o q _ _ _ => keep b o q, fun b o q _ _ _ => ⟨o.slots, keep b o q⟩, fun b o q n _ => ?_, fun b o q _ => ⟨o, keep b o q⟩, fun b xs q => kp b _ q, fun b o u q => kp b _ q, fun b ps q => ⟨#[], by rw [kp b _ q]; simp⟩⟩ (fun b u q => ?_) I1.bare fun b z => by simp at z
      · have z1 : b ∉ as := fun z => absurd (Heap.lt_size q) (Nat.not_lt.mpr (Nat.le_trans hle (Nat.le_of_lt (hG.above b z))))
        have z2 : b ≠ h'.objs.size := Nat.ne_of_lt (Nat.lt_of_lt_of_le (Heap.lt_size q) hle)
        rw [off b z1 z2]
        exact n
      · by_cases hb : b ∈ as
        · obtain ⟨j, pk, e1, e2, e3⟩ := LiI.paired_ix atP hb
          rw [e3] at q
          cases q
          obtain ⟨x, y, f1, f2, f3⟩ := hG.pairs j b e1
          have f1 : its[j]? = some x := by simpa using f1
          have f2 : its2[j]? = some y := by simpa using f2
          obtain ⟨x', g1, g2⟩ := vals_get rv f1
          obtain ⟨y', g3, g4⟩ := vals_get rv2 f2
          have e4 : (xs.zip ys)[j]? = some (x', y') := by rw [List.getElem?_zip_eq_some]; exact ⟨g1, g3⟩
          rw [e4] at e2
          cases e2
          exact ⟨by show 2 ≤ sizeLine; decide, [x, y], .cons g2 (.cons g4 .nil), ⟨_, f3, rfl, _, rfl⟩⟩
        · by_cases hb2 : b = h'.objs.size
          · rw [hb2] at q ⊢
            rw [eS] at q
            cases q
            refine ⟨by rw [List.length_map]; omega, acc.toList, c, by rw [hacc]; exact LiI.vals_refs as, ?_⟩
            rw [Array.toArray_toList]
            exact hS
          · rw [off b hb hb2] at q
            exact (I1.hok b u q).stay (fun d v _ y => keep d v y) (fun d y => kp d _ y) fun d xs y => kp d _ y
end
end LiZ
end
section
set_option Elab.async false
set_option linter.all false
set_option maxRecDepth 100000
set_option maxHeartbeats 4000000
namespace Dl
open PySem L2
section
variable {K : PySem.W.Frag} {Wx : WX} {b : Bs} {R : Hp} {ρ : Nat → Addr} {e : Env} {σ : St} {H : Hp}
/-- the heap grows by objects that are frozen at once -/
theorem Md.grow2 (m : Md K b R ρ e σ H) {H' R2 : Hp} (s : Same H H') (s1 : Same R R2) (s2 : Same R2 H') (hn : ∀ a o, R2 a = some o → R a = some o ∨ H a = none) : Md K b R2 ρ e σ H' where
  slot := fun i w h => let ⟨v, h1, h2⟩ := m.slot i w h; ⟨v, h1, h2.mono s1⟩
  cell := fun n c hc => by
    have h := m.cell n c hc
    obtain ⟨o, ho⟩ := h.some
    exact h.mono s1 (by rw [s _ _ ho, ho]) fun _ _ => rfl
  inj := m.inj
  own := fun n c hc => by
    refine ⟨?_, (m.own n c hc).2⟩
    cases h : R2 (ρ n) with
    | none => rfl
    | some o =>
      rcases hn _ _ h with z | z
      · rw [(m.own n c hc).1] at z; cases z
      · obtain ⟨o', ho⟩ := (m.cell n c hc).some
        rw [z] at ho; cases ho
  par := m.par
  npl := m.npl
  sub := s2
  ext := m.ext.trans s1
  new := fun a o h => by
    rcases hn _ _ h with z | z
    · exact m.new a o z
    · exact .inr (m.fresh0 z)
  frame := fun a o h n => s _ _ (m.frame a o h n)
  there := fun a o h => let ⟨o', q⟩ := m.there a o h; ⟨o', s _ _ q⟩
  len := m.len
theorem zip_reps {R2 : Hp} : ∀ {xs ys : List D} {vs us : List V} {ts : List Addr}, RepL K R2 xs vs → RepL K R2 ys us → Paired (fun (t : Addr) (q : V × V) => R2 t = some (.tup [q.1, q.2])) ts (vs.zip us) → RepL K R2 (zipL xs ys) (ts.map V.ref)
  | [], ys, _, us, ts, .nil, _, p => by
    cases p
    exact .nil
  | x :: xs, [], _, _, ts, .cons a t, .nil, p => by
    rw [List.zip_nil_right] at p
    cases p
    exact .nil
  | x :: xs, y :: ys, _, _, _, .cons a t, .cons c u, .cons h p => .cons (.tup h (.cons a (.cons c .nil))) (zip_reps t u p)
def kLZ : List W → Ev := fun ws e => match ws with
  | [.d (.lst xs), .d (.lst ys)] => .ok (.d (.lst (zipL xs ys))) e
  | _ => .fail
end
section
variable {X : Cx} {Wx : WX} {a c : Expr} {p p2 pos pos2 : Pos}
theorem d_listZip {f g : Ev} (hc : X.calm = true) (hg : Gl X "list") (hm : X.mg "list" = none) (hv : bootBuiltins "list" = some (.type "list")) (hg2 : Gl X "zip") (hm2 : X.mg "zip" = none) (ha : PA X [a, c] (tDA X.K Wx (evA [f, g])))
    (hs2 : starEach [a, c] X.env = (false, eval a X.env) :: starEach [c] X.env := by rfl) (hpl : (backTo pos2 (starEach [c] X.env)).any (·.1) = false := by rfl)
    (hs : starEach [.Call (.Name "zip" p2) [a, c] [] pos2] X.env = (false, eval (.Call (.Name "zip" p2) [a, c] [] pos2) X.env) :: starEach [] X.env := by rfl) :
    PE X (.Call (.Name "list" p) [.Call (.Name "zip" p2) [a, c] [] pos2] [] pos) (tD X.K Wx (eCB kLZ [f, g])) := (LiZ.pe_listZip hc hg hm hv hg2 hm2 ha hs2 hpl hs).imp fun σ H Q q =>
  tG_one q fun bs R ρ e H ws vs m r q2 => by
    unfold kLZ at q2
    split at q2
    · obtain ⟨v, u, e1, rv, ru⟩ := pair2 r
      subst e1
      have rv : Rep X.K R _ v := rv
      have ru : Rep X.K R _ u := ru
      cases rv with
      | lst h1 l1 =>
        cases ru with
        | lst h2 l2 =>
          refine ⟨_, _, _, _, rfl, SqL.of (m.sub _ _ h1), SqL.of (m.sub _ _ h2), fun H' p ts hk hp hts hP hT => ?_⟩
          let R2 : Hp := fun x => if x = p ∨ x ∈ ts then H' x else R x
          have hRn : ∀ x, H x = none → R x = none := fun x hx => m.freshR hx
          have s1 : Same R R2 := fun x o h => by
            show (if x = p ∨ x ∈ ts then H' x else R x) = some o
            split
            · rename_i hx
              rcases hx with rfl | hx
              · rw [hRn _ hp] at h; cases h
              · rw [hRn _ (hts x hx)] at h; cases h
            · exact h
          have s2 : Same R2 H' := fun x o h => by
            have h : (if x = p ∨ x ∈ ts then H' x else R x) = some o := h
            split at h
            · exact h
            · exact hk _ _ (m.sub _ _ h)
          have hn : ∀ x o, R2 x = some o → R x = some o ∨ H x = none := fun x o h => by
            have h : (if x = p ∨ x ∈ ts then H' x else R x) = some o := h
            split at h
            · rename_i hx
              rcases hx with rfl | hx
              · exact .inr hp
              · exact .inr (hts x hx)
            · exact .inl h
          have m' := m.grow2 hk s1 s2 hn
          have eP : R2 p = some (.lst (ts.map V.ref)) := by
            show (if p = p ∨ p ∈ ts then H' p else R p) = _
            rw [if_pos (.inl rfl)]; exact hP
          have eT : Paired (fun (t : Addr) (q : V × V) => R2 t = some (.tup [q.1, q.2])) ts _ := Paired.monoMem hT fun t q ht h => by
            show (if t = p ∨ t ∈ ts then H' t else R t) = _
            rw [if_pos (.inr ht)]; exact h
          exact q2 R2 ρ (.ref p) H' s1 (Live.refl e ρ) m' (.lst eP (zip_reps (RepL.mono s1 l1) (RepL.mono s1 l2) eT))
    · exact q2.elim
@[simp] theorem kLZ_ev {xs ys : List D} {e : Env} : kLZ [.d (.lst xs), .d (.lst ys)] e = .ok (.d (.lst (zipL xs ys))) e := rfl
end
end Dl
end
section
set_option Elab.async false
set_option linter.all false
set_option maxRecDepth 100000
set_option maxHeartbeats 4000000
/-! a op b op c op d, as a test -/
namespace L2
open PySem PySem.Spec PyProof.Rows
section
variable {X : Cx} {a b c d : Expr} {ta tb tc td : TE} {pos : Pos}
def tChain3 (r r' r'' : R2) (ta tb tc td : TE) : TT := fun σ H Q => ta σ H fun x H1 => tb σ H1 fun y H2 => r x y H2 fun z H3 => ∃ k, z = .bl k ∧
  (if k = true then tc σ H3 fun w' H4 => r' y w' H4 fun z' H5 => ∃ k', z' = .bl k' ∧ (if k' = true then td σ H5 fun u' H6 => r'' w' u' H6 fun x H' => ∃ k, x = .bl k ∧ Q k H' else Q false H5) else Q false H3)
theorem pt_chain3 {op op' op'' : CmpOp} {r r' r'' : R2} (ho : OpR X (compareOp op) r) (ho' : OpR X (compareOp op') r') (ho'' : OpR X (compareOp op'') r'') (ha : PE X a ta) (hb : PE X b tb) (hc : PE X c tc) (hd : PE X d td)
    (hm : lastMarks [op, op', op''] [b, c, d] = false := by with_unfolding_all rfl) : PT X (.Compare a [op, op', op''] [b, c, d] pos) (tChain3 r r' r'' ta tb tc td) := by
  refine ⟨fun pins s σ H Q I h => ?_⟩
  refine isTrue_chain (thn (ha.run pins s σ H _ I h) fun v s1 ⟨x, H1, I1, r1, q1⟩ => test_link (thn (hb.run pins s1 σ H1 _ I1 q1) fun u s2 ⟨y, H2, I2, r2, q2⟩ =>
    thn (ho pins s2 σ H2 x y v u _ I2 r1 r2 q2) fun d s3 ⟨z, H3, I3, r3, k, e, q3⟩ => ?_)) hm
  subst e
  cases r3
  refine wpAny_truthy_bool ?_
  cases k with
  | false => exact ite_ff ⟨H3, I3, q3⟩
  | true =>
    refine ite_tt (test_link (thn (hc.run pins s3 σ H3 _ I3 q3) fun w' s4 ⟨z', H4, I4, r4, q4⟩ => thn (ho' pins s4 σ H4 y z' u w' _ I4 r2 r4 q4) fun d' s5 ⟨z2, H5, I5, r5, k2, e2, q5⟩ => ?_))
    subst e2
    cases r5
    refine wpAny_truthy_bool ?_
    cases k2 with
    | false => exact ite_ff ⟨H5, I5, q5⟩
    | true =>
      refine ite_tt (test_last (thn (hd.run pins s5 σ H5 _ I5 q5) fun u' s6 ⟨z3, H6, I6, r6, q6⟩ => thn (ho'' pins s6 σ H6 z' z3 w' u' _ I6 r4 r6 q6) fun d' s7 ⟨z4, H7, I7, r7, k3, e3, q7⟩ => ?_))
      subst e3
      cases r7
      exact wpAny_truthy_bool ⟨H7, I7, q7⟩
end
end L2
namespace Dl
open PySem L2
section
variable {X : Cx} {Wx : WX} {a b c d : Expr} {pos : Pos}
def ch3b (g' g'' : D → D → Option Bool) (w2 : W) (f3 f4 : Ev) : Env → Rs Bool := fun e => (f3 e).bind fun w3 e3 => (kB2 g' w2 w3 e3).bind fun k e4 => if k = true then (if wl e4 w3 = true then (f4 e4).bind (kB2 g'' w3) else .fail) else .ok false e4
def bChain3 (g g' g'' : D → D → Option Bool) (f1 f2 f3 f4 : Ev) : Env → Rs Bool := bin2 f1 f2 fun w1 w2 e => (kB2 g w1 w2 e).bind fun k e1 => if k = true then (if wl e1 w2 = true then ch3b g' g'' w2 f3 f4 e1 else .fail) else .ok false e1
theorem t_chain3 {op op' op'' : CmpOp} {r r' r'' : R2} {g g' g'' : D → D → Option Bool} {f1 f2 f3 f4 : Ev} (ho : OpR X (compareOp op) r) (ho' : OpR X (compareOp op') r') (ho'' : OpR X (compareOp op'') r'') (hd : OpB X.K g r) (hd' : OpB X.K g' r') (hd'' : OpB X.K g'' r'')
    (ha : PE X a (tD X.K Wx f1)) (hb : PE X b (tD X.K Wx f2)) (hc : PE X c (tD X.K Wx f3)) (he : PE X d (tD X.K Wx f4))
    (hm : lastMarks [op, op', op''] [b, c, d] = false := by with_unfolding_all rfl) : PT X (.Compare a [op, op', op''] [b, c, d] pos) (tDT X.K Wx (bChain3 g g' g'' f1 f2 f3 f4)) := by
  refine (pt_chain3 ho ho' ho'' ha hb hc he hm).imp fun σ H Q h => ?_
  refine tG_two h fun bs R ρ e H2 w1 w2 v1 v2 m r1 r2 q => ?_
  cases w1 with
  | loc n => exact q.elim
  | d x =>
    cases w2 with
    | loc n => exact q.elim
    | d y =>
      unfold kB2 at q
      cases hg : g x y with
      | none => simp only [hg] at q; exact q.elim
      | some z =>
        simp only [hg, Rs.bind] at q
        refine hd x y z v1 v2 R H2 _ hg r1 r2 m.sub ⟨z, rfl, ?_⟩
        cases z with
        | false => exact q.fin m rfl
        | true =>
          rw [if_pos rfl] at q
          rw [if_pos rfl]
          have q : OkR X.K Wx lB bs R ρ e σ Q ((f3 e).bind fun w3 e3 => (kB2 g' (.d y) w3 e3).bind fun k e4 => if k = true then (if wl e4 w3 = true then (f4 e4).bind (kB2 g'' w3) else .fail) else .ok false e4) := q
          refine ⟨bs, R, ρ, e, m, (OkR.bind (L := lW X.K) q).imp fun v H4 h2 => ?_⟩
          obtain ⟨R2, ρ2, e2, w3, s2, l2, m2, r3, _, q2⟩ := h2
          cases w3 with
          | loc n => exact q2.elim
          | d z =>
            unfold kB2 at q2
            cases hg2 : g' y z with
            | none => simp only [hg2] at q2; exact q2.elim
            | some k2 =>
              simp only [hg2, Rs.bind] at q2
              refine hd' y z k2 v2 v R2 H4 _ hg2 (RepW.mono (w := .d y) s2 r2) r3 m2.sub ⟨k2, rfl, ?_⟩
              cases k2 with
              | false => exact q2.fin m2 rfl
              | true =>
                rw [if_pos rfl] at q2
                rw [if_pos rfl]
                have q2 : OkR X.K Wx lB bs R2 ρ2 e2 σ Q ((f4 e2).bind (kB2 g'' (W.d z))) := q2
                refine ⟨bs, R2, ρ2, e2, m2, (OkR.bind (L := lW X.K) q2).imp fun v' H6 h6 => ?_⟩
                obtain ⟨R3, ρ3, e3, w4, s3, l3, m3, r4, _, q3⟩ := h6
                exact hd''.run (Wx := Wx) m3 (RepW.mono (w := .d z) s3 r3) r4 q3
end
section
variable {e : Env} {f1 f2 f3 f4 : Ev} {g g' g'' : D → D → Option Bool} {w2 w3 : W} {x y z : D}
def c3a (g' g'' : D → D → Option Bool) (w2 : W) (r : Rs Bool) (f3 f4 : Ev) : Rs Bool := r.bind fun k e1 => if k = true then (if wl e1 w2 = true then ch3b g' g'' w2 f3 f4 e1 else .fail) else .ok false e1
def c3b (g' g'' : D → D → Option Bool) (w2 : W) (r : Rs W) (f4 : Ev) : Rs Bool := r.bind fun w3 e3 => (kB2 g' w2 w3 e3).bind fun k e4 => if k = true then (if wl e4 w3 = true then (f4 e4).bind (kB2 g'' w3) else .fail) else .ok false e4
def c3c (g'' : D → D → Option Bool) (w3 : W) (r : Rs Bool) (f4 : Ev) : Rs Bool := r.bind fun k e4 => if k = true then (if wl e4 w3 = true then (f4 e4).bind (kB2 g'' w3) else .fail) else .ok false e4
def c3d (g'' : D → D → Option Bool) (w3 : W) (r : Rs W) : Rs Bool := r.bind (kB2 g'' w3)
def c3k (g g' g'' : D → D → Option Bool) (f3 f4 : Ev) (w1 w2 : W) (e : Env) : Rs Bool := c3a g' g'' w2 (kB2 g w1 w2 e) f3 f4
@[simp] theorem bChain3_ev : bChain3 g g' g'' f1 f2 f3 f4 e = b2a (f1 e) f2 (c3k g g' g'' f3 f4) := rfl
@[simp] theorem c3k_ev {w1 : W} : c3k g g' g'' f3 f4 w1 w2 e = c3a g' g'' w2 (kB2 g w1 w2 e) f3 f4 := rfl
@[simp] theorem c3a_t {k : Bool} : c3a g' g'' (.d y) (.ok k e) f3 f4 = if k = true then c3b g' g'' (.d y) (f3 e) f4 else .ok false e := rfl
@[simp] theorem c3b_ok : c3b g' g'' (.d y) (.ok w3 e) f4 = c3c g'' w3 (kB2 g' (.d y) w3 e) f4 := rfl
@[simp] theorem c3c_ok {k : Bool} : c3c g'' (.d z) (.ok k e) f4 = if k = true then c3d g'' (.d z) (f4 e) else .ok false e := rfl
@[simp] theorem c3d_ok : c3d g'' (.d z) (.ok w2 e) = kB2 g'' (.d z) w2 e := rfl
end
end Dl
end
section
set_option Elab.async false
set_option linter.all false
set_option maxRecDepth 100000
set_option maxHeartbeats 4000000
namespace Dl
open PySem L2
/-! raise of an own exception class whose __init__ stores several fields -/
def spXIn (C : Addr) (fs : List Str) : Sp := fun vs H Q _ => ∃ (a : Addr) (us : List V), vs = .ref a :: us ∧ us.length = fs.length ∧ H a = some (exo a C none) ∧ ∀ dx, H dx = none → dx ≠ a → Q .non (upd (upd H dx (exd dx (fs.zip us).reverse)) a (exo a C (some dx)))
structure XClsN (K : PySem.W.Frag) (C fI : Addr) (fs : List Str) : Prop where
  ox : OexC K C
  no : ∀ f ∈ fs, PySem.W.findIn K (.ref C) f = some none
  iC : PySem.W.findIn K (.ref C) "__init__" = some (some (.ref fI))
  tI : PySem.W.typeIn K (.ref fI) = some (.type "function")
theorem XClsN.one {K : PySem.W.Frag} {C fI : Addr} {f : Str} (T : XClsN K C fI [f]) : XCls K C fI f := ⟨T.ox, T.no f List.mem_cons_self, T.iC, T.tI⟩
def dsOf : List W → Option (List D) := toDs
def sRaiseN (C : Addr) (fs : List Str) (gs : List Ev) : Sv := fun e => match evA gs e with
  | .ok ws e1 => (match toDs ws with
    | some ds => if ds.length = fs.length then .exn ⟨C, some (fs.zip ds).reverse⟩ e1 else .fail
    | none => .fail)
  | .exn x e1 => .exn x e1
  | .fail => .fail
theorem zip_names {α : Type} : ∀ {fs : List Str} {ds : List D} {vs : List α}, ds.length = fs.length → vs.length = fs.length → ((fs.zip vs).reverse).map (·.1) = ((fs.zip ds).reverse).map (·.1)
  | fs, ds, vs, h1, h2 => by
    rw [List.map_reverse, List.map_reverse, List.map_fst_zip (by omega), List.map_fst_zip (by omega)]
theorem zip_vals {K : PySem.W.Frag} {R : Hp} {fs : List Str} {ds : List D} {vs : List V} (h1 : ds.length = fs.length) (h2 : vs.length = fs.length) (r : RepL K R ds vs) : RepL K R (((fs.zip ds).reverse).map (·.2)) (((fs.zip vs).reverse).map (·.2)) := by
  rw [List.map_reverse, List.map_reverse, List.map_snd_zip (by omega), List.map_snd_zip (by omega)]
  exact r.reverse
section
variable {X : Cx} {Wx : WX} {a : Expr} {es : List Expr} {pos pos2 p : Pos} {g : Ev} {gs : List Ev} {C fI : Addr} {fs : List Str} {cn : Str} {k : Nat} {fd : FuncData} {ps : List Str} {CX : CXT}
theorem s_raiseN (hc : X.calm = true) (T : XClsN X.K C fI fs) (F1 : FnOk X.prog X.w X.K X.mg X.base CX k fI fd ps (spXIn C fs)) (hr : Room (k + 1) X.A) (hb : Binds X.K fd ps []) (hx : Passes CX X (fun _ _ _ => False)) (tk : L2.Takes X Wx)
    (hg : Gl X cn) (hm : X.mg cn = some (.ref C)) (ha : PA X (a :: es) (tDA X.K Wx (evA (g :: gs)))) (hdb : (cn == ("__debug__" : Str)) = false := by decide)
    (he : starEach (a :: es) X.env = (false, eval a X.env) :: starEach es X.env := by rfl) (hpl : (backTo pos (starEach es X.env)).any (·.1) = false := by rfl) (hlen : fs.length ≤ 900 := by decide) :
    PS X (.Raise (some (.Call (.Name cn p) (a :: es) [] pos)) none pos2) (tS X.K Wx (sRaiseN C fs (g :: gs))) :=
  (ps_raise hc tk (pmk_oex T.ox T.iC T.tI F1 hr hb .nil hx hg hm ha hdb he hpl)).imp fun D σ H h => by
    obtain ⟨b, R, ρ, e, m, q⟩ := h
    refine ⟨b, R, ρ, e, m, ?_⟩
    unfold sRaiseN at q
    cases hge : evA (g :: gs) e with
    | fail => rw [hge] at q; exact q.elim
    | exn x e1 =>
      rw [hge] at q
      exact q
    | ok ws e1 =>
      rw [hge] at q
      dsimp only at q
      cases hd : toDs ws with
      | none => rw [hd] at q; exact q.elim
      | some ds =>
        rw [hd] at q
        dsimp only at q
        split at q
        · rename_i hl
          intro R' ρ' vs H1 s l m' r
          have rl : RepL X.K R' ds vs := toDs_rep hd r
          have hvl : vs.length = fs.length := by rw [← rl.length]; exact hl
          refine ⟨by rw [hvl]; omega, fun a na => ⟨a, vs, by rw [List.append_nil], hvl, upd_same, fun dx hdx hne => ⟨rfl, dx, (fs.zip vs).reverse, upd_same, by rw [upd_ne hne, upd_same], by rw [upd_ne hne] at hdx; exact hdx, ?_⟩⟩⟩
          have hd1 : H1 dx = none := by rw [upd_ne hne] at hdx; exact hdx
          show Wx (.ref C) (some dx) σ (upd (del (upd (upd (upd H1 a _) dx _) a _) a) dx (.xd _))
          rw [del_upd na hne]
          have sm : Same R' (upd R' dx (.xd (fs.zip vs).reverse)) := same_upd (m'.freshR hd1)
          exact q _ ρ' σ _ _ _ (s.trans sm) (m'.freshD hd1 _) ⟨rfl, dx, (fs.zip vs).reverse, rfl, upd_same, zip_names hl hvl, zip_vals hl hvl (RepL.mono sm rl)⟩
        · exact q.elim
end
/-! the __init__ of such a class -/
section
variable {P : Program} {w : World} {K : PySem.W.Frag} {mg : Str → Option Value} {base : Heap} {x qual : Str} {params : Arguments} {body : List Stmt} {scope : Scope} {kws : List (Str × V)} {C fI : Addr} {fd : FuncData}
theorem upd_twice {H : Hp} {a dx : Addr} {o1 o2 o3 : HO} (h : dx ≠ a) : upd (upd (upd H dx o1) a o2) dx o3 = upd (upd H dx o3) a o2 := by
  funext b
  by_cases hb : b = dx
  · subst hb
    rw [upd_same, upd_ne h, upd_same]
  · rw [upd_ne hb]
    by_cases ha : b = a
    · subst ha
      rw [upd_same, upd_same]
    · rw [upd_ne ha, upd_ne hb, upd_ne ha, upd_ne hb]
theorem fnX1_ok {s0 p1 f1 : Str} (F : FunD K x qual params body scope [] kws fI fd) (S : FnScope [s0, p1] [s0, p1] scope) (T : XClsN K C fI [f1])
    (hb : ∀ (cdv : Value) (A : Around) (outer : List PySem.Env) (s : Shared) (H : Hp) (E : XK), PSs (cxOf (L2.CX P w) P w K mg base [s0, p1] qual scope fI cdv A outer s H E) body (tOst K f1 (tVar 0) (tVar 1))) :
    FnOk P w K mg base (L2.CX P w) 1 fI fd [s0, p1] (spXIn C [f1]) := by
  refine F.ok (k := 0) (CX := L2.CX P w) S (fun vs H Q E h => ?_) (fun cdv A outer s H vs Q E hr h => ⟨_, hb cdv A outer s H E, ?_⟩)
  · obtain ⟨a, us, rfl, hl, _⟩ := h
    simp at hl ⊢; exact hl
  · obtain ⟨a, us, rfl, hl, ha, q⟩ := h
    match us, hl with
    | [v], _ => exact ⟨v, rfl, .ref a, rfl, a, C, rfl, T.ox, T.no f1 List.mem_cons_self, .inl ⟨ha, fun dx n ne => q dx n ne⟩⟩
theorem fnX2_ok {s0 p1 p2 f1 f2 : Str} (F : FunD K x qual params body scope [] kws fI fd) (S : FnScope [s0, p1, p2] [s0, p1, p2] scope) (T : XClsN K C fI [f1, f2])
    (hb : ∀ (cdv : Value) (A : Around) (outer : List PySem.Env) (s : Shared) (H : Hp) (E : XK), PSs (cxOf (L2.CX P w) P w K mg base [s0, p1, p2] qual scope fI cdv A outer s H E) body (fun D σ H => tOst K f1 (tVar 0) (tVar 1) { D with nx := tOst K f2 (tVar 0) (tVar 2) D } σ H)) :
    FnOk P w K mg base (L2.CX P w) 1 fI fd [s0, p1, p2] (spXIn C [f1, f2]) := by
  refine F.ok (k := 0) (CX := L2.CX P w) S (fun vs H Q E h => ?_) (fun cdv A outer s H vs Q E hr h => ⟨_, hb cdv A outer s H E, ?_⟩)
  · obtain ⟨a, us, rfl, hl, _⟩ := h
    simp at hl ⊢; exact hl
  · obtain ⟨a, us, rfl, hl, ha, q⟩ := h
    match us, hl with
    | [v, u], _ =>
      refine ⟨v, rfl, .ref a, rfl, a, C, rfl, T.ox, T.no f1 List.mem_cons_self, .inl ⟨ha, fun dx n ne => ?_⟩⟩
      refine ⟨u, rfl, .ref a, rfl, a, C, rfl, T.ox, T.no f2 (by simp), .inr ⟨dx, _, upd_same, by rw [upd_ne ne, upd_same], by simp, ?_⟩⟩
      rw [upd_twice ne]
      exact q dx n ne
theorem fnX3_ok {s0 p1 p2 p3 f1 f2 f3 : Str} (F : FunD K x qual params body scope [] kws fI fd) (S : FnScope [s0, p1, p2, p3] [s0, p1, p2, p3] scope) (T : XClsN K C fI [f1, f2, f3])
    (hb : ∀ (cdv : Value) (A : Around) (outer : List PySem.Env) (s : Shared) (H : Hp) (E : XK), PSs (cxOf (L2.CX P w) P w K mg base [s0, p1, p2, p3] qual scope fI cdv A outer s H E) body (fun D σ H => tOst K f1 (tVar 0) (tVar 1) { D with nx := fun σ H => tOst K f2 (tVar 0) (tVar 2) { D with nx := tOst K f3 (tVar 0) (tVar 3) D } σ H } σ H)) :
    FnOk P w K mg base (L2.CX P w) 1 fI fd [s0, p1, p2, p3] (spXIn C [f1, f2, f3]) := by
  refine F.ok (k := 0) (CX := L2.CX P w) S (fun vs H Q E h => ?_) (fun cdv A outer s H vs Q E hr h => ⟨_, hb cdv A outer s H E, ?_⟩)
  · obtain ⟨a, us, rfl, hl, _⟩ := h
    simp at hl ⊢; exact hl
  · obtain ⟨a, us, rfl, hl, ha, q⟩ := h
    match us, hl with
    | [v, u, z], _ =>
      refine ⟨v, rfl, .ref a, rfl, a, C, rfl, T.ox, T.no f1 List.mem_cons_self, .inl ⟨ha, fun dx n ne => ?_⟩⟩
      refine ⟨u, rfl, .ref a, rfl, a, C, rfl, T.ox, T.no f2 (by simp), .inr ⟨dx, _, upd_same, by rw [upd_ne ne, upd_same], by simp, ?_⟩⟩
      rw [upd_twice ne]
      refine ⟨z, rfl, .ref a, rfl, a, C, rfl, T.ox, T.no f3 (by simp), .inr ⟨dx, _, upd_same, by rw [upd_ne ne, upd_same], by simp, ?_⟩⟩
      rw [upd_twice ne]
      exact q dx n ne
end
/-! the head's facts -/
def xBn (K : PySem.W.Frag) (x : Str) (fs : List Str) : Bool := oexB K (He.ga K x) && (He.eqO (PySem.W.findIn K (.ref (He.ga K x)) "__setattr__") (some (some (.builtin "object.__setattr__"))) &&
  (decide (PySem.W.subIn K (.ref (He.ga K x)) (.type "BaseException") = some true) && (decide (PySem.W.typeIn K (.ref (He.ga K x)) = some (.type "type")) && (PySem.W.keepIn K (.ref (He.ga K x)) &&
  ((fs.all fun f => He.eqO (PySem.W.findIn K (.ref (He.ga K x)) f) (some none)) && (He.eqO (PySem.W.findIn K (.ref (He.ga K x)) "__init__") (some (some (.ref (He.ma K (He.ga K x) "__init__")))) &&
  (decide (PySem.W.typeIn K (.ref (He.ma K (He.ga K x) "__init__")) = some (.type "function")) && (xfB K (He.ga K x) && (decide (PySem.W.exmOne K (.ref (He.ga K x)) (.ref (He.ga K x)) = some true) && decide (PySem.W.kitOne K (.ref (He.ga K x)) (.type "ValueError") = some true))))))))))
theorem xBn_ok {K : PySem.W.Frag} {x : Str} {fs : List Str} (h : xBn K x fs = true) : XClsN K (He.ga K x) (He.ma K (He.ga K x) "__init__") fs ∧ XfC K (He.ga K x) ∧ PySem.W.exmOne K (.ref (He.ga K x)) (.ref (He.ga K x)) = some true ∧ PySem.W.kitOne K (.ref (He.ga K x)) (.type "ValueError") = some true := by
  unfold xBn at h
  simp only [Bool.and_eq_true, decide_eq_true_eq] at h
  obtain ⟨h1, h2, h3, h4, h5, h6, h7, h8, h9, h10, h11⟩ := h
  exact ⟨⟨⟨oexB_ok h1, He.eqO_ok h2, h3, h4, h5⟩, fun f hf => He.eqO_ok (List.all_eq_true.mp h6 f hf), He.eqO_ok h7, h8⟩, xfB_ok h9, h10, h11⟩
/-- x.2: a pair of classes, does the one catch the other -/
abbrev XPair : Type := Str × Str × Bool
def xpB (K : PySem.W.Frag) (p : XPair) : Bool := decide (PySem.W.exmOne K (.ref (He.ga K p.1)) (.ref (He.ga K p.2.1)) = some p.2.2)
def obsXn (xs : List (Str × List Str)) (ps : List XPair) (fa : List He.Fa) (fn : List He.DefD) (K : PySem.W.Frag) : AlX := ((xs.all fun x => xBn K x.1 x.2) && ps.all (xpB K), He.obsD fa fn K)
def SaysXn (xs : List (Str × List Str)) (ps : List XPair) (fa : List He.Fa) (fn : List He.DefD) (K : PySem.W.Frag) : Prop := obsXn xs ps fa fn K = valX fn
def obsXnG (n : Nat) (xs : List (Str × List Str)) (ps : List XPair) (fa : List He.Fa) (fn : List He.DefD) (g : Addr → Option Obj) : AlX := obsXn xs ps fa fn (He.frG g (He.asD g n))
def hookXn (n : Nat) (xs : List (Str × List Str)) (ps : List XPair) (fa : List He.Fa) (fn : List He.DefD) : PySem.W.Hook where
  α := AlX
  obs := fun s => obsXnG n xs ps fa fn s.heap.get?
  val := fun _ => valX fn
  says := fun _ h => ∃ K : PySem.W.Frag, K.In h ∧ SaysXn xs ps fa fn K
  of := fun _ _ e => ⟨_, He.frG_in, e⟩
  keeps := fun _ _ _ ⟨K, hK, c⟩ k => ⟨K, PySem.W.Frag.In.keeps hK k, c⟩
theorem obsXnG_eq {n : Nat} {xs : List (Str × List Str)} {ps : List XPair} {fa : List He.Fa} {fn : List He.DefD} {g : Addr → Option Obj} {s : Shared} (h : ∀ a, g a = s.heap.get? a) : obsXnG n xs ps fa fn g = (hookXn n xs ps fa fn).obs s := by
  have e : g = s.heap.get? := funext h
  rw [e] <;> rfl
theorem SaysXn.d {xs : List (Str × List Str)} {ps : List XPair} {fa : List He.Fa} {fn : List He.DefD} {K : PySem.W.Frag} (c : SaysXn xs ps fa fn K) : He.SaysD fa fn K := congrArg (fun z : AlX => z.2) c
theorem SaysXn.x {xs : List (Str × List Str)} {ps : List XPair} {fa : List He.Fa} {fn : List He.DefD} {K : PySem.W.Frag} (c : SaysXn xs ps fa fn K) (i : Nat) {x : Str × List Str} (h : xs[i]? = some x := by rfl) : xBn K x.1 x.2 = true := by
  have c1 : ((xs.all fun x => xBn K x.1 x.2) && ps.all (xpB K)) = true := congrArg (fun z : AlX => z.1) c
  rw [Bool.and_eq_true] at c1
  exact List.all_eq_true.mp c1.1 x (List.mem_of_getElem? h)
theorem SaysXn.p {xs : List (Str × List Str)} {ps : List XPair} {fa : List He.Fa} {fn : List He.DefD} {K : PySem.W.Frag} (c : SaysXn xs ps fa fn K) (i : Nat) {x : XPair} (h : ps[i]? = some x := by rfl) : PySem.W.exmOne K (.ref (He.ga K x.1)) (.ref (He.ga K x.2.1)) = some x.2.2 := by
  have c1 : ((xs.all fun x => xBn K x.1 x.2) && ps.all (xpB K)) = true := congrArg (fun z : AlX => z.1) c
  rw [Bool.and_eq_true] at c1
  exact of_decide_eq_true (List.all_eq_true.mp c1.2 x (List.mem_of_getElem? h))
/-! evaluation -/
def xrnK (C : Addr) (fs : List Str) (r : Rs (List W)) : SR := match r with
  | .ok ws e1 => (match toDs ws with
    | some ds => if ds.length = fs.length then .exn ⟨C, some (fs.zip ds).reverse⟩ e1 else .fail
    | none => .fail)
  | .exn x e1 => .exn x e1
  | .fail => .fail
@[simp] theorem sRaiseN_ev {C : Addr} {fs : List Str} {gs : List Ev} {e : Env} : sRaiseN C fs gs e = xrnK C fs (evA gs e) := rfl
@[simp] theorem xrnK_ok {C : Addr} {fs : List Str} {ws : List W} {e : Env} : xrnK C fs (.ok ws e) = (match toDs ws with | some ds => if ds.length = fs.length then .exn ⟨C, some (fs.zip ds).reverse⟩ e else .fail | none => .fail) := rfl
end Dl
end
section
set_option Elab.async false
set_option linter.all false
set_option maxRecDepth 100000
set_option maxHeartbeats 4000000
namespace L2
open PySem PySem.Spec PyProof.Rows
section
variable {X : Cx} {C : Addr} {bmB : List Value} {B newId initId : String}
/-- an own exception class without own __init__, made of nothing -/
theorem pmk_own_nil {x : Str} {p pos : Pos} (F : ExcBaseFacts B newId initId bmB) (q : PySem.W.excIn X.K C bmB newId = true) (gC : X.mg x = some (.ref C)) (kC : PySem.W.keepIn X.K (.ref C) = true) (r : Raises X (.ref C)) (hg : Gl X x)
    (hdb : (x == ("__debug__" : Str)) = false := by decide) : PMk X (.Call (.Name x p) [] [] pos) (fun _ H Q => Q (.ref C) none H) := by
  intro pins s σ H Q I h
  refine wpAny_Call_Name_kw (ld_glob I hg gC ?_ hdb)
  refine PySem.W.callWith_K0 I.kIn kC ?_
  show wpAny _ _ (call (.ref C) []) _ _ _
  obtain ⟨bm, N, nm, qn, bs, hdct, sn, sub, ab, col, dd, k0, k1, k2, k3, k5, mN, hC, hN, hni, T⟩ := exc_obj I.kIn q
  exact wpAny_call_exc_subT F T hC hN hni (fun h' e hm => mk_of I hm r h (I.hok.gone hm.new)) (Nat.zero_le _)
end
end L2
namespace Dl
open PySem L2
structure XCls0 (K : PySem.W.Frag) (C : Addr) : Prop where
  ex : PySem.W.excIn K C [.type "ValueError", .type "Exception", .type "BaseException", .type "object"] "ValueError.__new__" = true
  kp : PySem.W.keepIn K (.ref C) = true
  sb : PySem.W.subIn K (.ref C) (.type "BaseException") = some true
  ty : PySem.W.typeIn K (.ref C) = some (.type "type")
def sRaise0 (C : Addr) : Sv := fun e => .exn ⟨C, none⟩ e
section
variable {X : Cx} {Wx : WX} {pos pos2 p : Pos} {C : Addr} {cn : Str}
theorem s_raise0 (hc : X.calm = true) (T : XCls0 X.K C) (tk : L2.Takes X Wx) (hg : Gl X cn) (hm : X.mg cn = some (.ref C)) (hdb : (cn == ("__debug__" : Str)) = false := by decide) :
    PS X (.Raise (some (.Call (.Name cn p) [] [] pos)) none pos2) (tS X.K Wx (sRaise0 C)) :=
  (ps_raise hc tk (pmk_own_nil F.excBase_ValueError T.ex hm T.kp (raises_own T.sb T.ty) hg hdb)).imp fun D σ H h => by
    obtain ⟨b, R, ρ, e, m, q⟩ := h
    exact q R ρ σ H _ _ (Same.refl R) m ⟨rfl, rfl⟩
end
@[simp] theorem sRaise0_ev {C : Addr} {e : Env} : sRaise0 C e = .exn ⟨C, none⟩ e := rfl
/-! the head's facts -/
def xB0 (K : PySem.W.Frag) (x : Str) : Bool := PySem.W.excIn K (He.ga K x) [.type "ValueError", .type "Exception", .type "BaseException", .type "object"] "ValueError.__new__" && (PySem.W.keepIn K (.ref (He.ga K x)) &&
  (decide (PySem.W.subIn K (.ref (He.ga K x)) (.type "BaseException") = some true) && (decide (PySem.W.typeIn K (.ref (He.ga K x)) = some (.type "type")) && decide (PySem.W.exmOne K (.ref (He.ga K x)) (.ref (He.ga K x)) = some true))))
theorem xB0_ok {K : PySem.W.Frag} {x : Str} (h : xB0 K x = true) : XCls0 K (He.ga K x) ∧ PySem.W.exmOne K (.ref (He.ga K x)) (.ref (He.ga K x)) = some true := by
  unfold xB0 at h
  simp only [Bool.and_eq_true, decide_eq_true_eq] at h
  obtain ⟨h1, h2, h3, h4, h5⟩ := h
  exact ⟨⟨h1, h2, h3, h4⟩, h5⟩
def obsXz (xs : List (Str × List Str)) (zs : List Str) (ps : List XPair) (fa : List He.Fa) (fn : List He.DefD) (K : PySem.W.Frag) : AlX := ((xs.all fun x => xBn K x.1 x.2) && (zs.all (xB0 K) && ps.all (xpB K)), He.obsD fa fn K)
def SaysXz (xs : List (Str × List Str)) (zs : List Str) (ps : List XPair) (fa : List He.Fa) (fn : List He.DefD) (K : PySem.W.Frag) : Prop := obsXz xs zs ps fa fn K = valX fn
def obsXzG (n : Nat) (xs : List (Str × List Str)) (zs : List Str) (ps : List XPair) (fa : List He.Fa) (fn : List He.DefD) (g : Addr → Option Obj) : AlX := obsXz xs zs ps fa fn (He.frG g (He.asD g n))
def hookXz (n : Nat) (xs : List (Str × List Str)) (zs : List Str) (ps : List XPair) (fa : List He.Fa) (fn : List He.DefD) : PySem.W.Hook where
  α := AlX
  obs := fun s => obsXzG n xs zs ps fa fn s.heap.get?
  val := fun _ => valX fn
  says := fun _ h => ∃ K : PySem.W.Frag, K.In h ∧ SaysXz xs zs ps fa fn K
  of := fun _ _ e => ⟨_, He.frG_in, e⟩
  keeps := fun _ _ _ ⟨K, hK, c⟩ k => ⟨K, PySem.W.Frag.In.keeps hK k, c⟩
section
variable {n : Nat} {xs : List (Str × List Str)} {zs : List Str} {ps : List XPair} {fa : List He.Fa} {fn : List He.DefD} {K : PySem.W.Frag}
theorem obsXzG_eq {g : Addr → Option Obj} {s : Shared} (h : ∀ a, g a = s.heap.get? a) : obsXzG n xs zs ps fa fn g = (hookXz n xs zs ps fa fn).obs s := by
  have e : g = s.heap.get? := funext h
  rw [e] <;> rfl
theorem SaysXz.d (c : SaysXz xs zs ps fa fn K) : He.SaysD fa fn K := congrArg (fun z : AlX => z.2) c
theorem SaysXz.all (c : SaysXz xs zs ps fa fn K) : (xs.all fun x => xBn K x.1 x.2) = true ∧ zs.all (xB0 K) = true ∧ ps.all (xpB K) = true := by
  have c1 : ((xs.all fun x => xBn K x.1 x.2) && (zs.all (xB0 K) && ps.all (xpB K))) = true := congrArg (fun z : AlX => z.1) c
  rw [Bool.and_eq_true, Bool.and_eq_true] at c1
  exact c1
theorem SaysXz.x (c : SaysXz xs zs ps fa fn K) (i : Nat) {x : Str × List Str} (h : xs[i]? = some x := by rfl) : xBn K x.1 x.2 = true := List.all_eq_true.mp c.all.1 x (List.mem_of_getElem? h)
theorem SaysXz.z (c : SaysXz xs zs ps fa fn K) (i : Nat) {x : Str} (h : zs[i]? = some x := by rfl) : xB0 K x = true := List.all_eq_true.mp c.all.2.1 x (List.mem_of_getElem? h)
theorem SaysXz.p (c : SaysXz xs zs ps fa fn K) (i : Nat) {x : XPair} (h : ps[i]? = some x := by rfl) : PySem.W.exmOne K (.ref (He.ga K x.1)) (.ref (He.ga K x.2.1)) = some x.2.2 := of_decide_eq_true (List.all_eq_true.mp c.all.2.2 x (List.mem_of_getElem? h))
end
end Dl
end
section
set_option Elab.async false
set_option linter.all false
set_option maxRecDepth 100000
set_option maxHeartbeats 4000000
namespace Dl
open PySem PySem.Spec PyProof.Rows L2
/-! a call of a local name that holds one of some defs -/
def lkF : List (Addr × Fd) → Addr → Option Fd
  | [], _ => none
  | (a, F) :: r, f => if f = a then some F else lkF r f
theorem lkF_mem : ∀ {tab : List (Addr × Fd)} {f : Addr} {F : Fd}, lkF tab f = some F → (f, F) ∈ tab
  | [], _, _, h => by cases h
  | (a, G) :: r, f, F, h => by
    unfold lkF at h
    split at h
    · rename_i e
      cases h
      subst e
      exact List.mem_cons_self
    · exact List.mem_cons_of_mem _ (lkF_mem h)
def callT (o : Option Fd) (P : Nat) (L Ln : List Nat) (fs : List Ev) (e : Env) : Rs W := match o with
  | some F => (evA fs e).bind fun ws e1 => if ws.length = P then runF F L Ln ws e1 else .fail
  | none => .fail
def eCallV (i P : Nat) (tab : List (Addr × Fd)) (L Ln : List Nat) (fs : List Ev) : Ev := fun e => match e.slot i with
  | some (.d (.fn f)) => callT (lkF tab f) P L Ln fs e
  | _ => .fail
structure HeldV (X : Cx) (k P : Nat) (f : Addr) (F : Fd) : Prop where
  ex : ∃ (j : Nat) (fd : FuncData) (ps : List Str), j ≤ k ∧ FnOk X.prog X.w X.K X.mg X.base (L2.CX X.prog X.w) j f fd ps (spD X.K P F) ∧ PySem.W.keepIn X.K (.ref f) = true ∧ Binds X.K fd ps []
section
variable {X : Cx} {Wx : WX} {k i P : Nat} {x : Str} {p pos : Pos} {a : Expr} {es : List Expr} {fs : List Ev} {tab : List (Addr × Fd)} {L Ln : List Nat}
theorem d_callV (tk : Takes X Wx) (A : ∀ q ∈ tab, HeldV X k P q.1 q.2) (hr : Room k X.A) (hN : X.N[i]? = some x) (hv : Vis X.env.scope x)
    (ha : PA X (a :: es) (tDA X.K Wx (evA fs))) (hdb : (x == ("__debug__" : Str)) = false := by decide) (hcd : (x == ("__classdict__" : Str)) = false := by decide)
    (he : starEach (a :: es) X.env = (false, eval a X.env) :: starEach es X.env := by rfl) (hpl : (backTo pos (starEach es X.env)).any (·.1) = false := by rfl) :
    PE X (.Call (.Name x p) (a :: es) [] pos) (tD X.K Wx (eCallV i P tab L Ln fs)) := by
  refine ⟨fun pins s σ H Q I h => ?_⟩
  obtain ⟨b, R, ρ, e, m, q⟩ := h
  unfold eCallV at q
  split at q
  case h_2 => exact q.elim
  case h_1 f hsl =>
  obtain ⟨v, hs, rv⟩ := m.slot i _ hsl
  have rv : Rep X.K R (.fn f) v := rv
  cases rv
  unfold callT at q
  split at q
  case h_2 => exact q.elim
  case h_1 F hF =>
  obtain ⟨j, fd, ps, hj, G, hk, hb⟩ := (A _ (lkF_mem hF)).ex
  refine wpAny_Call_Name_kw (thn ((pe_var (pos := p) hN hv hdb hcd).run pins s σ H (fun v H1 => v = .ref f ∧ H1 = H) I ⟨.ref f, hs, rfl, rfl⟩) fun u s1 ⟨v, H1, I1, r1, q1⟩ => ?_)
  obtain ⟨rfl, rfl⟩ := q1
  cases r1
  have ht : tDA X.K Wx (evA fs) σ H1 (fun vs H2 => spD X.K P F (vs ++ []) H2 Q (WE Wx σ)) := tG_one (f := evA fs) (k := fun ws e1 => if ws.length = P then runF F L Ln ws e1 else .fail) ⟨b, R, ρ, e, m, q⟩ fun bs R1 ρ1 e1 H2 ws vs m1 r q2 => by
    split at q2
    · rename_i hlen
      rw [List.append_nil]
      exact call_run m1 r (by rw [← Paired.lengthEq r]; exact hlen) q2
    · exact q2.elim
  refine PySem.W.callWith_K (h₀ := X.base) I.ok.mod.kin hk (thn (ha.run pos pins s1 σ _ _ I1 ht) fun us s2 ⟨vs, H2, I2, r, q⟩ => ⟨I2.kIn, ?_⟩) he hpl
  exact run_fnSD G (hr.mono hj) hb .nil (passAt tk σ) I2 r q
end
theorem heldV_nil {X : Cx} {k P : Nat} : ∀ q ∈ ([] : List (Addr × Fd)), HeldV X k P q.1 q.2 := fun _ h => nomatch h
theorem heldV_cons {X : Cx} {k P j : Nat} {f : Addr} {F : Fd} {fd : FuncData} {ps : List Str} {tab : List (Addr × Fd)} (hj : j ≤ k) (G : FnOk X.prog X.w X.K X.mg X.base (L2.CX X.prog X.w) j f fd ps (spD X.K P F)) (hk : PySem.W.keepIn X.K (.ref f) = true) (hb : Binds X.K fd ps [])
    (r : ∀ q ∈ tab, HeldV X k P q.1 q.2) : ∀ q ∈ (f, F) :: tab, HeldV X k P q.1 q.2 := fun q h => by
  rcases List.mem_cons.mp h with rfl | h
  · exact ⟨j, fd, ps, hj, G, hk, hb⟩
  · exact r q h
/-! evaluation -/
def slV (o : Option W) (P : Nat) (tab : List (Addr × Fd)) (L Ln : List Nat) (fs : List Ev) (e : Env) : Rs W := match o with
  | some (.d (.fn f)) => callT (lkF tab f) P L Ln fs e
  | _ => .fail
section
variable {i P : Nat} {tab : List (Addr × Fd)} {L Ln : List Nat} {fs : List Ev} {e : Env} {f a : Addr} {F : Fd}
@[simp] theorem eCallV_ev : eCallV i P tab L Ln fs e = slV (e.slot i) P tab L Ln fs e := by unfold eCallV slV; rfl
@[simp] theorem slV_fn : slV (some (.d (.fn f))) P tab L Ln fs e = callT (lkF tab f) P L Ln fs e := rfl
@[simp] theorem callT_some : callT (some F) P L Ln fs e = callK (evA fs e) P F L Ln [] := by
  show (evA fs e).bind (fun ws e1 => if ws.length = P then runF F L Ln ws e1 else .fail) = (evA fs e).bind (fun ws e1 => if (ws ++ ([] : List D).map W.d).length = P then runF F L Ln (ws ++ ([] : List D).map W.d) e1 else .fail)
  congr 1
  funext ws e1
  simp
theorem lkF_same {tab : List (Addr × Fd)} : lkF ((a, F) :: tab) a = some F := if_pos rfl
theorem lkF_ne {tab : List (Addr × Fd)} (h : f ≠ a) : lkF ((a, F) :: tab) f = lkF tab f := if_neg h
end
/-- defs of different names stand at different addresses -/
theorem fun_ne {K : PySem.W.Frag} {x x' q q' : Str} {p p' : Arguments} {b b' : List Stmt} {s s' : Scope} {d d' : List V} {k k' : List (Str × V)} {f f' : Addr} {fd fd' : FuncData} (F : FunD K x q p b s d k f fd) (F' : FunD K x' q' p' b' s' d' k' f' fd') (h : x ≠ x') : f ≠ f' := fun e => by
  subst e
  obtain ⟨oc, od, dV, kV, doc, pm, an, cdv, ct, osl, e1, lk, _⟩ := F.ex
  obtain ⟨oc', od', dV', kV', doc', pm', an', cdv', ct', osl', e1', lk', _⟩ := F'.ex
  rw [lk] at lk'
  have e2 : Data.func fd = Data.func fd' := congrArg (fun o : Obj => o.data) (Option.some.inj lk')
  have e3 : fd = fd' := Data.func.inj e2
  rw [e1, e1'] at e3
  exact h (congrArg FuncData.name e3)
end Dl
end
section
set_option Elab.async false
set_option linter.all false
set_option maxRecDepth 100000
set_option maxHeartbeats 4000000
namespace Dl
open PySem PySem.Spec PyProof.Rows L2
/-! xs[i] op= e on an own list; xs.reverse() -/
theorem pget_list {X : Cx} : PGet X (fun x y H Q => ∃ (p : Addr) (xs : List V) (i : Nat) (z : V), x = .ref p ∧ y = .int i ∧ H p = some (.lst xs) ∧ xs[i]? = some z ∧ Q z H) := by
  intro pins s σ H x y v u Q I rx ry h
  obtain ⟨p, xs, i, z, rfl, rfl, hq, he, q⟩ := h
  cases rx
  obtain ⟨t, rfl⟩ := ry
  obtain ⟨its, r, pl, hz⟩ := I.list (SqL.of hq)
  obtain ⟨w, ew, rw'⟩ := r.get he
  have hl := r.length
  have hn := line63
  have hlt : i < xs.length := by
    rcases Nat.lt_or_ge i xs.length with h | h
    · exact h
    · rw [List.getElem?_eq_none h] at he; cases he
  have fin : EP X pins σ Q w s := ⟨z, H, I, rw', q⟩
  exact wpAny_getItem_list (Q := EP X pins σ Q) pl.isList (by omega) (by omega) (by simpa using ew) fin
def augY (g : D → D → Option D) (n j : Nat) (x : D) (w : W) (e : Env) : SR := match w with
  | .d y => (match g x y with
    | some z => (match e.cell n with
      | some (.lst ys) => if j < ys.length then .nx (e.setC n (some (.lst (ys.set j z)))) else .fail
      | _ => .fail)
    | none => .fail)
  | _ => .fail
def augX (g : D → D → Option D) (n j : Nat) (oc : Option Cell) (fv : Ev) (e : Env) : SR := match oc with
  | some (.lst xs) => (match xs[j]? with
    | some x => (fv e).to (augY g n j x)
    | none => .fail)
  | _ => .fail
def kAugR (g : D → D → Option D) (fv : Ev) (o i : W) (e : Env) : SR := match o, i with
  | .loc n, .d (.int k) => if 0 ≤ k then augX g n k.toNat (e.cell n) fv e else .fail
  | _, _ => .fail
def sAugI (g : D → D → Option D) (fo fi fv : Ev) : Sv := fun e => (fo e).to fun o e1 => if wl e1 o = true then (fi e1).to fun i e2 => kAugR g fv o i e2 else .fail
section
variable {X : Cx} {Wx : WX} {o i a : Expr} {fo fi fv : Ev} {p' pos : Pos} {op : Operator} {g : D → D → Option D} {r : R2}
theorem s_augI (hv : PE X a (tD X.K Wx fv)) (ho : PE X o (tD X.K Wx fo)) (hi : PE X i (tD X.K Wx fi)) (hp : OpR X (inplaceOp op) r) (hd : OpD X.K g r)
    (ha : ∀ ov iv new, augStore i ov iv new = (do holding [new, ov, iv] (setItem ov iv new); release [new, ov, iv] []; pure .next) := by intros; rfl) : PS X (.AugAssign (.Subscript o i p') op a pos) (tS X.K Wx (sAugI g fo fi fv)) := (ps_augS ho hi pget_list hv (tip := r) hp set_list ha).imp fun D σ H h =>
  tS_one h fun b R ρ e H w v m r1 q => by
    split at q
    case isFalse => exact q.elim
    case isTrue hl =>
    refine ⟨b, R, ρ, e, m, (OkS.to (L := lW X.K) q).imp fun iv H2 h2 => ?_⟩
    obtain ⟨R2, ρ2, e2, wi, s2, l2, m2, r2, q2⟩ := h2
    have ro := r1.later hl s2 l2
    unfold kAugR at q2
    split at q2
    case h_2 => exact q2.elim
    case h_1 n k =>
    have e1 : v = .ref (ρ2 n) := ro
    subst e1
    have r2 : Rep X.K R2 (.int k) iv := r2
    cases r2
    split at q2
    case isFalse => exact q2.elim
    case isTrue hk =>
    unfold augX at q2
    split at q2
    case h_2 => exact q2.elim
    case h_1 xs hc =>
    split at q2
    case h_2 => exact q2.elim
    case h_1 x hx =>
    obtain ⟨vs, g1, g2⟩ := m2.cell n _ hc
    obtain ⟨vx, hvx, rx⟩ := g2.get hx
    refine ⟨_, vs, k.toNat, vx, rfl, by rw [Int.toNat_of_nonneg hk], g1, hvx, b, R2, ρ2, e2, m2, (OkS.to (L := lW X.K) q2).imp fun yv H3 h3 => ?_⟩
    obtain ⟨R3, ρ3, e3, w3, s3, l3, m3, r3, q3⟩ := h3
    obtain ⟨hn1, _⟩ := l3 n _ hc
    unfold augY at q3
    split at q3
    case h_2 => exact q3.elim
    case h_1 y =>
    split at q3
    case h_2 => exact q3.elim
    case h_1 z hg =>
    split at q3
    case h_2 => exact q3.elim
    case h_1 ys hc3 =>
    split at q3
    case isFalse => exact q3.elim
    case isTrue hj =>
    obtain ⟨us, f1, f2⟩ := m3.cell n _ hc3
    have r3 : Rep X.K R3 y yv := r3
    have hix : ixN us.length k = some k.toNat := by
      unfold ixN
      rw [if_pos hk, if_pos (by rw [← f2.length]; omega)]
    refine hd x y z _ _ R3 H3 _ hg (Rep.mono s3 rx) r3 m3.sub (fun u ru => ?_) fun p oo hpp rp => ?_
    · refine ⟨_, us, k, k.toNat, rfl, rfl, by rw [← hn1]; exact f1, hix, ?_⟩
      rw [← hn1]
      exact q3 R3 ρ3 σ _ (Same.refl R3) (m3.write hc3 ⟨_, upd_same, f2.set _ ru⟩)
    · have m4 := m3.freshD hpp oo
      obtain ⟨us4, f14, f24⟩ := m4.cell n _ hc3
      have e4 : us4 = us := by
        have : H3 (ρ3 n) = some (.lst us) := f1
        have h4 : upd H3 p oo (ρ3 n) = H3 (ρ3 n) := upd_ne (m3.ne hpp hc3)
        rw [h4, this] at f14
        cases f14
        rfl
      subst e4
      refine ⟨_, us4, k, k.toNat, rfl, rfl, by rw [← hn1]; exact f14, hix, ?_⟩
      rw [← hn1]
      exact q3 _ ρ3 σ _ (same_upd (m3.freshR hpp)) (m4.write hc3 ⟨_, upd_same, f24.set _ rp⟩)
end
def kReverse (w : W) (ws : List W) : Ev := fun e => match w, ws with
  | .loc n, [] => (match e.cell n with
    | some (.lst xs) => .ok (.d .non) (e.setC n (some (.lst xs.reverse)))
    | _ => .fail)
  | _, _ => .fail
theorem kReverse_ok {K : PySem.W.Frag} {Wx : WX} : MethD K Wx kReverse rReverse := fun b R ρ e σ H w v ws vs Q m r rs q => by
  unfold kReverse at q
  split at q
  case h_2 => exact q.elim
  case h_1 n =>
  split at q
  case h_2 => exact q.elim
  case h_1 xs hc =>
  have e1 : v = .ref (ρ n) := r
  subst e1
  cases rs
  obtain ⟨us, h1, h2⟩ := m.cell n _ hc
  exact ⟨_, us, rfl, rfl, h1, wr_ok m q hc ⟨_, upd_same, h2.reverse⟩ .non⟩
/-! evaluation -/
section
variable {g : D → D → Option D} {fo fi fv : Ev} {e : Env} {n j : Nat} {x y z : D} {w o i : W} {xs : List D} {k : Int}
def auK (r : Rs W) (g : D → D → Option D) (fi fv : Ev) : SR := r.to fun o e1 => if wl e1 o = true then (fi e1).to fun i e2 => kAugR g fv o i e2 else .fail
def auK2 (l : Bool) (r : Rs W) (g : D → D → Option D) (fv : Ev) (o : W) : SR := if l = true then r.to fun i e2 => kAugR g fv o i e2 else .fail
@[simp] theorem sAugI_ev : sAugI g fo fi fv e = auK (fo e) g fi fv := rfl
@[simp] theorem auK_ok : auK (.ok o e) g fi fv = auK2 (wl e o) (fi e) g fv o := rfl
@[simp] theorem auK2_ok : auK2 true (.ok i e) g fv o = kAugR g fv o i e := rfl
@[simp] theorem kAugR_ev : kAugR g fv (.loc n) (.d (.int k)) e = if 0 ≤ k then augX g n k.toNat (e.cell n) fv e else .fail := rfl
def augZ (o : Option D) (n j : Nat) (g : D → D → Option D) (fv : Ev) (e : Env) : SR := match o with
  | some x => (fv e).to (augY g n j x)
  | none => .fail
@[simp] theorem augX_lst : augX g n j (some (.lst xs)) fv e = augZ xs[j]? n j g fv e := by unfold augX augZ; rfl
def augW (r : Rs W) (g : D → D → Option D) (n j : Nat) (x : D) : SR := r.to (augY g n j x)
@[simp] theorem augZ_some : augZ (some x) n j g fv e = augW (fv e) g n j x := rfl
def augV (o : Option D) (c : Option Cell) (n j : Nat) (e : Env) : SR := match o with
    | some z => (match c with
      | some (.lst ys) => if j < ys.length then .nx (e.setC n (some (.lst (ys.set j z)))) else .fail
      | _ => .fail)
    | none => .fail
@[simp] theorem augW_ok : augW (.ok (.d y) e) g n j x = augV (g x y) (e.cell n) n j e := by
  show augY g n j x (.d y) e = _
  unfold augY augV
  rfl
@[simp] theorem augV_ev : augV (some z) (some (.lst xs)) n j e = if j < xs.length then .nx (e.setC n (some (.lst (xs.set j z)))) else .fail := rfl
def revK (o : Option Cell) (n : Nat) (e : Env) : Rs W := match o with
    | some (.lst xs) => .ok (.d .non) (e.setC n (some (.lst xs.reverse)))
    | _ => .fail
@[simp] theorem kReverse_ev : kReverse (.loc n) [] e = revK (e.cell n) n e := rfl
@[simp] theorem revK_lst : revK (some (.lst xs)) n e = .ok (.d .non) (e.setC n (some (.lst xs.reverse))) := rfl
end
/-! o.f op= e on an own object -/
def agfZ (C : Addr) (f : Str) (o : Option D) (n : Nat) (c : Option Cell) (e : Env) : SR := match o with
  | some z => (match c with
    | some (.obj C' fs) => if C' = C ∧ fs.length < 1000 then .nx (e.setC n (some (.obj C' (putW f (.d z) fs)))) else .fail
    | _ => .fail)
  | none => .fail
def agfY (C : Addr) (f : Str) (g : D → D → Option D) (n : Nat) (x : D) (w : W) (e : Env) : SR := match w with
  | .d y => agfZ C f (g x y) n (e.cell n) e
  | _ => .fail
def agfL (C : Addr) (f : Str) (g : D → D → Option D) (n : Nat) (o : Option W) (fv : Ev) (e : Env) : SR := match o with
  | some (.d x) => (fv e).to (agfY C f g n x)
  | _ => .fail
def agfX (C : Addr) (f : Str) (g : D → D → Option D) (n : Nat) (c : Option Cell) (fv : Ev) (e : Env) : SR := match c with
  | some (.obj C' fs) => if C' = C then agfL C f g n (fs.lookup f) fv e else .fail
  | _ => .fail
def kAugF (C : Addr) (f : Str) (g : D → D → Option D) (fv : Ev) (o : W) (e : Env) : SR := match o with
  | .loc n => agfX C f g n (e.cell n) fv e
  | _ => .fail
def sAugF (C : Addr) (f : Str) (g : D → D → Option D) (fo fv : Ev) : Sv := fun e => (fo e).to (kAugF C f g fv)
section
variable {X : Cx} {Wx : WX} {o a : Expr} {fo fv : Ev} {p' pos : Pos} {op : Operator} {g : D → D → Option D} {r : R2} {C : Addr} {f : Str}
theorem s_augF (cl : Cls X.K C) (na : NoAttr X.K C f) (ho : PE X o (tD X.K Wx fo)) (hv : PE X a (tD X.K Wx fv)) (hp : OpR X (inplaceOp op) r) (hd : OpD X.K g r) : PS X (.AugAssign (.Attribute o f p') op a pos) (tS X.K Wx (sAugF C f g fo fv)) :=
  (ps_fldaug ho hv (rd := r) hp).imp fun D σ H h => tS_one h fun b R ρ e H w v m r1 q => by
    unfold kAugF at q
    split at q
    case h_2 => exact q.elim
    case h_1 n =>
    have e1 : v = .ref (ρ n) := r1
    subst e1
    unfold agfX at q
    split at q
    case h_2 => exact q.elim
    case h_1 C' fs hc =>
    split at q
    case isFalse => exact q.elim
    case isTrue hC =>
    subst hC
    unfold agfL at q
    split at q
    case h_2 => exact q.elim
    case h_1 x hx =>
    obtain ⟨dx, ws, g1, g2, g3⟩ := m.cell n _ hc
    obtain ⟨vx, hvx, rx⟩ := lookup_rep f g2 g3 hx
    have rx : Rep X.K R x vx := rx
    refine ⟨_, C', dx, ws, vx, rfl, g1, cl, na, hvx, b, R, ρ, e, m, (OkS.to (L := lW X.K) q).imp fun yv H3 h3 => ?_⟩
    obtain ⟨R3, ρ3, e3, w3, s3, l3, m3, r3, q3⟩ := h3
    obtain ⟨hn1, _⟩ := l3 n _ hc
    unfold agfY at q3
    split at q3
    case h_2 => exact q3.elim
    case h_1 y =>
    unfold agfZ at q3
    split at q3
    case h_2 => exact q3.elim
    case h_1 z hg =>
    split at q3
    case h_2 => exact q3.elim
    case h_1 C'' fs3 hc3 =>
    split at q3
    case isFalse => exact q3.elim
    case isTrue hcc =>
    obtain ⟨hC3, hlen⟩ := hcc
    subst hC3
    have r3 : Rep X.K R3 y yv := r3
    refine hd x y z _ _ R3 H3 _ hg (Rep.mono s3 rx) r3 m3.sub (fun u ru => ?_) fun p oo hpp rp => ?_
    · obtain ⟨dx3, ws3, f1, f2, f3⟩ := m3.cell n _ hc3
      have e3 := congrArg List.length f2
      rw [List.length_map, List.length_map] at e3
      obtain ⟨p1, p2⟩ := putW_rep (F := RepW X.K R3 ρ3) (w := .d z) f ru f2 f3
      refine ⟨dx3, ws3, by rw [← hn1]; exact f1, by rw [e3]; exact hlen, ?_⟩
      rw [← hn1]
      exact q3 R3 ρ3 σ _ (Same.refl R3) (m3.write (c' := .obj C'' (putW f (.d z) fs3)) hc3 ⟨dx3, _, upd_same, p1, p2⟩)
    · have m4 := m3.freshD hpp oo
      obtain ⟨dx3, ws3, f1, f2, f3⟩ := m4.cell n _ hc3
      have e3 := congrArg List.length f2
      rw [List.length_map, List.length_map] at e3
      obtain ⟨p1, p2⟩ := putW_rep (F := RepW X.K _ ρ3) (w := .d z) f rp f2 f3
      refine ⟨dx3, ws3, by rw [← hn1]; exact f1, by rw [e3]; exact hlen, ?_⟩
      rw [← hn1]
      exact q3 _ ρ3 σ _ (same_upd (m3.freshR hpp)) (m4.write (c' := .obj C'' (putW f (.d z) fs3)) hc3 ⟨dx3, _, upd_same, p1, p2⟩)
end
section
variable {C C' : Addr} {f : Str} {g : D → D → Option D} {fo fv : Ev} {e : Env} {n : Nat} {x y z : D} {w : W} {fs : List (Str × W)} {c : Option Cell}
def afK (r : Rs W) (C : Addr) (f : Str) (g : D → D → Option D) (fv : Ev) : SR := r.to (kAugF C f g fv)
@[simp] theorem sAugF_ev : sAugF C f g fo fv e = afK (fo e) C f g fv := rfl
@[simp] theorem afK_loc : afK (.ok (.loc n) e) C f g fv = agfX C f g n (e.cell n) fv e := rfl
@[simp] theorem agfX_obj : agfX C f g n (some (.obj C fs)) fv e = agfL C f g n (fs.lookup f) fv e := if_pos rfl
def agfW (r : Rs W) (C : Addr) (f : Str) (g : D → D → Option D) (n : Nat) (x : D) : SR := r.to (agfY C f g n x)
@[simp] theorem agfL_some : agfL C f g n (some (.d x)) fv e = agfW (fv e) C f g n x := rfl
@[simp] theorem agfW_ok : agfW (.ok (.d y) e) C f g n x = agfZ C f (g x y) n (e.cell n) e := rfl
@[simp] theorem agfZ_some : agfZ C f (some z) n (some (.obj C fs)) e = if fs.length < 1000 then .nx (e.setC n (some (.obj C (putW f (.d z) fs)))) else .fail := by
  unfold agfZ
  simp
end
end Dl
end
section
set_option Elab.async false
set_option linter.all false
set_option maxRecDepth 100000
set_option maxHeartbeats 4000000
namespace Dl
open PySem L2
/-! x, y = a, b -/
def parK (i j : Nat) (ws : List W) (e : Env) : SR := match ws with
  | [w1, w2] => .nx ((e.setS i (some w1)).setS j (some w2))
  | _ => .fail
def sPar (i j : Nat) (fs : List Ev) : Sv := fun e => (evA fs e).to (parK i j)
section
variable {X : Cx} {Wx : WX} {a b : Expr} {fs : List Ev} {i j : Nat} {x y : Str} {px py pt pt2 pos : Pos} {kt k2 : Bool}
theorem s_par {kt k2} (hc : X.calm = true) (hN : X.N.Nodup) (hi : X.N[i]? = some x) (hj : X.N[j]? = some y) (hij : i ≠ j) (hx : X.env.scope.names.lookup x = some .local) (hy : X.env.scope.names.lookup y = some .local)
    (hw : swappedStores [.Tuple [.Name x px, .Name y py] kt pt] (.Tuple [a, b] k2 pt2) X.env = pure (some [x, y])) (ha : PA X [a, b] (tDA X.K Wx (evA fs))) :
    PS X (.Assign [.Tuple [.Name x px, .Name y py] kt pt] (.Tuple [a, b] k2 pt2) pos) (tS X.K Wx (sPar i j fs)) :=
  (ps_par hc hN hi hj hij hx hy ha hw).imp fun D σ H h => tS_one h fun bs R ρ e H ws vs m r q => by
    unfold parK at q
    split at q
    case h_2 => exact q.elim
    case h_1 w1 w2 =>
    obtain ⟨v1, v2, rfl, r1, r2⟩ := pair2 r
    exact ⟨v1, v2, rfl, q R ρ _ H (Same.refl R) ((m.setS r1).setS r2)⟩
end
theorem tgL_len : ∀ {gs : List Tg} {ds : List D} {e e' : Env}, tgL gs ds e = some e' → ds.length = gs.length
  | [], [], _, _, _ => rfl
  | [], _ :: _, _, _, h => by cases h
  | _ :: _, [], _, _, h => by cases h
  | g :: gs, d :: ds, e, e', h => by
    have h : (match g d e with | some e1 => tgL gs ds e1 | none => none) = some e' := h
    cases q : g d e with
    | none => rw [q] at h; cases h
    | some e1 =>
      rw [q] at h
      rw [List.length_cons, List.length_cons, tgL_len h]
/-- the items of a list as targets -/
def tgLst (gs : List Tg) : Tg := fun d e => match d with | .lst ds => tgL gs ds e | _ => none
theorem tgLst_ok {K : PySem.W.Frag} {gs : List Tg} {vs : List Nat} {u : TGs} {n : Nat} (hn : gs.length = n) (h2 : TgsD K gs vs u) : TgD K (tgLst gs) vs (gLst K n u) := by
  refine ⟨fun d e e' h => ?_, fun b R ρ e e' d v σ H Q m r h q => ?_⟩
  · unfold tgLst at h
    split at h
    · exact h2.1 _ _ _ h
    · cases h
  · unfold tgLst at h
    split at h
    case h_2 => cases h
    case h_1 ds =>
    cases r with
    | lst h1 l1 =>
      refine ⟨_, _, rfl, SqL.of (m.sub _ _ h1), ?_, h2.2 b R ρ e e' ds _ σ H Q m l1 h q⟩
      rw [← l1.length, ← hn]
      exact tgL_len h
/-! evaluation -/
def paK (r : Rs (List W)) (i j : Nat) : SR := r.to (parK i j)
@[simp] theorem sPar_ev {i j : Nat} {fs : List Ev} {e : Env} : sPar i j fs e = paK (evA fs e) i j := rfl
@[simp] theorem paK_ok {i j : Nat} {w1 w2 : W} {e : Env} : paK (.ok [w1, w2] e) i j = .nx ((e.setS i (some w1)).setS j (some w2)) := rfl
@[simp] theorem tgLst_ev {gs : List Tg} {ds : List D} {e : Env} : tgLst gs (.lst ds) e = tgL gs ds e := rfl
end Dl
end
section
set_option Elab.async false
set_option linter.all false
set_option maxRecDepth 100000
set_option maxHeartbeats 4000000
namespace Dl
open PySem PySem.Spec PyProof.Rows L2
/-! a dict of the module with text keys and plain values, read -/
abbrev GTab : Type := List (Str × D)
def flatOk : D → Bool
  | .non => true
  | .bl _ => true
  | .int _ => true
  | .str _ => true
  | _ => false
structure GDic (K : PySem.W.Frag) (w : World) (a : Addr) (tab : GTab) : Prop where
  kd : ∃ es n, KDict K w a es n
  hit : ∀ z d, tab.lookup z = some d → ∃ u v, PySem.W.nsIn K a z = some (some u) ∧ RelV v u ∧ ∀ R, Rep K R d v
  miss : ∀ z, tab.lookup z = none → PySem.W.nsIn K a z = some none
def inG (a : Addr) (tab : GTab) : D → D → Option Bool
  | .str z, .fn b => if b = a then some (tab.lookup z).isSome else none
  | _, _ => none
def notInG (a : Addr) (tab : GTab) : D → D → Option Bool
  | .str z, .fn b => if b = a then some (!(tab.lookup z).isSome) else none
  | _, _ => none
section
variable {X : Cx} {Wx : WX} {a : Addr} {tab : GTab}
abbrev rGin (K : PySem.W.Frag) (a : Addr) (neg : Bool) : R2 := fun x y H Q => ∃ (z : Str) (r : Option Value), x = .str z ∧ y = .ref a ∧ PySem.W.nsIn K a z = some r ∧ Q (.bl (if neg then !r.isSome else r.isSome)) H
theorem GDic.ns {K : PySem.W.Frag} {w : World} (G : GDic K w a tab) (z : Str) : ∃ r, PySem.W.nsIn K a z = some r ∧ r.isSome = (tab.lookup z).isSome := by
  cases h : tab.lookup z with
  | none => exact ⟨none, G.miss z h, rfl⟩
  | some d =>
    obtain ⟨u, v, h1, _⟩ := G.hit z d h
    exact ⟨some u, h1, rfl⟩
theorem op_inG (G : GDic X.K X.w a tab) : OpR X (compareOp .In) (rGin X.K a false) := by
  obtain ⟨es, n, D⟩ := G.kd
  intro pins s σ H x y v u Q I rx ry h
  exact op_in_kd D pins s σ H x y v u Q I rx ry h
theorem op_notInG (G : GDic X.K X.w a tab) : OpR X (compareOp .NotIn) (rGin X.K a true) := by
  obtain ⟨es, n, D⟩ := G.kd
  intro pins s σ H x y v u Q I rx ry h
  exact op_notIn_kd D pins s σ H x y v u Q I rx ry h
theorem inG_ok {K : PySem.W.Frag} {w : World} (G : GDic K w a tab) : OpB K (inG a tab) (rGin K a false) := fun x y z v u R H Q hg r1 r2 s q => by
  unfold inG at hg
  split at hg
  · split at hg
    · rename_i e
      subst e
      cases hg
      cases r1
      cases r2
      obtain ⟨r, h1, h2⟩ := G.ns _
      exact ⟨_, r, rfl, rfl, h1, by rw [← h2] at q; exact q⟩
    · cases hg
  · cases hg
theorem notInG_ok {K : PySem.W.Frag} {w : World} (G : GDic K w a tab) : OpB K (notInG a tab) (rGin K a true) := fun x y z v u R H Q hg r1 r2 s q => by
  unfold notInG at hg
  split at hg
  · split at hg
    · rename_i e
      subst e
      cases hg
      cases r1
      cases r2
      obtain ⟨r, h1, h2⟩ := G.ns _
      exact ⟨_, r, rfl, rfl, h1, by rw [← h2] at q; exact q⟩
    · cases hg
  · cases hg
theorem ix_kd {es : Array DictEntry} {n : Nat} (D : KDict X.K X.w a es n) : IxR X (fun x y H Q => ∃ (z : Str) (u0 : Value) (v0 : V), x = .ref a ∧ y = .str z ∧ PySem.W.nsIn X.K a z = some (some u0) ∧ RelV v0 u0 ∧ Q v0 H) := by
  intro value slice pins s σ H x y v u Q I rx ry h hs
  have g := op_item_kd D pins s σ H x y v u Q I rx ry h
  obtain ⟨z, u0, v0, rfl, rfl, _⟩ := h
  cases rx
  exact tail_any (kd_type D I) PySem.slot_dict_getitem.lookup g hs
def getG (a : Addr) (tab : GTab) : D → D → Option D
  | .fn b, .str z => if b = a then tab.lookup z else none
  | _, _ => none
theorem getG_ok {K : PySem.W.Frag} {w : World} (G : GDic K w a tab) : OpD K (getG a tab) (fun x y H Q => ∃ (z : Str) (u0 : Value) (v0 : V), x = .ref a ∧ y = .str z ∧ PySem.W.nsIn K a z = some (some u0) ∧ RelV v0 u0 ∧ Q v0 H) := fun x y z v u R H Q hg r1 r2 s q n => by
  unfold getG at hg
  split at hg
  · split at hg
    · rename_i e
      subst e
      cases r1
      cases r2
      obtain ⟨u0, v0, h1, h2, h3⟩ := G.hit _ _ hg
      exact ⟨_, u0, v0, rfl, rfl, h1, h2, q _ (h3 R)⟩
    · cases hg
  · cases hg
theorem d_getG {b c : Expr} {pos : Pos} {f g : Ev} (G : GDic X.K X.w a tab) (ha : PE X b (tD X.K Wx f)) (hb : PE X c (tD X.K Wx g)) (hs : PlainIx c) : PE X (.Subscript b c pos) (tD X.K Wx (eOp (getG a tab) f g)) := by
  obtain ⟨es, n, D⟩ := G.kd
  exact (pe_ix (ix_kd D) ha hb hs).imp fun σ H Q h => tG_two h fun bs R ρ e H w1 w2 v1 v2 m r1 r2 q => (getG_ok G).run m r1 r2 q
end
/-! the head's facts -/
def flatB : D → Value → Bool
  | .non, .none => true
  | .bl b, .bool c => b == c
  | .int i, .int j _ => i == j
  | .str x, .str y _ => x == y
  | _, _ => false
theorem flatB_ok {d : D} {u : Value} (h : flatB d u = true) : ∃ v : V, RelV v u ∧ ∀ (K : PySem.W.Frag) (R : Hp), Rep K R d v := by
  unfold flatB at h
  split at h
  · exact ⟨.non, rfl, fun _ _ => .non⟩
  · rw [beq_iff_eq] at h; subst h; exact ⟨.bl _, rfl, fun _ _ => .bl _⟩
  · rw [beq_iff_eq] at h; subst h; exact ⟨.int _, ⟨_, rfl⟩, fun _ _ => .int _⟩
  · rw [beq_iff_eq] at h; subst h; exact ⟨.str _, ⟨_, rfl⟩, fun _ _ => .str _⟩
  · cases h
def entB (e : DictEntry) (q : Str × D) : Bool := e.key.isStr q.1 && flatB q.2 e.val
def entsB : List DictEntry → GTab → Bool
  | [], [] => true
  | e :: es, q :: qs => entB e q && (match e.key with | .str x _ => x == q.1 | _ => false) && entsB es qs
  | _, _ => false
def gdB (K : PySem.W.Frag) (a : Addr) (tab : GTab) : Bool := match K.lookup a with
  | some ⟨_, _, .dict es _, _⟩ => entsB es.toList tab
  | _ => false
theorem entsB_find : ∀ {es : List DictEntry} {tab : GTab} (z : Str), entsB es tab = true → (match tab.lookup z with
    | some d => ∃ e, es.find? (·.key.isStr z) = some e ∧ flatB d e.val = true
    | none => es.find? (·.key.isStr z) = none) ∧ es.any (·.refKey) = false
  | [], [], z, _ => ⟨rfl, rfl⟩
  | [], _ :: _, _, h => by cases h
  | _ :: _, [], _, h => by cases h
  | e :: es, (k, d) :: qs, z, h => by
    unfold entsB at h
    rw [Bool.and_eq_true, Bool.and_eq_true] at h
    obtain ⟨⟨h1, h2⟩, h3⟩ := h
    obtain ⟨i1, i2⟩ := entsB_find z h3
    unfold entB at h1
    rw [Bool.and_eq_true] at h1
    split at h2
    case h_2 => cases h2
    case h_1 x t hk =>
    rw [beq_iff_eq] at h2
    have h2 : x = k := h2
    subst h2
    have hr : e.refKey = false := by
      show e.key.isRef = false
      rw [hk]; rfl
    refine ⟨?_, by rw [List.any_cons, hr, i2]; rfl⟩
    have hz : e.key.isStr z = (x == z) := by rw [hk]; rfl
    by_cases e1 : z = x
    · subst e1
      rw [show List.lookup z ((z, d) :: qs) = some d by simp]
      refine ⟨e, ?_, h1.2⟩
      rw [List.find?_cons, hz]
      simp
    · rw [show List.lookup z ((x, d) :: qs) = qs.lookup z by
        show (match z == x with | true => some d | false => qs.lookup z) = _
        rw [beq_false_of_ne e1]]
      have hf : List.find? (·.key.isStr z) (e :: es) = List.find? (·.key.isStr z) es := by
        rw [List.find?_cons, hz, show (x == z) = false from beq_false_of_ne (Ne.symm e1)]
      rw [hf]
      exact i1
theorem gdic_of {K : PySem.W.Frag} {w : World} {a : Addr} {tab : GTab} {ks : List Str} (h1 : He.dicW K a = some (He.keysIn w.params ks)) (h2 : gdB K a tab = true) : GDic K w a tab := by
  have kd := He.dicW_ok h1
  obtain ⟨es, n, D⟩ := kd
  unfold gdB at h2
  rw [D.at_] at h2
  have h2 : entsB es.toList tab = true := h2
  refine ⟨⟨es, n, D⟩, fun z d hz => ?_, fun z hz => ?_⟩
  · obtain ⟨g1, g2⟩ := entsB_find z h2
    rw [hz] at g1
    obtain ⟨e, f1, f2⟩ := g1
    obtain ⟨v, r1, r2⟩ := flatB_ok f2
    refine ⟨e.val, v, ?_, r1, r2 K⟩
    unfold PySem.W.nsIn
    rw [D.at_]
    show (match es.toList.find? (·.key.isStr z) with | some e => some (some e.val) | none => if es.toList.any (·.refKey) then none else some none) = _
    rw [f1]
  · obtain ⟨g1, g2⟩ := entsB_find z h2
    rw [hz] at g1
    have g1 : es.toList.find? (·.key.isStr z) = none := g1
    unfold PySem.W.nsIn
    rw [D.at_]
    show (match es.toList.find? (·.key.isStr z) with | some e => some (some e.val) | none => if es.toList.any (·.refKey) then none else some none) = _
    rw [g1, g2]
    rfl
/-! evaluation -/
section
variable {a : Addr} {tab : GTab} {z : Str}
@[simp] theorem inG_ev : inG a tab (.str z) (.fn a) = some (tab.lookup z).isSome := if_pos rfl
@[simp] theorem notInG_ev : notInG a tab (.str z) (.fn a) = some (!(tab.lookup z).isSome) := if_pos rfl
@[simp] theorem getG_ev : getG a tab (.fn a) (.str z) = tab.lookup z := if_pos rfl
end
/-! the hook with such tables -/
abbrev TabX : Type := Str × GTab
abbrev AlT : Type := AlX × (Bool × List (Option (List (Option (Str × Int)))))
def obsXt (xs : List (Str × List Str)) (zs : List Str) (ps : List XPair) (ts : List TabX) (fa : List He.Fa) (fn : List He.DefD) (K : PySem.W.Frag) : AlT := (obsXz xs zs ps fa fn K, (ts.all fun t => gdB K (He.ga K t.1) t.2), ts.map fun t => He.dicW K (He.ga K t.1))
def valXt (ts : List TabX) (fn : List He.DefD) (w : World) : AlT := (valX fn, true, ts.map fun t => some (He.keysIn w.params (t.2.map (·.1))))
def SaysXt (xs : List (Str × List Str)) (zs : List Str) (ps : List XPair) (ts : List TabX) (fa : List He.Fa) (fn : List He.DefD) (w : World) (K : PySem.W.Frag) : Prop := obsXt xs zs ps ts fa fn K = valXt ts fn w
def obsXtG (n : Nat) (xs : List (Str × List Str)) (zs : List Str) (ps : List XPair) (ts : List TabX) (fa : List He.Fa) (fn : List He.DefD) (g : Addr → Option Obj) : AlT := obsXt xs zs ps ts fa fn (He.frG g (He.asD g n))
def hookXt (n : Nat) (xs : List (Str × List Str)) (zs : List Str) (ps : List XPair) (ts : List TabX) (fa : List He.Fa) (fn : List He.DefD) : PySem.W.Hook where
  α := AlT
  obs := fun s => obsXtG n xs zs ps ts fa fn s.heap.get?
  val := fun w => valXt ts fn w
  says := fun w h => ∃ K : PySem.W.Frag, K.In h ∧ SaysXt xs zs ps ts fa fn w K
  of := fun _ _ e => ⟨_, He.frG_in, e⟩
  keeps := fun _ _ _ ⟨K, hK, c⟩ k => ⟨K, PySem.W.Frag.In.keeps hK k, c⟩
section
variable {n : Nat} {xs : List (Str × List Str)} {zs : List Str} {ps : List XPair} {ts : List TabX} {fa : List He.Fa} {fn : List He.DefD} {w : World} {K : PySem.W.Frag}
theorem obsXtG_eq {g : Addr → Option Obj} {s : Shared} (h : ∀ a, g a = s.heap.get? a) : obsXtG n xs zs ps ts fa fn g = (hookXt n xs zs ps ts fa fn).obs s := by
  have e : g = s.heap.get? := funext h
  rw [e] <;> rfl
theorem SaysXt.z0 (c : SaysXt xs zs ps ts fa fn w K) : SaysXz xs zs ps fa fn K := congrArg (fun z : AlT => z.1) c
theorem SaysXt.tab (c : SaysXt xs zs ps ts fa fn w K) (i : Nat) {t : TabX} (h : ts[i]? = some t := by rfl) : GDic K w (He.ga K t.1) t.2 := by
  have e1 : (ts.all fun t => gdB K (He.ga K t.1) t.2) = true := congrArg (fun z : AlT => z.2.1) c
  have e : ts.map (fun t => He.dicW K (He.ga K t.1)) = ts.map fun t => some (He.keysIn w.params (t.2.map (·.1))) := congrArg (fun z : AlT => z.2.2) c
  have e2 : (ts.map fun t => He.dicW K (He.ga K t.1))[i]? = (ts.map fun t => some (He.keysIn w.params (t.2.map (·.1))))[i]? := by rw [e]
  rw [List.getElem?_map, List.getElem?_map, h] at e2
  exact gdic_of (Option.some.inj e2) (List.all_eq_true.mp e1 t (List.mem_of_getElem? h))
end
end Dl
end
section
set_option Elab.async false
set_option linter.all false
set_option maxRecDepth 100000
set_option maxHeartbeats 4000000
namespace Dl
open PySem L2
/-! int of a text; x += text -/
def intS : D → Option D
  | .int i => some (.int i)
  | .bl k => some (.int (if k then 1 else 0))
  | .str x => if x.length ≤ 640 then (match PySem.intText? x with | some n => some (.int n) | none => none) else none
  | _ => none
abbrev rIntS : List V → Hp → VK → Prop := fun xs H Q => ((∃ i, xs = [.int i] ∧ Q (.int i) H) ∨ ∃ k, xs = [.bl k] ∧ Q (.int (if k then 1 else 0)) H) ∨ ∃ a n, xs = [.str a] ∧ PySem.intText? a = some n ∧ a.length ≤ 640 ∧ Q (.int n) H
theorem call_intS {X : Cx} : CallR X (.type "int") rIntS := by
  intro pins s σ H xs us Q I r h
  rcases h with h | h
  · exact call_int1 pins s σ H xs us Q I r h
  · exact call_int_str pins s σ H xs us Q I r h
section
variable {K : PySem.W.Frag} {Wx : WX}
theorem kIntS_ok : CallD K Wx (k1 intS) rIntS := k1_ok fun x z v R H Q hz rv s q n => by
  cases rv with
  | int i => cases hz; exact .inl (.inl ⟨_, rfl, q _ (.int _)⟩)
  | bl k => cases hz; exact .inl (.inr ⟨_, rfl, q _ (.int _)⟩)
  | str y =>
    have hz : (if y.length ≤ 640 then (match PySem.intText? y with | some n => some (D.int n) | none => none) else none) = some z := hz
    by_cases hl : y.length ≤ 640
    · rw [if_pos hl] at hz
      cases hn : PySem.intText? y with
      | none => rw [hn] at hz; cases hz
      | some n =>
        rw [hn] at hz
        cases hz
        exact .inr ⟨_, _, rfl, hn, hl, q _ (.int _)⟩
    · rw [if_neg hl] at hz; cases hz
  | _ => cases hz
def addIS : D → D → Option D
  | .int i, .int j => some (.int (i + j))
  | .str x, .str y => if x.length + y.length ≤ sizeLine then some (.str (x ++ y)) else none
  | _, _ => none
abbrev rAddIS : R2 := fun x y H Q => rI0 (fun i j => .int (i + j)) x y H Q ∨ ∃ i j, x = .str i ∧ y = .str j ∧ i.length + j.length ≤ sizeLine ∧ Q (.str (i ++ j)) H
theorem iop_addS {X : Cx} : OpR X (inplaceOp .Add) rAddIS := by
  intro pins s σ H x y v u Q I rx ry h
  rcases h with h | h
  · exact iop_add pins s σ H x y v u Q I rx ry h
  · exact iop_add_str pins s σ H x y v u Q I rx ry h
theorem addIS_ok : OpD K addIS rAddIS := fun x y z v u R H Q hg r1 r2 s q n => by
  unfold addIS at hg
  split at hg
  · cases hg; cases r1; cases r2; exact .inl ⟨_, _, rfl, rfl, q _ (.int _)⟩
  · split at hg
    · rename_i hl
      cases hg; cases r1; cases r2
      exact .inr ⟨_, _, rfl, rfl, hl, q _ (.str _)⟩
    · cases hg
  · cases hg
end
@[simp] theorem intS_int {i : Int} : intS (.int i) = some (.int i) := rfl
@[simp] theorem intS_bl {k : Bool} : intS (.bl k) = some (.int (if k then 1 else 0)) := rfl
@[simp] theorem addIS_int {i j : Int} : addIS (.int i) (.int j) = some (.int (i + j)) := rfl
@[simp] theorem addIS_str {x y : Str} : addIS (.str x) (.str y) = if x.length + y.length ≤ sizeLine then some (.str (x ++ y)) else none := rfl
end Dl
end
section
set_option Elab.async false
set_option linter.all false
set_option maxRecDepth 100000
set_option maxHeartbeats 4000000
/-! several except clauses, with names or without -/
namespace L2
open PySem PySem.Spec PyProof.Rows
abbrev HdT : Type := Value × Option Nat × (Addr → Value → Option Addr → TS)
def wMix (K : PySem.W.Frag) (Wout : WX) (D : Ends) : List HdT → WX
  | [] => Wout
  | (c, oi, ts) :: r => fun cls d σ H => ∃ b, PySem.W.exmOne K cls c = some b ∧ (b = true → ∀ a, H a = none → match oi with
      | none => ts a cls d D σ H
      | some i => ts a cls d { nx := fun σ' H' => D.nx (σ'.set i none) H', rt := D.rt, bk := fun σ' H' => D.bk (σ'.set i none) H', ct := fun σ' H' => D.ct (σ'.set i none) H' } (σ.set i (some (.ref a))) H) ∧ (b = false → wMix K Wout D r cls d σ H)
inductive HdMix (X : Cx) : List ExceptHandler → List HdT → Prop
  | nil : HdMix X [] []
  | cons {x : Str} {c : Value} {ts : Addr → Value → Option Addr → TS} {b₀ : Stmt} {suite : List Stmt} {np pos' : Pos} {hds : List ExceptHandler} {l : List HdT} (hc : Names X x c)
      (hsu : ∀ (a : Addr) (oe : Obj) (cls : Value) (d : Option Addr) (pn : List (Addr × Obj)), Zc cls d oe → (∃ vs, oe.data = .fields vs) → PSs (X.suite a ((a, oe) :: pn)) (b₀ :: suite) (ts a cls d)) (r : HdMix X hds l) :
      HdMix X (.ExceptHandler (some (.Name x np)) none (b₀ :: suite) pos' :: hds) ((c, none, ts) :: l)
  | as {x n : Str} {i : Nat} {c : Value} {ts : Addr → Value → Option Addr → TS} {b₀ : Stmt} {suite : List Stmt} {np pos' : Pos} {hds : List ExceptHandler} {l : List HdT} (hN : X.N.Nodup) (hi : X.N[i]? = some n) (hln : X.env.kindOf n = some .local) (hc : Names X x c)
      (hsu : ∀ (a : Addr) (oe : Obj) (cls : Value) (d : Option Addr) (pn : List (Addr × Obj)), Zc cls d oe → (∃ vs, oe.data = .fields vs) → PSs (X.suite a ((a, oe) :: pn)) (b₀ :: suite) (ts a cls d)) (r : HdMix X hds l) :
      HdMix X (.ExceptHandler (some (.Name x np)) (some n) (b₀ :: suite) pos' :: hds) ((c, some i, ts) :: l)
/-- an own error is caught: it stands at a, and behind it the walk's state -/
structure Caught1 (X : Cx) (pins : List (Addr × Obj)) (σ : St) (H : Hp) (G : Heap) (s0 : Shared) (a : Addr) (cls : Value) (d : Option Addr) (s : Shared) : Prop where
  state : Inv X pins σ H s0
  ground : ∀ b o, s0.heap.get? b = some o → b ∉ frs X.stack → G.get? b = some o
  grown : s0.heap.UpToSlots s.heap
  flies : HandSPX.FlyingZ G (X.env :: X.outer) a (Zc cls d) s.heap
  free : H a = none
  os : s.os = s0.os
  bare : AllBare s.gens
section
variable {X : Cx} {pins : List (Addr × Obj)} {σ : St} {H : Hp} {G : Heap} {s0 s : Shared} {a : Addr} {cls : Value} {d : Option Addr}
theorem Caught1.inv (c : Caught1 X pins σ H G s0 a cls d s) : Inv X pins σ H s := c.state.landed c.ground c.flies.1 c.grown c.os c.bare
theorem Caught1.noFrame (c : Caught1 X pins σ H G s0 a cls d s) : a ∉ frs (X.env :: X.outer) := by
  obtain ⟨o, v, at_, _, dat⟩ := c.flies.there
  intro m
  obtain ⟨_, o2, at2, no⟩ := c.flies.2.2.1.mem m
  cases at_.symm.trans at2
  exact no _ dat
/-- within a suite -/
theorem Caught1.within (c : Caught1 X pins σ H G s0 a cls d s) (hf : X.env.frame = some X.env.locals) : ∃ o, s.heap.get? a = some o ∧ Zc cls d o ∧ (∃ v, o.data = .fields v) ∧ Inv (X.suite a ((a, o) :: (X.pn ++ pins))) [] σ H s := by
  obtain ⟨o, v, at_, z, dat⟩ := c.flies.there
  have no := c.noFrame
  refine ⟨o, at_, z, ⟨v, dat⟩, c.inv.suite at_ dat c.free (fun e => no ?_) fun m => no ?_⟩
  · exact List.mem_filterMap.mpr ⟨X.env, List.mem_cons_self, hf.trans (congrArg some e.symm)⟩
  · obtain ⟨e, me, fe⟩ := List.mem_filterMap.mp m
    exact List.mem_filterMap.mpr ⟨e, List.mem_cons_of_mem _ me, fe⟩
/-- the class that a clause names -/
theorem Caught1.named (c : Caught1 X pins σ H G s0 a cls d s) (hf : X.env.frame = some X.env.locals) {x : Str} {v : Value} {np : Pos} (hx : Names X x v) {Q E : Value → Shared → Prop} (q : Q v s) : wpAny (model X.prog X.w) (X.A.mark (some (.ref a))) (eval (.Name x np) X.env) Q E s := by
  obtain ⟨o, _, _, _, I⟩ := c.within hf
  obtain ⟨gl, db, r | ⟨r, bo, nn⟩⟩ := hx
  · exact ld_glob I gl r q db
  · exact ld_blt I gl r bo q nn db
/-- does the clause's class meet the error's -/
theorem Caught1.meets (c : Caught1 X pins σ H G s0 a cls d s) {v : Value} {b : Bool} (h : PySem.W.exmOne X.K cls v = some b) : PySem.W.Looks (model X.prog X.w) s.heap (excMatches (.ref a) v) b :=
  PySem.W.exm_one (M := model X.prog X.w) c.inv.kIn (fun A Q E t keep q => by
    obtain ⟨o, _, at_, z, _⟩ := c.flies.there
    exact wpAny_typeOf_ref (keep _ _ at_) (by rw [z.1]; exact q)) h
/-- no clause is left: the error goes on -/
theorem Caught1.over (c : Caught1 X pins σ H G s0 a cls d s) (hs : X.stack = X.env :: X.outer) (hf : X.env.frame = some X.env.locals) {W : WX} (tk : Takes X W) (w : W cls d σ H) {P : Flow → Shared → Prop} : wpAny (model X.prog X.w) X.A (handleBy (.ref a) X.env []) P X.xe s := by
  have fin : wpAny (model X.prog X.w) X.A (setFlight (.ref a) X.env.frame) (fun _ t => wpAny (model X.prog X.w) X.A (throw (.ref a) : Sem Flow) P X.xe t) X.xe s := by
    rw [hf]
    refine HandSPX.setFlight_upZ c.flies fun h hold up => wpAny_throw (tk _ _ ?_)
    refine ⟨a, G, s0, pins, σ, H, cls, d, rfl, c.state, c.ground, c.grown.trans up, .inr (.inr ?_), c.free, c.os, c.bare, w⟩
    rw [hs]; exact hold
  obtain ⟨_, _, _, o, v, T, oT, t0, at_, z, dat, first, rest⟩ := id c.flies
  refine wpAny_handleBy_nil ?_
  unfold PySem.passOn
  refine wpAny_bind (wpAny_field at_ dat first ?_)
  rw [if_neg (show ¬ ((Value.ref T == Value.none) = true) from by simp)]
  first
    | exact wpAny_bind (wpAny_pure (wpAny_bind fin))
    | exact wpAny_bind fin
/-- a clause without a name -/
theorem Caught1.plain (c : Caught1 X pins σ H G s0 a cls d s) (hf : X.env.frame = some X.env.locals) {t : Addr → Value → Option Addr → TS} {b0 : Stmt} {su : List Stmt} {D : Ends}
    (hsu : ∀ (a : Addr) (oe : Obj) (cls : Value) (d : Option Addr) (pn : List (Addr × Obj)), Zc cls d oe → (∃ vs, oe.data = .fields vs) → PSs (X.suite a ((a, oe) :: pn)) (b0 :: su) (t a cls d)) (q : t a cls d D σ H) {E : Value → Shared → Prop} :
    wpAny (model X.prog X.w) (X.A.mark (some (.ref a))) (execs (b0 :: su) X.env) (SP X pins D) (fun _ _ => False) s := by
  obtain ⟨o, at_, z, dat, I⟩ := c.within hf
  refine wpAny_mono ((hsu a o cls d (X.pn ++ pins) z dat).run [] s σ H D I q) (fun f t1 e => ?_) fun _ _ no => no.elim
  cases f with
  | ret v =>
    obtain ⟨x, σ1, H1, I1, r1, q1⟩ := e
    exact ⟨x, σ1, H1, I1.unsuite c.state.ok, r1, q1⟩
  | next => exact let ⟨σ1, H1, I1, q1⟩ := e; ⟨σ1, H1, I1.unsuite c.state.ok, q1⟩
  | brk => exact let ⟨σ1, H1, I1, q1⟩ := e; ⟨σ1, H1, I1.unsuite c.state.ok, q1⟩
  | cont => exact let ⟨σ1, H1, I1, q1⟩ := e; ⟨σ1, H1, I1.unsuite c.state.ok, q1⟩
/-- a clause with a name, which is gone behind it -/
def gone (i : Nat) (D : Ends) : Ends := { nx := fun σ H => D.nx (σ.set i none) H, rt := D.rt, bk := fun σ H => D.bk (σ.set i none) H, ct := fun σ H => D.ct (σ.set i none) H }
theorem Caught1.bound (c : Caught1 X pins σ H G s0 a cls d s) (hf : X.env.frame = some X.env.locals) {n : Str} {i : Nat} {pos : Pos} (hN : X.N.Nodup) (hi : X.N[i]? = some n) (hl : X.env.kindOf n = some .local) {t : Addr → Value → Option Addr → TS} {b0 : Stmt} {su : List Stmt} {D : Ends}
    (hsu : ∀ (a : Addr) (oe : Obj) (cls : Value) (d : Option Addr) (pn : List (Addr × Obj)), Zc cls d oe → (∃ vs, oe.data = .fields vs) → PSs (X.suite a ((a, oe) :: pn)) (b0 :: su) (t a cls d)) (q : t a cls d (gone i D) (σ.set i (some (.ref a))) H) {E : Value → Shared → Prop} :
    wpAny (model X.prog X.w) (X.A.mark (some (.ref a))) (storeName X.env n (.ref a)) (fun _ t0 => wpAny (model X.prog X.w) (X.A.mark (some (.ref a))) (execs (b0 :: su) X.env)
      (fun f t1 => wpAny (model X.prog X.w) X.A (do bindName X.env n .none; unbindBehindTheSuite X.env n pos) (fun _ t2 => SP X pins D f t2) X.xe t1) (fun _ _ => False) t0) E s := by
  obtain ⟨o, at_, z, dat, I⟩ := c.within hf
  refine store_ok (X := X.suite a ((a, o) :: (X.pn ++ pins))) (v := .ref a) I hN hi (.inl hl) rfl (fun t0 I0 => ?_) (.inr hl)
  refine wpAny_mono ((hsu a o cls d (X.pn ++ pins) z dat).run [] t0 _ H _ I0 q) (fun f t1 e => ?_) fun _ _ no => no.elim
  have off : ∀ {σ1 : St} {H1 : Hp} {Q : Shared → Prop}, Inv (X.suite a ((a, o) :: (X.pn ++ pins))) [] σ1 H1 t1 → (∀ t2, Inv X pins (σ1.set i none) H1 t2 → Q t2) →
      wpAny (model X.prog X.w) X.A (do bindName X.env n .none; unbindBehindTheSuite X.env n pos) (fun _ t2 => Q t2) X.xe t1 := fun I1 q1 => gone_ok (I1.unsuite c.state.ok) hN hi hl q1
  cases f with
  | ret v =>
    obtain ⟨x, σ1, H1, I1, r1, q1⟩ := e
    exact off I1 fun t2 I2 => ⟨x, _, H1, I2, r1, q1⟩
  | next => exact let ⟨σ1, H1, I1, q1⟩ := e; off I1 fun t2 I2 => ⟨_, H1, I2, q1⟩
  | brk => exact let ⟨σ1, H1, I1, q1⟩ := e; off I1 fun t2 I2 => ⟨_, H1, I2, q1⟩
  | cont => exact let ⟨σ1, H1, I1, q1⟩ := e; off I1 fun t2 I2 => ⟨_, H1, I2, q1⟩
end
section
variable {X : Cx} {pins : List (Addr × Obj)} {σ : St} {H : Hp} {G : Heap} {s0 s : Shared} {a : Addr} {cls : Value} {d : Option Addr}
theorem Caught1.on (c : Caught1 X pins σ H G s0 a cls d s) {h : Heap} (fl : HandSPX.FlyingZ G (X.env :: X.outer) a (Zc cls d) h) (up : s.heap.UpToSlots h) : Caught1 X pins σ H G s0 a cls d { s with heap := h } := ⟨c.state, c.ground, c.grown.trans up, fl, c.free, c.os, c.bare⟩
/-- the clauses, one after another -/
theorem Caught1.clauses (c : Caught1 X pins σ H G s0 a cls d s) (hs : X.stack = X.env :: X.outer) (hf : X.env.frame = some X.env.locals) {W : WX} (tk : Takes X W) {D : Ends} {hds : List ExceptHandler} {l : List HdT} (k : HdMix X hds l) : wMix X.K W D l cls d σ H → wpAny (model X.prog X.w) X.A (handleBy (.ref a) X.env hds) (SP X pins D) X.xe s := by
  induction k with
  | nil => exact fun w => c.over hs hf tk w
  | cons hx hsu more ih =>
    rintro ⟨b, hb, yes, no⟩
    refine wpAny_handleBy_cons (codeAny_handlers_test (c.named hf hx ((c.meets hb).here ?_))) nofun
    cases b with
    | false => exact ih (no rfl)
    | true => exact codeAny_handlers_suite (HandSPX.lands_againZ c.flies fun h fl up => wpAny_mono ((c.on fl up).plain hf hsu (yes rfl a c.free) (E := fun _ _ => False)) (fun f t1 e => e) fun _ _ no => no.elim)
  | as hN hi hl hx hsu more ih =>
    rintro ⟨b, hb, yes, no⟩
    refine wpAny_handleBy_cons (codeAny_handlers_test (c.named hf hx ((c.meets hb).here ?_))) nofun
    cases b with
    | false => exact ih (no rfl)
    | true => exact codeAny_handlers_suite_as (HandSPX.lands_againZ c.flies fun h fl up => wpAny_mono ((c.on fl up).bound hf hN hi hl hsu (yes rfl a c.free)) (fun _ t0 e => wpAny_mono e (fun _ _ e => e) fun _ _ no => no.elim) fun _ _ e => e)
variable {body : List Stmt} {h₀ : ExceptHandler} {hds : List ExceptHandler} {l : List HdT} {pos : Pos} {tb : WX → TS} {Wout : WX}
theorem ps_try_mix (hs : X.stack = X.env :: X.outer) (hf : X.env.frame = some X.env.locals) (tk : Takes X Wout)
    (hb : ∀ (W : WX) (pn : List (Addr × Obj)) (xe : Value → Shared → Prop), Takes (X.tr pn xe) W → PassesOwn (model X.prog X.w) X.A X.env xe → PSs (X.tr pn xe) body (tb W))
    (hh : HdMix X (h₀ :: hds) l) : PS X (.Try body (h₀ :: hds) [] [] pos) (fun D σ H => tb (wMix X.K Wout D l) D σ H) := ⟨fun pins s σ H D I h => by
  have ok := I.ok
  have go := (hb (wMix X.K Wout D l) (X.pn ++ pins) (fun e t => wpAny (model X.prog X.w) X.A (noteFrame e X.env) (fun _ t2 => wpAny (model X.prog X.w) X.A (setFlight e none) (fun _ t3 => wpAny (model X.prog X.w) X.A (handleBy e X.env (h₀ :: hds)) (SP X pins D) X.xe t3) X.xe t2) X.xe t)
    (fun u t ⟨a, G, s0, ps, σ1, H1, cls, d, eu, I1, gr, up, sk, fr, os, ba, w⟩ => by
      subst eu
      rw [show (X.tr _ _).stack = X.env :: X.outer from hs] at sk
      exact Sky.land Zc.steady (by rw [ok.frames, hs]) hf sk fun h fl up2 => Caught1.clauses (s := { t with heap := h }) ⟨I1.ofTry ok, gr, up.trans up2, fl, fr, os, ba⟩ hs hf tk hh w) PassesOwn.looking).run [] s σ H D (I.toTry _) h
  refine wpAny_Try_except (wpAny_mono go (fun f t e => ?_) fun _ _ e => e)
  cases f with
  | next => exact let ⟨σ1, H1, I1, q1⟩ := e; wpAny_execs_nil ⟨σ1, H1, I1.ofTry ok, q1⟩
  | ret v => exact let ⟨x, σ1, H1, I1, r1, q1⟩ := e; ⟨x, σ1, H1, I1.ofTry ok, r1, q1⟩
  | brk => exact let ⟨σ1, H1, I1, q1⟩ := e; ⟨σ1, H1, I1.ofTry ok, q1⟩
  | cont => exact let ⟨σ1, H1, I1, q1⟩ := e; ⟨σ1, H1, I1.ofTry ok, q1⟩⟩
end
end L2
namespace Dl
open PySem L2
/-! the same over data: each suite returns what its function reads of the error's fields -/
abbrev Hd : Type := Addr × Option Nat × (List (Str × D) → Option D)
def pickH (n : Nat) : List Hd → Xn → Option D
  | [], _ => none
  | (C, oi, k) :: r, x => if x.C = C then (if (match oi with | none => true | some i => decide (i < n)) = true then k (x.fs.getD []) else none) else pickH n r x
def sTryM (hs : List Hd) (fb : Sv) : Sv := fun e => match fb e with
  | .exn x e1 => (match pickH e1.ws.length hs x with | some y => .rt (.d y) e1 | none => .fail)
  | r => r
/-- what a suite must do -/
def SuOk (K : PySem.W.Frag) (C : Addr) (oi : Option Nat) (k : List (Str × D) → Option D) (ts : Addr → Value → Option Addr → TS) : Prop :=
  ∀ (a : Addr) (D' : Ends) (σ : St) (H R : Hp) (x : Xn) (d : Option Addr) (y : D), k (x.fs.getD []) = some y → (∀ i, oi = some i → σ[i]? = some (some (.ref a))) → ExR K R x (.ref C) d → Same R H →
    (∀ (v : V) (H' : Hp), (∃ (p : Addr) (o : HO), H p = none ∧ H' = upd H p o ∧ Rep K (upd R p o) y v) ∨ (H' = H ∧ Rep K R y v) → D'.rt v H') → ts a (.ref C) d D' σ H
inductive HdOkD (K : PySem.W.Frag) : List Hd → List HdT → Prop
  | nil : HdOkD K [] []
  | cons {C : Addr} {oi : Option Nat} {k : List (Str × D) → Option D} {ts : Addr → Value → Option Addr → TS} {l : List Hd} {t : List HdT} (su : SuOk K C oi k ts) (te : PySem.W.exmOne K (.ref C) (.ref C) = some true)
      (ne : ∀ h ∈ l, PySem.W.exmOne K (.ref h.1) (.ref C) = some false) (r : HdOkD K l t) : HdOkD K ((C, oi, k) :: l) ((.ref C, oi, ts) :: t)
theorem pick_mem {n : Nat} : ∀ {l : List Hd} {x : Xn} {y : D}, pickH n l x = some y → ∃ h ∈ l, x.C = h.1
  | [], _, _, h => by cases h
  | (C, oi, k) :: r, x, y, h => by
    unfold pickH at h
    by_cases hc : x.C = C
    · exact ⟨_, List.mem_cons_self, hc⟩
    · rw [if_neg hc] at h
      obtain ⟨g, h1, h2⟩ := pick_mem h
      exact ⟨g, List.mem_cons_of_mem _ h1, h2⟩
section
variable {X : Cx} {Wx : WX} {pos : Pos}
theorem wMix_ok {D' : Ends} {σ : St} {H R : Hp} {x : Xn} {d : Option Addr} {y : D} (xr : ExR X.K R x (.ref x.C) d) (sm : Same R H)
    (q : ∀ (v : V) (H' : Hp), (∃ (p : Addr) (o : HO), H p = none ∧ H' = upd H p o ∧ Rep X.K (upd R p o) y v) ∨ (H' = H ∧ Rep X.K R y v) → D'.rt v H') : ∀ {l : List Hd} {t : List HdT}, HdOkD X.K l t → pickH σ.length l x = some y → wMix X.K Wx D' t (.ref x.C) d σ H
  | _, _, .nil, h => by cases h
  | _, _, .cons (C := C) (oi := oi) (k := k) (ts := ts) su te ne r, h => by
    unfold pickH at h
    by_cases hc : x.C = C
    · rw [if_pos hc] at h
      subst hc
      refine ⟨true, te, fun _ a na => ?_, fun z => Bool.noConfusion z⟩
      cases oi with
      | none =>
        rw [if_pos rfl] at h
        exact su a D' σ H R x d y h (fun i z => by cases z) xr sm q
      | some i =>
        dsimp only at h ⊢
        split at h
        · rename_i hi
          have hi : i < σ.length := of_decide_eq_true hi
          exact su a _ _ H R x d y h (fun j z => by cases z; exact List.getElem?_set_self hi) xr sm q
        · cases h
    · rw [if_neg hc] at h
      obtain ⟨g, h1, h2⟩ := pick_mem h
      refine ⟨false, by rw [h2]; exact ne g h1, fun z => Bool.noConfusion z, fun _ => wMix_ok xr sm q r h⟩
theorem s_tryM {body : List Stmt} {h₀ : ExceptHandler} {hds : List ExceptHandler} {l : List Hd} {t : List HdT} {fb : Sv} (hs : X.stack = X.env :: X.outer) (hf : X.env.frame = some X.env.locals) (tk : L2.Takes X Wx)
    (hb : ∀ (W : WX) (pn : List (Addr × Obj)) (xe : Value → Shared → Prop), L2.Takes (X.tr pn xe) W → PassesOwn (model X.prog X.w) X.A X.env xe → PSs (X.tr pn xe) body (tS X.K W fb))
    (hh : HdMix X (h₀ :: hds) t) (ok : HdOkD X.K l t) : PS X (.Try body (h₀ :: hds) [] [] pos) (tS X.K Wx (sTryM l fb)) :=
  (L2.ps_try_mix (tb := fun W => tS X.K W fb) hs hf tk hb hh).imp fun D' σ H h => by
    obtain ⟨b, R, ρ, e, m, q⟩ := h
    refine ⟨b, R, ρ, e, m, ?_⟩
    unfold sTryM at q
    cases hfe : fb e with
    | nx e1 => rw [hfe] at q; exact q
    | rt w e1 => rw [hfe] at q; exact q
    | bk e1 => rw [hfe] at q; exact q
    | ct e1 => rw [hfe] at q; exact q
    | fail => rw [hfe] at q; exact q.elim
    | exn x e1 =>
      rw [hfe] at q
      intro R' ρ' σ' H' cls d s' m' xr
      dsimp only at q
      cases hp : pickH e1.ws.length l x with
      | none => rw [hp] at q; exact q.elim
      | some y =>
        rw [hp] at q
        have hcls := xr.1
        subst hcls
        refine wMix_ok xr m'.sub (fun v H2 hv => ?_) ok (by rw [m'.len]; exact hp)
        rcases hv with ⟨p, o, hp, rfl, rv⟩ | ⟨rfl, rv⟩
        · exact q _ ρ' σ' _ v (s'.trans (same_upd (m'.freshR hp))) (m'.freshD hp o) rv
        · exact q R' ρ' σ' _ v s' m' rv
end
/-! suites -/
/-- a part of what a suite returns -/
def PtOk (K : PySem.W.Frag) (C : Addr) (oi : Option Nat) (k : List (Str × D) → Option D) (t : Addr → Value → Option Addr → TE) : Prop :=
  ∀ (a : Addr) (σ : St) (H R : Hp) (x : Xn) (d : Option Addr) (y : D) (Q : VK), k (x.fs.getD []) = some y → (∀ i, oi = some i → σ[i]? = some (some (.ref a))) → ExR K R x (.ref C) d → Same R H → (∀ v, Rep K R y v → Q v H) → t a (.ref C) d σ H Q
def PtsOk (K : PySem.W.Frag) (C : Addr) (oi : Option Nat) (k : List (Str × D) → Option (List D)) (t : Addr → Value → Option Addr → TA) : Prop :=
  ∀ (a : Addr) (σ : St) (H R : Hp) (x : Xn) (d : Option Addr) (ys : List D) (Q : List V → Hp → Prop), k (x.fs.getD []) = some ys → (∀ i, oi = some i → σ[i]? = some (some (.ref a))) → ExR K R x (.ref C) d → Same R H → (∀ vs, RepL K R ys vs → Q vs H) → t a (.ref C) d σ H Q
def kC (d : D) : List (Str × D) → Option D := fun _ => some d
def kNil : List (Str × D) → Option (List D) := fun _ => some []
def kCons (k : List (Str × D) → Option D) (r : List (Str × D) → Option (List D)) : List (Str × D) → Option (List D) := fun fs => match k fs, r fs with | some x, some xs => some (x :: xs) | _, _ => none
def upTo (f : List D → D) : Option (List D) → Option D
  | some ys => if ys.length ≤ 1000 then some (f ys) else none
  | none => none
def kTupF (k : List (Str × D) → Option (List D)) : List (Str × D) → Option D := fun fs => upTo .tup (k fs)
def kLstF (k : List (Str × D) → Option (List D)) : List (Str × D) → Option D := fun fs => upTo .lst (k fs)
theorem upTo_some {f : List D → D} {o : Option (List D)} {y : D} (h : upTo f o = some y) : ∃ ys, o = some ys ∧ ys.length ≤ 1000 ∧ y = f ys := by
  cases o with
  | none => cases h
  | some ys =>
    by_cases hl : ys.length ≤ 1000
    · have h2 : upTo f (some ys) = some (f ys) := if_pos hl
      exact ⟨ys, rfl, hl, Option.some.inj (h.symm.trans h2)⟩
    · have h2 : upTo f (some ys) = none := if_neg hl
      exact nomatch h.symm.trans h2
section
variable {K : PySem.W.Frag} {C : Addr} {oi : Option Nat}
theorem pt_c {d : D} {v : V} (r : ∀ R, Rep K R d v) : PtOk K C oi (kC d) (fun _ _ _ => tC v) := fun a σ H R x dd y Q hk hi xr sm q => by
  cases hk
  exact q _ (r R)
theorem pt_fld {i : Nat} {f : Str} : PtOk K C (some i) (kFld f) (fun a cls d => tXf a cls d C f (tVar i)) := fun a σ H R x d y Q hk hi xr sm q => by
  have h2 := xr.2
  unfold kFld at hk
  cases hfs : x.fs with
  | none => rw [hfs] at hk; cases hk
  | some fs =>
    rw [hfs] at hk h2
    have hk : fs.lookup f = some y := hk
    obtain ⟨dd, ws, rfl, g1, g2, g3⟩ := h2
    obtain ⟨c, q1, q2⟩ := lookup_rep (F := fun x v => Rep K R x v) f g2 g3.paired hk
    exact ⟨.ref a, hi i rfl, rfl, rfl, dd, ws, c, rfl, sm _ _ g1, q1, q c q2⟩
theorem pts_nil' : PtsOk K C oi kNil (fun _ _ _ => tNil) := fun a σ H R x d ys Q hk hi xr sm q => by
  cases hk
  exact q _ .nil
theorem pts_cons' {k : List (Str × D) → Option D} {r : List (Str × D) → Option (List D)} {t : Addr → Value → Option Addr → TE} {u : Addr → Value → Option Addr → TA} (h : PtOk K C oi k t) (g : PtsOk K C oi r u) : PtsOk K C oi (kCons k r) (fun a cls d => tCons (t a cls d) (u a cls d)) := fun a σ H R x d ys Q hk hi xr sm q => by
  unfold kCons at hk
  cases h1 : k (x.fs.getD []) with
  | none => simp only [h1] at hk; cases hk
  | some y =>
    cases h2 : r (x.fs.getD []) with
    | none => simp only [h1, h2] at hk; cases hk
    | some zs =>
      simp only [h1, h2] at hk
      cases hk
      exact h a σ H R x d y _ h1 hi xr sm fun v rv => g a σ H R x d zs _ h2 hi xr sm fun vs rvs => q _ (.cons rv rvs)
/-- return part -/
theorem su_one {k : List (Str × D) → Option D} {t : Addr → Value → Option Addr → TE} (h : PtOk K C oi k t) : SuOk K C oi k (fun a cls d => tRet (t a cls d)) := fun a D' σ H R x d y hk hi xr sm q =>
  h a σ H R x d y _ hk hi xr sm fun v rv => q v H (.inr ⟨rfl, rv⟩)
theorem freeR {R H : Hp} (sm : Same R H) {p : Addr} (hp : H p = none) : R p = none := by
  cases hR : R p with
  | none => rfl
  | some o => exact absurd ((sm p o hR).symm.trans hp) (fun z => nomatch z)
/-- return (part, ..) -/
theorem su_tup {k : List (Str × D) → Option (List D)} {t : Addr → Value → Option Addr → TA} (h : PtsOk K C oi k t) : SuOk K C oi (kTupF k) (fun a cls d => tRet (tTup (t a cls d))) := fun a D' σ H R x d y hk hi xr sm q => by
  obtain ⟨ys, hl, hz, rfl⟩ := upTo_some hk
  exact h a σ H R x d ys _ hl hi xr sm fun vs rvs => ⟨by rw [← rvs.length, sizeL]; omega, fun p hp => q (.ref p) _ (.inl ⟨p, _, hp, rfl, .tup upd_same (RepL.mono (same_upd (freeR sm hp)) rvs)⟩)⟩
/-- return [part, ..] -/
theorem su_lst {k : List (Str × D) → Option (List D)} {t : Addr → Value → Option Addr → TA} (h : PtsOk K C oi k t) : SuOk K C oi (kLstF k) (fun a cls d => tRet (tLst (t a cls d))) := fun a D' σ H R x d y hk hi xr sm q => by
  obtain ⟨ys, hl, hz, rfl⟩ := upTo_some hk
  exact h a σ H R x d ys _ hl hi xr sm fun vs rvs => ⟨by rw [← rvs.length, sizeL]; omega, fun p hp => q (.ref p) _ (.inl ⟨p, _, hp, rfl, .lst upd_same (RepL.mono (same_upd (freeR sm hp)) rvs)⟩)⟩
end
/-! evaluation -/
section
variable {hs : List Hd} {fb : Sv} {e : Env} {w : W} {x : Xn} {y : D}
def tmK (hs : List Hd) (r : SR) : SR := match r with
  | .exn x e1 => (match pickH e1.ws.length hs x with | some y => .rt (.d y) e1 | none => .fail)
  | r => r
@[simp] theorem sTryM_ev : sTryM hs fb e = tmK hs (fb e) := rfl
@[simp] theorem tmK_nx : tmK hs (.nx e) = .nx e := rfl
@[simp] theorem tmK_rt : tmK hs (.rt w e) = .rt w e := rfl
theorem tmK_exn (h : pickH e.ws.length hs x = some y) : tmK hs (.exn x e) = .rt (.d y) e := by
  show (match pickH e.ws.length hs x with | some y => SR.rt (.d y) e | none => .fail) = _
  rw [h]
end
end Dl
end
section
set_option Elab.async false
set_option linter.all false
set_option maxRecDepth 100000
set_option maxHeartbeats 4000000
/-! sorted(set(xs)) of a list of ints -/
namespace DlSet
open PySem PySem.Spec PySem.Calls PyProof.Rows L2
/-- what set() makes -/
abbrev bare (w : World) : Obj := { cls := .type "set", dict := none, data := .set #[] 0 (.fresh 0 0 (!w.params.followText "set-order")) }
section
variable {P : Program} {w : World} {A : Around} {E : Value → Shared → Prop} {s : Shared} {l S : Addr} {items : Array Value} {ns : List Int}
theorem fill {R : Result → Shared → Prop} (hh : A.handled = none) (hl : s.heap.IsList l items) (hS : s.heap.get? S = some (bare w)) (hit : IntsAre items.toList ns) (hb : ns.length + 1 < scanBound)
    (hR : ∀ (h' : Heap) (tk c : Nat), SetR w h' S (fun j => decide (j ∈ ns)) c → c ≤ ns.length → (∀ b o, b ≠ S → s.heap.get? b = some o → h'.get? b = some o) → R (.ok (.ret .none)) { s with heap := h', toks := tk }) :
    codeAny (model P w) A (.call (.builtin "set.__init__") ⟨[.ref S, .ref l], []⟩) R s := by
  have tS : Shared.TypeIs s (.ref S) "set" := ⟨_, hS, rfl⟩
  have sz : items.size = ns.length := (Array.length_toList (xs := items)).symm.trans (IntsAre.length hit)
  obtain ⟨⟨lc, ld, lda, lsl⟩, gl, cl, n, dl⟩ := id hl
  simp only at cl dl
  subst cl dl
  refine codeAny_call_builtin F.called_set.init.plain F.entry_set_init (check_set_init_1 tS ?_)
  have n1 := F.sub_list_set
  have n2 := F.sub_list_frozenset
  have n3 : (Value.type "list" == Value.type "dict") = false := by decide
  unfold Builtin.«set.__init__» noKeywords Builtin.Frozenset.updateFrom
  generalize hi : pyIter = it
  wp_walk
  subst hi
  have hneS : S ≠ s.heap.objs.size := Nat.ne_of_lt (Heap.lt_size hS)
  have hnel : l ≠ s.heap.objs.size := Nat.ne_of_lt (Heap.lt_size gl)
  have hSl : S ≠ l := fun e => by
    subst e
    have z := congrArg Obj.cls (Option.some.inj (gl.symm.trans hS))
    exact absurd z (by simp)
  refine wpAny_pyIter_list hl (wpAny_bind (wpAny_runValue ?_))
  have quiet : A.in1.in1.handled = none := hh
  refine set_update_ints ((Walks.list quiet s.heap.objs.size l hnel items).toS) S (by simp [hneS, hSl]) ns sz hb (fun i v hv => ?_) (items.size - 0) 0 _ (by omega) (Nat.zero_le _)
    ⟨⟨_, Heap.get?_push_size _ rfl, rfl, rfl⟩, hl.push _⟩ ⟨0, Nat.le_refl 0, setR_new_at (Heap.get?_push_of_some _ hS)⟩ fun t c mv le sr => ?_
  · have hi : i < ns.length := by rw [← sz]; exact (Array.getElem?_eq_some_iff.mp hv).1
    obtain ⟨tk, e⟩ := IntsAre.int_at hit i v (by rw [Array.getElem?_toList]; exact hv)
    exact ⟨ns[i], tk, List.getElem?_eq_getElem hi, by rw [e, List.getD_eq_getElem?_getD, List.getElem?_eq_getElem hi] <;> rfl⟩
  · obtain ⟨th, tg, td, tt, to⟩ := t
    obtain rfl : tg = s.gens := mv.gens
    obtain rfl : td = s.drawn := mv.drawn
    obtain rfl : to = s.os := mv.os
    refine wpAny_pure ?_
    show wpAny _ _ (ret Value.none) _ _ _
    exact wpAny_pure (hR th tt c sr (by rw [← sz]; exact le) fun b o ne e => mv.heap b o (by simp [ne, Nat.ne_of_lt (Heap.lt_size e)]) (Heap.get?_push_of_some _ e))
/-- set(xs), the items whole numbers -/
theorem made {Q : Value → Shared → Prop} (hh : A.handled = none) (hl : s.heap.IsList l items) (hit : IntsAre items.toList ns) (hb : ns.length + 1 < scanBound)
    (hQ : ∀ (h' : Heap) (tk c : Nat), SetR w h' s.heap.objs.size (fun j => decide (j ∈ ns)) c → c ≤ ns.length → (∀ b o, s.heap.get? b = some o → h'.get? b = some o) → Q (.ref s.heap.objs.size) { s with heap := h', toks := tk }) :
    wpAny (model P w) A (call (.type "set") [.ref l]) Q E s := by
  have T := F.called_set
  obtain ⟨c0, tl, mro⟩ := T.mro
  have a1 := T.made
  have a2 := T.sub
  have a3 := T.notType
  have a4 := T.canCreate
  have a5 := F.typeCall_set_1 (.ref l)
  refine wpAny_call (codeAny_of_tree ?_)
  show wpAny _ _ (callAny (.type "set") _) _ _ _
  refine wpAny_pure ⟨Code.quiet_builtin _ (by decide +kernel), codeAny_builtin F.entry_type_call ?_⟩
  rw [Around.under_plain (weight_type_call_type "set" [.ref l] []) rfl]
  repeat (any_goals (first | assumption | wp_step))
  refine codeAny_mono (code_set_led1 (.ref l) (E := E) (Q₁ := fun v t => v = .ref s.heap.objs.size ∧ t = { s with heap := s.heap.push (bare w) }) ⟨rfl, rfl⟩) fun r t e => ?_
  match r, e with
  | .ok (.ret v), e =>
    obtain ⟨rfl, rfl⟩ := e
    have at_ : (s.heap.push (bare w)).get? s.heap.objs.size = some (bare w) := Heap.get?_push_size _ rfl
    have tS : Shared.TypeIs { s with heap := s.heap.push (bare w) } (.ref s.heap.objs.size) "set" := ⟨_, at_, rfl⟩
    have b1 := T.init.lookup
    have b2 := T.init.bind (.ref s.heap.objs.size)
    repeat (any_goals (first | assumption | wp_step))
    refine codeAny_mono (fill (R := wants (fun r t => r = .none ∧ ∃ h' tk c, t = { s with heap := h', toks := tk } ∧ SetR w h' s.heap.objs.size (fun j => decide (j ∈ ns)) c ∧ c ≤ ns.length ∧ (∀ b o, s.heap.get? b = some o → h'.get? b = some o)) E) hh (hl.push _) at_ hit hb
      fun h' tk c sr le old => ⟨rfl, h', tk, c, rfl, sr, le, fun b o e => old b o (Nat.ne_of_lt (Heap.lt_size e)) (Heap.get?_push_of_some _ e)⟩) fun r2 t2 e2 => ?_
    match r2, e2 with
    | .ok (.ret v2), e2 =>
      obtain ⟨rfl, h', tk, c, rfl, sr, le, old⟩ := e2
      repeat (any_goals (first | assumption | wp_step))
      exact hQ _ _ _ sr le old
    | .error _, e2 => exact e2
  | .error _, e => exact e
end
end DlSet
end
section
set_option Elab.async false
set_option linter.all false
set_option maxRecDepth 100000
set_option maxHeartbeats 4000000
namespace Dl
open PySem L2
/-! sorted(set(xs)), whole numbers, fewer than 64 -/
def insI (x : Int) : List Int → List Int
  | [] => [x]
  | y :: r => if x < y then x :: y :: r else if x = y then y :: r else y :: insI x r
def srtI (ns : List Int) : List Int := ns.foldr insI []
theorem insI_mem {x k : Int} : ∀ {l : List Int}, k ∈ insI x l ↔ k = x ∨ k ∈ l
  | [] => by simp [insI]
  | y :: r => by
    unfold insI
    split
    · simp
    · split
      · rename_i _ h
        subst h
        simp
      · rw [List.mem_cons, insI_mem, List.mem_cons]
        constructor
        · rintro (h | h | h) <;> simp [h]
        · rintro (h | h | h) <;> simp [h]
theorem insI_asc {x : Int} : ∀ {l : List Int}, l.Pairwise (· < ·) → (insI x l).Pairwise (· < ·)
  | [], _ => by simp [insI]
  | y :: r, h => by
    have h' := List.pairwise_cons.mp h
    unfold insI
    split
    · rename_i hx
      refine List.pairwise_cons.mpr ⟨fun z hz => ?_, h⟩
      rcases List.mem_cons.mp hz with rfl | hz
      · exact hx
      · exact Int.lt_trans hx (h'.1 z hz)
    · split
      · exact h
      · rename_i h1 h2
        refine List.pairwise_cons.mpr ⟨fun z hz => ?_, insI_asc h'.2⟩
        rcases insI_mem.mp hz with rfl | hz
        · omega
        · exact h'.1 z hz
theorem srtI_mem {k : Int} : ∀ {l : List Int}, k ∈ srtI l ↔ k ∈ l
  | [] => by simp [srtI]
  | y :: r => by
    have ih := srtI_mem (k := k) (l := r)
    unfold srtI at ih ⊢
    rw [List.foldr_cons, insI_mem, ih, List.mem_cons]
theorem srtI_asc : ∀ {l : List Int}, (srtI l).Pairwise (· < ·)
  | [] => .nil
  | y :: r => by
    have ih := srtI_asc (l := r)
    unfold srtI at ih ⊢
    rw [List.foldr_cons]
    exact insI_asc ih
/-- an ascending list is told by its members -/
theorem asc_uniq : ∀ {l m : List Int}, l.Pairwise (· < ·) → m.Pairwise (· < ·) → (∀ k, k ∈ l ↔ k ∈ m) → l = m
  | [], [], _, _, _ => rfl
  | [], y :: m, _, _, h => absurd ((h y).mpr List.mem_cons_self) (by simp)
  | x :: l, [], _, _, h => absurd ((h x).mp List.mem_cons_self) (by simp)
  | x :: l, y :: m, hl, hm, h => by
    have h1 := List.pairwise_cons.mp hl
    have h2 := List.pairwise_cons.mp hm
    have exy : x = y := by
      rcases List.mem_cons.mp ((h x).mp List.mem_cons_self) with e | e
      · exact e
      · rcases List.mem_cons.mp ((h y).mpr List.mem_cons_self) with e2 | e2
        · exact e2.symm
        · have := h1.1 y e2
          have := h2.1 x e
          omega
    subst exy
    rw [asc_uniq h1.2 h2.2 fun k => ?_]
    constructor
    · intro hk
      rcases List.mem_cons.mp ((h k).mp (List.mem_cons_of_mem _ hk)) with e | e
      · have := h1.1 k hk; omega
      · exact e
    · intro hk
      rcases List.mem_cons.mp ((h k).mpr (List.mem_cons_of_mem _ hk)) with e | e
      · have := h2.1 k hk; omega
      · exact e
theorem asc_len_le : ∀ {l : List Int}, (srtI l).length ≤ l.length
  | [] => Nat.le_refl 0
  | y :: r => by
    have ih := asc_len_le (l := r)
    have one : ∀ m : List Int, (insI y m).length ≤ m.length + 1 := fun m => by
      induction m with
      | nil => simp [insI]
      | cons z m ih =>
        unfold insI
        split
        · simp
        · split
          · simp
          · simp; omega
    unfold srtI at ih ⊢
    rw [List.foldr_cons, List.length_cons]
    exact Nat.le_trans (one _) (by omega)
/-- set(xs) -/
def rSetL (K : PySem.W.Frag) (w : World) : List V → Hp → VK → Prop := fun xs H Q => ∃ (p : Addr) (ns : List Int), xs = [V.ref p] ∧ SqL K H p (ns.map V.int) ∧ ns.length ≤ 1000 ∧ ∀ (a : Addr) (n : Nat), n ≤ ns.length → H a = none → Q (.ref a) (upd H a (SetO w a (fun k => decide (k ∈ ns)) n))
section
variable {X : Cx} {Wx : WX} {c : Expr} {p p2 pos pos2 : Pos}
theorem cr_setL (hc : X.calm = true) : CallR X (.type "set") (rSetL X.K X.w) := by
  intro pins s σ H xs us Q I r h
  obtain ⟨q, ns, rfl, hq, hl, k⟩ := h
  obtain rfl := Vals.ref1 r
  obtain ⟨its, rv, pl, hz⟩ := I.list hq
  have fr : H s.heap.objs.size = none := I.hok.fresh (Nat.le_refl _)
  exact DlSet.made (I.ok.hd hc) pl.isList (by simpa using ints_of_vals rv) (by unfold scanBound; omega) fun h' tk n sr le old => ⟨.ref s.heap.objs.size, _, I.laid (t' := tk) old (Nat.le_refl _) (setO_new sr), rfl, k _ n le fr⟩
def kSoSet : W → Ev := fun w e => match w with
  | .d (.lst xs) => (match intsD xs with | some ns => if ns.length < 64 then .ok (.d (.lst ((srtI ns).map .int))) e else .fail | none => .fail)
  | _ => .fail
def eSoSet (f : Ev) : Ev := fun e => (f e).bind kSoSet
theorem d_soSet {f : Ev} (hc : X.calm = true) (hg : Gl X "sorted") (hm : X.mg "sorted" = none) (hg2 : Gl X "set") (hm2 : X.mg "set" = none) (ha : PE X c (tD X.K Wx f))
    (hs2 : starEach [c] X.env = (false, eval c X.env) :: starEach [] X.env := by rfl) (hpl2 : (backTo pos2 (starEach [] X.env)).any (·.1) = false := by rfl)
    (hs : starEach [.Call (.Name "set" p2) [c] [] pos2] X.env = (false, eval (.Call (.Name "set" p2) [c] [] pos2) X.env) :: starEach [] X.env := by rfl) (hpl : (backTo pos (starEach [] X.env)).any (·.1) = false := by rfl) :
    PE X (.Call (.Name "sorted" p) [.Call (.Name "set" p2) [c] [] pos2] [] pos) (tD X.K Wx (eSoSet f)) :=
  (pe_callB (cr_sortedSet hc) hg hm (by rfl) (pa_cons (pe_callTy (cr_setL hc) hg2 hm2 (by rfl) (pa_cons ha pa_nil hs2) (by decide) (by decide) hs2 hpl2) pa_nil hs) (by decide) (by decide) hs hpl).imp fun σ H Q q =>
  tG_one q fun bs R ρ e H w v m r q2 => by
    unfold kSoSet at q2
    split at q2
    · rename_i xs
      cases hi : intsD xs with
      | none => rw [hi] at q2; exact q2.elim
      | some ns =>
        rw [hi] at q2
        dsimp only at q2
        split at q2
        · rename_i h64
          have r : Rep X.K R (.lst xs) v := r
          cases r with
          | lst h1 l1 =>
            rw [intsD_eq hi] at l1
            rw [l1.ints_inv] at h1
            refine ⟨_, ns, rfl, SqL.of (m.sub _ _ h1), by omega, fun a n hn fa => ⟨a, _, n, rfl, upd_same, by omega, fun out q pw mem len fq => ?_⟩⟩
            have eo : out = srtI ns := asc_uniq pw srtI_asc fun z => by rw [mem z, srtI_mem, decide_eq_true_iff]
            subst eo
            have nq : q ≠ a := fun z => by rw [z, upd_same] at fq; cases fq
            have fq : H q = none := by rwa [upd_ne nq] at fq
            have g1 : Same H (upd (upd H a (SetO X.w a (fun k => decide (k ∈ ns)) n)) q (.lst ((srtI ns).map V.int))) := fun x o h => by
              rw [upd_ne (fun z => by rw [z, fq] at h; cases h), upd_ne (fun z => by rw [z, fa] at h; cases h)]; exact h
            have g2 : Same R (upd R q (.lst ((srtI ns).map V.int))) := same_upd (m.freshR fq)
            have g3 : Same (upd R q (.lst ((srtI ns).map V.int))) (upd (upd H a (SetO X.w a (fun k => decide (k ∈ ns)) n)) q (.lst ((srtI ns).map V.int))) := fun x o h => by
              by_cases z : x = q
              · subst z; rw [upd_same] at h ⊢; exact h
              · rw [upd_ne z] at h; exact g1 _ _ (m.sub _ _ h)
            refine q2 _ ρ (.ref q) _ g2 (Live.refl e ρ) (m.grow2 g1 g2 g3 fun x o h => ?_) (.lst upd_same ?_)
            · by_cases z : x = q
              · subst z; exact .inr fq
              · rw [upd_ne z] at h; exact .inl h
            · exact RepL.ints
        · exact q2.elim
    · exact q2.elim
end
/-! xs.count(k), whole numbers -/
section
variable {K : PySem.W.Frag} {Wx : WX}
def kCount (w : W) (ws : List W) : Ev := fun e => match w, ws with
  | .d (.lst xs), [.d (.int k)] => (match intsD xs with | some ns => .ok (.d (.int (ns.count k : Nat))) e | none => .fail)
  | _, _ => .fail
theorem kCount_ok : MethD K Wx kCount (rCntI K) := fun b R ρ e σ H w v ws vs Q m r rs q => by
  unfold kCount at q
  split at q
  · rename_i xs k
    obtain ⟨u, e2, ru⟩ := pair1 rs
    subst e2
    have ru : Rep K R (.int k) u := ru
    cases ru
    have r : Rep K R (.lst xs) v := r
    cases r with
    | lst h1 l1 =>
      cases hi : intsD xs with
      | none => rw [hi] at q; exact q.elim
      | some ns =>
        rw [hi] at q
        rw [intsD_eq hi] at l1
        rw [l1.ints_inv] at h1
        exact ⟨_, ns, k, rfl, rfl, SqL.of (m.sub _ _ h1), q.fin m (.int _)⟩
  · exact q.elim
end
section
variable {f : Ev} {e : Env} {ns : List Int} {k : Int}
def soK (r : Rs W) : Rs W := r.bind kSoSet
@[simp] theorem eSoSet_ev : eSoSet f e = soK (f e) := rfl
@[simp] theorem soK_ok : soK (.ok (.d (.lst (ns.map .int))) e) = if ns.length < 64 then .ok (.d (.lst ((srtI ns).map .int))) e else .fail := by
  show (match intsD (ns.map .int) with | some ns => if ns.length < 64 then Rs.ok (W.d (.lst ((srtI ns).map .int))) e else .fail | none => .fail) = _
  rw [intsD_map]
@[simp] theorem isLst_dat {l : List D} : isLst e (.d (.lst l)) = true := rfl
@[simp] theorem kCount_ev : kCount (.d (.lst (ns.map .int))) [.d (.int k)] e = .ok (.d (.int (ns.count k : Nat))) e := by
  show (match intsD (ns.map .int) with | some ns => Rs.ok (W.d (.int (ns.count k : Nat))) e | none => .fail) = _
  rw [intsD_map]
end
end Dl
end
section
set_option Elab.async false
set_option linter.all false
set_option maxRecDepth 100000
set_option maxHeartbeats 4000000
namespace Dl
open PySem L2
/-! dicts: keys are ints and texts, or tuples of them -/
section
variable {κ : Type} [DecidableEq κ]
def lkp : List (κ × D) → κ → Option D
  | [], _ => none
  | p :: r, k => if p.1 = k then some p.2 else lkp r k
/-- in its place, or at the end -/
def putD (kvs : List (κ × D)) (k : κ) (y : D) : List (κ × D) := if (lkp kvs k).isSome = true then kvs.map (fun p => if p.1 = k then (p.1, y) else p) else kvs ++ [(k, y)]
theorem lkp_app : ∀ (kvs l : List (κ × D)) (k : κ), lkp (kvs ++ l) k = (lkp kvs k).or (lkp l k)
  | [], _, _ => rfl
  | p :: r, l, k => by
    rw [List.cons_append, lkp, lkp]
    split
    · rfl
    · exact lkp_app r l k
theorem lkp_map (k j : κ) (y : D) : ∀ kvs : List (κ × D), lkp (kvs.map fun p => if p.1 = k then (p.1, y) else p) j = (lkp kvs j).map fun x => if j = k then y else x
  | [] => rfl
  | p :: r => by
    rw [List.map_cons, lkp, lkp]
    by_cases e : p.1 = k
    · rw [if_pos e]
      by_cases f : p.1 = j
      · rw [if_pos f, if_pos f, Option.map_some, if_pos (f.symm.trans e)]
      · rw [if_neg f, if_neg f]; exact lkp_map k j y r
    · rw [if_neg e]
      by_cases f : p.1 = j
      · rw [if_pos f, if_pos f, Option.map_some, if_neg (fun z => e (f.trans z))]
      · rw [if_neg f, if_neg f]; exact lkp_map k j y r
theorem lkp_put (kvs : List (κ × D)) (k j : κ) (y : D) : lkp (putD kvs k y) j = if j = k then some y else lkp kvs j := by
  unfold putD
  by_cases h : (lkp kvs k).isSome = true
  · rw [if_pos h, lkp_map]
    by_cases e : j = k
    · subst e
      obtain ⟨x, hx⟩ := Option.isSome_iff_exists.mp h
      rw [hx, if_pos rfl, Option.map_some, if_pos rfl]
    · rw [if_neg e]
      cases lkp kvs j with
      | none => rfl
      | some x => rw [Option.map_some, if_neg e]
  · rw [if_neg h, lkp_app]
    have h0 : lkp kvs k = none := by cases q : lkp kvs k with
      | none => rfl
      | some x => rw [q] at h; exact absurd rfl h
    by_cases e : j = k
    · subst e
      rw [if_pos rfl, h0, lkp, if_pos rfl]
      rfl
    · rw [if_neg e, lkp, if_neg (fun z => e z.symm), lkp]
      cases lkp kvs j <;> rfl
theorem put_len (kvs : List (κ × D)) (k : κ) (y : D) : (putD kvs k y).length = if (lkp kvs k).isSome = true then kvs.length else kvs.length + 1 := by
  unfold putD
  split <;> simp
end
def keyD : D → Option Key
  | .int i => some (.inl i)
  | .str x => some (.inr x)
  | _ => none
def keysD : List D → Option (List Key)
  | [] => some []
  | x :: r => match keyD x, keysD r with | some k, some ks => some (k :: ks) | _, _ => none
/-- what a dict holds at a key -/
def getD (kvs : List (Key × D)) (y : D) : Option (Option D) := (keyD y).map (lkp kvs)
def getT (kvs : List (List Key × D)) (y : D) : Option (Option D) := match y with | .tup xs => (keysD xs).map (lkp kvs) | _ => none
section
variable {K : PySem.W.Frag} {R : Hp}
theorem keyD_rep {x : D} {k : Key} {v : V} (h : keyD x = some k) (r : Rep K R x v) : v = kV k := by
  cases r <;> first | (cases h; rfl) | cases h
theorem keysD_rep : ∀ {xs : List D} {ks : List Key} {vs : List V}, keysD xs = some ks → RepL K R xs vs → vs = ks.map kV
  | [], _, _, h, .nil => by cases h; rfl
  | x :: r, _, _, h, .cons a t => by
    unfold keysD at h
    cases h1 : keyD x with
    | none => rw [h1] at h; cases h
    | some k =>
      cases h2 : keysD r with
      | none => rw [h1, h2] at h; cases h
      | some ks =>
        rw [h1, h2] at h; cases h
        rw [keyD_rep h1 a, keysD_rep h2 t]
        rfl
variable {κ : Type} [DecidableEq κ]
theorem lkp_rep : ∀ {kvs : List (κ × D)} {ws : List (κ × V)} (k : κ), ws.map (·.1) = kvs.map (·.1) → RepL K R (kvs.map (·.2)) (ws.map (·.2)) →
    (lkp kvs k = none ∧ valV ws k = none) ∨ ∃ d v, lkp kvs k = some d ∧ valV ws k = some v ∧ Rep K R d v
  | [], [], k, _, _ => .inl ⟨rfl, valV_nil⟩
  | [], _ :: _, k, h, _ => by simp at h
  | _ :: _, [], k, h, _ => by simp at h
  | p :: r, q :: s, k, h, .cons a t => by
    rw [List.map_cons, List.map_cons] at h
    injection h with h1 h2
    unfold lkp
    by_cases e : p.1 = k
    · rw [if_pos e, valV_pos (h1.trans e)]
      exact .inr ⟨_, _, rfl, rfl, a⟩
    · rw [if_neg e, valV_neg (fun z => e (h1.symm.trans z))]
      exact lkp_rep k h2 t
theorem put_rep {kvs : List (κ × D)} {ws : List (κ × V)} (k : κ) {y : D} {v : V} (h : ws.map (·.1) = kvs.map (·.1)) (r : RepL K R (kvs.map (·.2)) (ws.map (·.2))) (ry : Rep K R y v) :
    (putK ws k v).map (·.1) = (putD kvs k y).map (·.1) ∧ RepL K R ((putD kvs k y).map (·.2)) ((putK ws k v).map (·.2)) := by
  have hany : (ws.any fun kv => decide (kv.1 = k)) = (lkp kvs k).isSome := by
    rw [valV_any]
    rcases lkp_rep k h r with ⟨a, b⟩ | ⟨d, v, a, b, _⟩
    · rw [a, b]; rfl
    · rw [a, b]; rfl
  have hm : ∀ {kvs : List (κ × D)} {ws : List (κ × V)}, ws.map (·.1) = kvs.map (·.1) → RepL K R (kvs.map (·.2)) (ws.map (·.2)) →
      (ws.map fun kv => if kv.1 = k then (kv.1, v) else kv).map (·.1) = (kvs.map fun p => if p.1 = k then (p.1, y) else p).map (·.1) ∧ RepL K R ((kvs.map fun p => if p.1 = k then (p.1, y) else p).map (·.2)) ((ws.map fun kv => if kv.1 = k then (kv.1, v) else kv).map (·.2)) := by
    intro kvs
    induction kvs with
    | nil =>
      intro ws h r
      cases ws with
      | nil => exact ⟨rfl, .nil⟩
      | cons q s => simp at h
    | cons p l ih =>
      intro ws h r
      cases ws with
      | nil => simp at h
      | cons q s =>
        rw [List.map_cons, List.map_cons] at h
        injection h with h1 h2
        cases r with
        | cons a t =>
          obtain ⟨i1, i2⟩ := ih h2 t
          simp only [List.map_cons]
          by_cases e : p.1 = k
          · have e2 : q.1 = k := h1.trans e
            rw [if_pos e, if_pos e2]
            exact ⟨by rw [i1, h1], .cons ry i2⟩
          · have e2 : ¬ q.1 = k := fun z => e (h1.symm.trans z)
            rw [if_neg e, if_neg e2]
            exact ⟨by rw [i1, h1], .cons a i2⟩
  unfold putK putD
  rw [hany]
  split
  · exact hm h r
  · rw [List.map_append, List.map_append, h]
    exact ⟨rfl, by rw [List.map_append, List.map_append]; exact r.append (.cons ry .nil)⟩
theorem put_le (kvs : List (κ × D)) (k : κ) (y : D) : kvs.length ≤ (putD kvs k y).length := by
  rw [put_len]; split <;> omega
end
end Dl
end
section
set_option Elab.async false
set_option linter.all false
set_option maxRecDepth 100000
set_option maxHeartbeats 4000000
namespace Dl
open PySem L2
/-! dicts: what is read of them -/
/-- what the dict w1 holds at the key w2 -/
def getC (c : Cell) (y : D) : Option (Option D) := match c with
  | .dic kvs => getD kvs y
  | .dct kvs => getT kvs y
  | _ => none
def getW (e : Env) (w y : W) : Option (Option D) := match w, y with
  | .d (.dic kvs), .d y => getD kvs y
  | .d (.dct kvs), .d y => getT kvs y
  | .loc n, .d y => (match e.cell n with | some c => getC c y | none => none)
  | _, _ => none
section
variable {K : PySem.W.Frag} {Wx : WX} {b : Bs} {R : Hp} {ρ : Nat → Addr} {e : Env} {σ : St} {H : Hp}
def LkR (K : PySem.W.Frag) (R : Hp) (o : Option D) (ov : Option V) : Prop := (o = none ∧ ov = none) ∨ ∃ d v, o = some d ∧ ov = some v ∧ Rep K R d v
theorem getD_ok {kvs : List (Key × D)} {ws : List (Key × V)} {a : Addr} {y : D} {vy : V} {o : Option D} (h : getD kvs y = some o) (ha : H a = some (.dK ws)) (hk : ws.map (·.1) = kvs.map (·.1)) (hl : RepL K R (kvs.map (·.2)) (ws.map (·.2))) (ry : Rep K R y vy) :
    ∃ ov, DGet H a vy ov ∧ LkR K R o ov := by
  unfold getD at h
  cases hy : keyD y with
  | none => rw [hy] at h; cases h
  | some k =>
    rw [hy] at h
    cases h
    rw [keyD_rep hy ry]
    refine ⟨valV ws k, .k ha, ?_⟩
    rcases lkp_rep k hk hl with ⟨h1, h2⟩ | ⟨d, v, h1, h2, h3⟩
    · exact .inl ⟨h1, h2⟩
    · exact .inr ⟨d, v, h1, h2, h3⟩
theorem getT_ok {kvs : List (List Key × D)} {ws : List (List Key × V)} {a : Addr} {y : D} {vy : V} {o : Option D} (h : getT kvs y = some o) (ha : H a = some (.dT ws)) (hk : ws.map (·.1) = kvs.map (·.1)) (hl : RepL K R (kvs.map (·.2)) (ws.map (·.2))) (ry : Rep K R y vy) (s : Same R H) :
    ∃ ov, DGet H a vy ov ∧ LkR K R o ov := by
  unfold getT at h
  cases y with
  | tup xs =>
    have h : (keysD xs).map (lkp kvs) = some o := h
    cases hy : keysD xs with
    | none => rw [hy] at h; cases h
    | some k =>
      rw [hy] at h
      cases h
      cases ry with
      | tup h1 l1 =>
        rw [keysD_rep hy l1] at h1
        refine ⟨valV ws k, .t ha (s _ _ h1), ?_⟩
        rcases lkp_rep k hk hl with ⟨g1, g2⟩ | ⟨d, v, g1, g2, g3⟩
        · exact .inl ⟨g1, g2⟩
        · exact .inr ⟨d, v, g1, g2, g3⟩
  | _ => cases h
theorem getW_ok {w y : W} {vw vy : V} {o : Option D} (m : Md K b R ρ e σ H) (r : RepW K R ρ w vw) (ry : RepW K R ρ y vy) (h : getW e w y = some o) : ∃ a ov, vw = .ref a ∧ DGet H a vy ov ∧ LkR K R o ov := by
  unfold getW at h
  split at h
  · rename_i kvs y
    have r : Rep K R (.dic kvs) vw := r
    cases r with
    | dic h1 h2 h3 =>
      obtain ⟨ov, g1, g2⟩ := getD_ok h (m.sub _ _ h1) h2 h3 ry
      exact ⟨_, ov, rfl, g1, g2⟩
  · rename_i kvs y
    have r : Rep K R (.dct kvs) vw := r
    cases r with
    | dct h1 h2 h3 =>
      obtain ⟨ov, g1, g2⟩ := getT_ok h (m.sub _ _ h1) h2 h3 ry m.sub
      exact ⟨_, ov, rfl, g1, g2⟩
  · rename_i n y
    cases hc : e.cell n with
    | none => rw [hc] at h; cases h
    | some c =>
      rw [hc] at h
      have h : getC c y = some o := h
      have e1 : vw = .ref (ρ n) := r
      have ca := m.cell n c hc
      cases c with
      | dic kvs =>
        obtain ⟨ws, h1, h2, h3⟩ := ca
        obtain ⟨ov, g1, g2⟩ := getD_ok (o := o) h h1 h2 h3 ry
        exact ⟨_, ov, e1, g1, g2⟩
      | dct kvs =>
        obtain ⟨ws, h1, h2, h3⟩ := ca
        obtain ⟨ov, g1, g2⟩ := getT_ok (o := o) h h1 h2 h3 ry m.sub
        exact ⟨_, ov, e1, g1, g2⟩
      | _ => cases h
  · cases h
theorem lk_isSome {o : Option D} {ov : Option V} (l : LkR K R o ov) : ov.isSome = o.isSome := by
  rcases l with ⟨rfl, rfl⟩ | ⟨d, v, rfl, rfl, _⟩ <;> rfl
end
/-- d[k] -/
def kDGet (w y : W) : Ev := fun e => match getW e w y with | some (some d) => .ok (.d d) e | _ => .fail
def eDGet (f g : Ev) : Ev := bin2 f g kDGet
/-- k in d, k not in d -/
def kDIn (neg : Bool) (y w : W) : Ev := fun e => match getW e w y with | some o => .ok (.d (.bl (o.isSome != neg))) e | none => .fail
def kDInB (neg : Bool) (y w : W) : Env → Rs Bool := fun e => match getW e w y with | some o => .ok (o.isSome != neg) e | none => .fail
def eDIn (neg : Bool) (g f : Ev) : Ev := bin2 g f (kDIn neg)
def bDIn (neg : Bool) (g f : Ev) : Env → Rs Bool := bin2 g f (kDInB neg)
section
variable {X : Cx} {Wx : WX} {a c : Expr} {pos : Pos} {f g : Ev}
theorem d_dget (hu : X.A.units + 64 < cLine) (ha : PE X a (tD X.K Wx f)) (hb : PE X c (tD X.K Wx g)) (hs : NoSl c) : PE X (.Subscript a c pos) (tD X.K Wx (eDGet f g)) := (pe_dget (by omega) ha hb hs).imp fun σ H Q h =>
  tG_two h fun bs R ρ e H w y v vy m r ry q => by
    unfold kDGet at q
    split at q
    · rename_i d hg
      obtain ⟨p, ov, e1, g1, g2⟩ := getW_ok m r ry hg
      rcases g2 with ⟨z, _⟩ | ⟨d', v', z, rfl, rd⟩
      · cases z
      · cases z
        exact ⟨p, v', e1, g1, q.fin (L := lW X.K) (a := .d d) m rd⟩
    · exact q.elim
theorem t_din (hu : X.A.units + 64 < cLine) (hb : PE X c (tD X.K Wx g)) (ha : PE X a (tD X.K Wx f)) (hm : behindInMarks .In a = false := by rfl) : PT X (.Compare c [.In] [a] pos) (tDT X.K Wx (bDIn false g f)) := (pt_cmp (pc_din (by omega) hb ha) hm).imp fun σ H Q h =>
  tG_two h fun bs R ρ e H y w vy v m ry r q => by
    unfold kDInB at q
    split at q
    · rename_i o hg
      obtain ⟨p, ov, e1, g1, g2⟩ := getW_ok m r ry hg
      exact ⟨p, ov, e1, g1, _, rfl, q.fin (L := lB) m (by rw [lk_isSome g2]; cases o <;> rfl)⟩
    · exact q.elim
theorem t_dnotin (hu : X.A.units + 64 < cLine) (hb : PE X c (tD X.K Wx g)) (ha : PE X a (tD X.K Wx f)) (hm : behindInMarks .NotIn a = false := by rfl) : PT X (.Compare c [.NotIn] [a] pos) (tDT X.K Wx (bDIn true g f)) := (pt_cmp (pc_dnotin (by omega) hb ha) hm).imp fun σ H Q h =>
  tG_two h fun bs R ρ e H y w vy v m ry r q => by
    unfold kDInB at q
    split at q
    · rename_i o hg
      obtain ⟨p, ov, e1, g1, g2⟩ := getW_ok m r ry hg
      exact ⟨p, ov, e1, g1, _, rfl, q.fin (L := lB) m (by rw [lk_isSome g2]; cases o <;> rfl)⟩
    · exact q.elim
theorem d_din (hu : X.A.units + 64 < cLine) (hb : PE X c (tD X.K Wx g)) (ha : PE X a (tD X.K Wx f)) (hm : behindInMarks .In a = false := by rfl) : PE X (.Compare c [.In] [a] pos) (tD X.K Wx (eDIn false g f)) := (pe_cmp (pc_din (by omega) hb ha) hm).imp fun σ H Q h =>
  tG_two h fun bs R ρ e H y w vy v m ry r q => by
    unfold kDIn at q
    split at q
    · rename_i o hg
      obtain ⟨p, ov, e1, g1, g2⟩ := getW_ok m r ry hg
      refine ⟨p, ov, e1, g1, q.fin (L := lW X.K) m ?_⟩
      rw [lk_isSome g2]
      cases o <;> exact .bl _
    · exact q.elim
theorem d_dnotin (hu : X.A.units + 64 < cLine) (hb : PE X c (tD X.K Wx g)) (ha : PE X a (tD X.K Wx f)) (hm : behindInMarks .NotIn a = false := by rfl) : PE X (.Compare c [.NotIn] [a] pos) (tD X.K Wx (eDIn true g f)) := (pe_cmp (pc_dnotin (by omega) hb ha) hm).imp fun σ H Q h =>
  tG_two h fun bs R ρ e H y w vy v m ry r q => by
    unfold kDIn at q
    split at q
    · rename_i o hg
      obtain ⟨p, ov, e1, g1, g2⟩ := getW_ok m r ry hg
      refine ⟨p, ov, e1, g1, q.fin (L := lW X.K) m ?_⟩
      rw [lk_isSome g2]
      cases o <;> exact .bl _
    · exact q.elim
end
/-! d[k] = v -/
def putC (c : Cell) (y : D) (x : D) : Option Cell := match c with
  | .dic kvs => (match keyD y with | some k => if kvs.length < sizeLine then some (.dic (putD kvs k x)) else none | none => none)
  | .dct kvs => (match y with | .tup xs => (match keysD xs with | some k => if kvs.length < sizeLine then some (.dct (putD kvs k x)) else none | none => none) | _ => none)
  | _ => none
def kDPut (w o i : W) : Sv := fun e => match o, i, w with
  | .loc n, .d y, .d x => (match e.cell n with
    | some c => (match putC c y x with
      | some c' => .nx (e.setC n (some c'))
      | none => .fail)
    | none => .fail)
  | _, _, _ => .fail
def sDPut (fo fi fv : Ev) : Sv := fun e => (fv e).to fun w e1 => if wl e1 w = true then (fo e1).to fun o e2 => if (wl e2 w && wl e2 o) = true then (fi e2).to fun i e3 => kDPut w o i e3 else .fail else .fail
section
variable {K : PySem.W.Frag} {b : Bs} {R : Hp} {ρ : Nat → Addr} {e : Env} {σ : St} {H : Hp}
theorem putC_ok {n : Nat} {c c' : Cell} {y x : D} {vy v : V} (m : Md K b R ρ e σ H) (h : putC c y x = some c') (hc : e.cell n = some c) (ry : Rep K R y vy) (rx : Rep K R x v) : ∃ o, DPut H (ρ n) vy v (upd H (ρ n) o) ∧ CellAt K R ρ (upd H (ρ n) o) (ρ n) c' := by
  have ca := m.cell n c hc
  cases c with
  | dic kvs =>
    obtain ⟨ws, h1, h2, h3⟩ := ca
    have h : (match keyD y with | some k => if kvs.length < sizeLine then some (Cell.dic (putD kvs k x)) else none | none => none) = some c' := h
    cases hy : keyD y with
    | none => rw [hy] at h; cases h
    | some k =>
      rw [hy] at h
      dsimp only at h
      split at h
      · rename_i hl
        cases h
        have hlen : ws.length = kvs.length := by
          have := congrArg List.length h2
          simpa using this
        obtain ⟨g1, g2⟩ := put_rep k h2 h3 rx
        rw [keyD_rep hy ry]
        exact ⟨_, .k h1 (by omega), _, upd_same, g1, g2⟩
      · cases h
  | dct kvs =>
    obtain ⟨ws, h1, h2, h3⟩ := ca
    cases y with
    | tup xs =>
      have h : (match keysD xs with | some k => if kvs.length < sizeLine then some (Cell.dct (putD kvs k x)) else none | none => none) = some c' := h
      cases hy : keysD xs with
      | none => rw [hy] at h; cases h
      | some k =>
        rw [hy] at h
        dsimp only at h
        split at h
        · rename_i hl
          cases h
          have hlen : ws.length = kvs.length := by
            have := congrArg List.length h2
            simpa using this
          obtain ⟨g1, g2⟩ := put_rep k h2 h3 rx
          cases ry with
          | tup q1 l1 =>
            rw [keysD_rep hy l1] at q1
            exact ⟨_, .t h1 (m.sub _ _ q1) (by omega), _, upd_same, g1, g2⟩
        · cases h
    | _ => cases h
  | _ => cases h
end
section
variable {X : Cx} {Wx : WX} {a o i : Expr} {p' pos : Pos} {fo fi fv : Ev}
theorem s_dput (hu : X.A.units + 64 < cLine) (hv : PE X a (tD X.K Wx fv)) (ho : PE X o (tD X.K Wx fo)) (hi : PE X i (tD X.K Wx fi)) (hs : swapsWith a (some (.Subscript o i p')) pos.line X.env = pure false := by rfl) :
    PS X (.Assign [.Subscript o i p'] a pos) (tS X.K Wx (sDPut fo fi fv)) := (ps_dput (by omega) ho hi hv hs).imp fun D σ H h =>
  tS_one h fun b R ρ e H w v m r q => by
    split at q
    · rename_i hl
      refine ⟨b, R, ρ, e, m, (OkS.to (L := lW X.K) q).imp fun ov H2 h2 => ?_⟩
      obtain ⟨R2, ρ2, e2, wo, s2, l2, m2, r2, q2⟩ := h2
      split at q2
      · rename_i hl2
        rw [Bool.and_eq_true] at hl2
        refine ⟨b, R2, ρ2, e2, m2, (OkS.to (L := lW X.K) q2).imp fun iv H3 h3 => ?_⟩
        obtain ⟨R3, ρ3, e3, wi, s3, l3, m3, r3, q3⟩ := h3
        have rv := (r.later hl s2 l2).later hl2.1 s3 l3
        have ro := r2.later hl2.2 s3 l3
        unfold kDPut at q3
        split at q3
        · rename_i n y x
          have e1 : ov = .ref (ρ3 n) := ro
          subst e1
          cases hc : e3.cell n with
          | none => simp only [hc] at q3; exact q3.elim
          | some c =>
            simp only [hc] at q3
            cases hp : putC c y x with
            | none => simp only [hp] at q3; exact q3.elim
            | some c' =>
              simp only [hp] at q3
              obtain ⟨ob, g1, g2⟩ := putC_ok m3 hp hc r3 rv
              exact ⟨_, _, rfl, g1, q3 R3 ρ3 σ _ (Same.refl R3) (m3.write hc g2)⟩
        · exact q3.elim
      · exact q2.elim
    · exact q.elim
end
/-! {}: the test tells whether its keys will be tuples -/
def eDNew (k : Nat) (t : Env → Bool) : Ev := fun e => newC k (if t e = true then .dct [] else .dic []) e
/-- is the list at slot i one of tuples -/
def tupsAt (i : Nat) (e : Env) : Bool := match e.slot i with
  | some (.d (.lst (.tup _ :: _))) => true
  | _ => false
def eDicC (keep : Option Nat) (kvs : List (Key × D)) : Ev := match keep with
  | none => fun e => .ok (.d (.dic kvs)) e
  | some k => newC k (.dic kvs)
section
variable {X : Cx} {Wx : WX} {pos : Pos}
theorem d_dnew {k : Nat} {t : Env → Bool} : PE X (.Dict [] [] pos) (tD X.K Wx (eDNew k t)) := ⟨fun pins s σ H Q I h => by
  obtain ⟨b, R, ρ, e, m, q⟩ := h
  unfold eDNew at q
  cases ht : t e with
  | true =>
    rw [ht, if_pos rfl] at q
    exact pe_dnewT.run pins s σ H Q I fun p hp => newC_ok m q hp ⟨[], upd_same, rfl, .nil⟩
  | false =>
    rw [ht, if_neg Bool.false_ne_true] at q
    exact pe_dnewK.run pins s σ H Q I fun p hp => newC_ok m q hp ⟨[], upd_same, rfl, .nil⟩⟩
/-- {k: v, ..}, constants -/
def cPairs (ws : List (Key × V)) : List (TE × TE) := ws.map fun kv => (tC (kV kv.1), tC kv.2)
theorem tPairs_c {σ : St} {H : Hp} {Q : List (V × V) → Hp → Prop} : ∀ {ws : List (Key × V)}, Q (ws.map fun kv => (kV kv.1, kv.2)) H → tPairs (cPairs ws) σ H Q
  | [], h => h
  | kv :: ws, h => tPairs_c (ws := ws) (Q := fun ps H3 => Q ((kV kv.1, kv.2) :: ps) H3) h
theorem d_dicC {keep : Option Nat} {kvs : List (Key × D)} {ws : List (Key × V)} {keys : List (Option Expr)} {values : List Expr} (h : PPs X pos keys values (cPairs ws)) (hk : ws.map (·.1) = kvs.map (·.1)) (hr : ∀ K R, RepL K R (kvs.map (·.2)) (ws.map (·.2)))
    (hm : mergeK [] ws = ws) (hall : keys.all (·.isSome) = true := by rfl) (hl : keys.length = values.length := by rfl) (h0 : keys ≠ [] := by exact fun z => nomatch z) (h15 : keys.length ≤ 15 := by decide) (h15' : ws.length ≤ 15 := by decide) :
    PE X (.Dict keys values pos) (tD X.K Wx (eDicC keep kvs)) := (pe_disp h hall hl h0 h15).imp fun σ H Q q p hp => by
  obtain ⟨b, R, ρ, e, m, q⟩ := q
  refine tPairs_c ⟨upd_same, ws, rfl, h15', ?_⟩
  rw [hm, upd_upd]
  unfold eDicC at q
  cases keep with
  | none => exact OkR.finD q m hp (.dic upd_same hk (hr _ _))
  | some k => exact newC_ok m q hp ⟨ws, upd_same, hk, hr _ _⟩
end
/-! evaluation -/
section
variable {f g fo fi fv : Ev} {e : Env} {neg : Bool} {n : Nat} {y x : D} {c : Cell}
@[simp] theorem eDGet_ev : eDGet f g e = b2a (f e) g kDGet := rfl
@[simp] theorem eDIn_ev : eDIn neg g f e = b2a (g e) f (kDIn neg) := rfl
@[simp] theorem bDIn_ev : bDIn neg g f e = b2a (g e) f (kDInB neg) := rfl
def dgR (o : Option (Option D)) (e : Env) : Rs W := match o with | some (some d) => .ok (.d d) e | _ => .fail
def diR (neg : Bool) (o : Option (Option D)) (e : Env) : Rs W := match o with | some o => .ok (.d (.bl (o.isSome != neg))) e | none => .fail
def diB (neg : Bool) (o : Option (Option D)) (e : Env) : Rs Bool := match o with | some o => .ok (o.isSome != neg) e | none => .fail
@[simp] theorem kDGet_ev {w y : W} : kDGet w y e = dgR (getW e w y) e := rfl
@[simp] theorem kDIn_ev {w y : W} : kDIn neg y w e = diR neg (getW e w y) e := rfl
@[simp] theorem kDInB_ev {w y : W} : kDInB neg y w e = diB neg (getW e w y) e := rfl
@[simp] theorem dgR_ok {d : D} : dgR (some (some d)) e = .ok (.d d) e := rfl
@[simp] theorem diR_ok {o : Option D} : diR neg (some o) e = .ok (.d (.bl (o.isSome != neg))) e := rfl
@[simp] theorem diB_ok {o : Option D} : diB neg (some o) e = .ok (o.isSome != neg) e := rfl
@[simp] theorem getW_dic {kvs : List (Key × D)} : getW e (.d (.dic kvs)) (.d y) = getD kvs y := rfl
@[simp] theorem getW_dct {kvs : List (List Key × D)} : getW e (.d (.dct kvs)) (.d y) = getT kvs y := rfl
def gcO (o : Option Cell) (y : D) : Option (Option D) := match o with | some c => getC c y | none => none
@[simp] theorem getW_loc : getW e (.loc n) (.d y) = gcO (e.cell n) y := by
  show (match e.cell n with | some c => getC c y | none => none) = _
  unfold gcO
  rfl
@[simp] theorem gcO_dic {kvs : List (Key × D)} : gcO (some (.dic kvs)) y = getD kvs y := rfl
@[simp] theorem gcO_dct {kvs : List (List Key × D)} : gcO (some (.dct kvs)) y = getT kvs y := rfl
@[simp] theorem getD_int {kvs : List (Key × D)} {i : Int} : getD kvs (.int i) = some (lkp kvs (.inl i)) := rfl
@[simp] theorem getD_str {kvs : List (Key × D)} {i : Str} : getD kvs (.str i) = some (lkp kvs (.inr i)) := rfl
@[simp] theorem getT_ints {kvs : List (List Key × D)} {i j : Int} : getT kvs (.tup [.int i, .int j]) = some (lkp kvs [.inl i, .inl j]) := rfl
def dpK (fo fi : Ev) (r : Rs W) : SR := r.to fun w e1 => if wl e1 w = true then (fo e1).to fun o e2 => if (wl e2 w && wl e2 o) = true then (fi e2).to fun i e3 => kDPut w o i e3 else .fail else .fail
def dpK2 (l : Bool) (w : W) (r : Rs W) (fi : Ev) : SR := if l = true then r.to fun o e2 => if (wl e2 w && wl e2 o) = true then (fi e2).to fun i e3 => kDPut w o i e3 else .fail else .fail
def dpK3 (l : Bool) (w o : W) (r : Rs W) : SR := if l = true then r.to fun i e3 => kDPut w o i e3 else .fail
@[simp] theorem sDPut_ev : sDPut fo fi fv e = dpK fo fi (fv e) := rfl
@[simp] theorem dpK_ok {w : W} : dpK fo fi (.ok w e) = dpK2 (wl e w) w (fo e) fi := rfl
@[simp] theorem dpK_exn {z : Xn} : dpK fo fi (.exn z e) = .exn z e := rfl
@[simp] theorem dpK2_ok {w1 w2 : W} : dpK2 true w1 (.ok w2 e) fi = dpK3 (wl e w1 && wl e w2) w1 w2 (fi e) := rfl
@[simp] theorem dpK3_ok {w1 w2 w3 : W} : dpK3 true w1 w2 (.ok w3 e) = kDPut w1 w2 w3 e := rfl
def pcR (n : Nat) (o : Option Cell) (e : Env) : SR := match o with | some c' => .nx (e.setC n (some c')) | none => .fail
def pcO (o : Option Cell) (y x : D) : Option Cell := match o with | some c => putC c y x | none => none
@[simp] theorem kDPut_ev : kDPut (.d x) (.loc n) (.d y) e = pcR n (pcO (e.cell n) y x) e := by
  show (match e.cell n with | some c => (match putC c y x with | some c' => SR.nx (e.setC n (some c')) | none => .fail) | none => .fail) = _
  unfold pcO pcR
  cases e.cell n with
  | none => rfl
  | some c => cases putC c y x <;> rfl
@[simp] theorem pcR_ok : pcR n (some c) e = .nx (e.setC n (some c)) := rfl
@[simp] theorem pcO_int {kvs : List (Key × D)} {i : Int} : pcO (some (.dic kvs)) (.int i) x = if kvs.length < sizeLine then some (.dic (putD kvs (.inl i) x)) else none := rfl
@[simp] theorem pcO_str {kvs : List (Key × D)} {i : Str} : pcO (some (.dic kvs)) (.str i) x = if kvs.length < sizeLine then some (.dic (putD kvs (.inr i) x)) else none := rfl
@[simp] theorem pcO_ints {kvs : List (List Key × D)} {i j : Int} : pcO (some (.dct kvs)) (.tup [.int i, .int j]) x = if kvs.length < sizeLine then some (.dct (putD kvs [.inl i, .inl j] x)) else none := rfl
@[simp] theorem eDNew_ev {k : Nat} {t : Env → Bool} : eDNew k t e = newC k (if t e = true then .dct [] else .dic []) e := rfl
@[simp] theorem eDicC_none {kvs : List (Key × D)} : eDicC none kvs e = .ok (.d (.dic kvs)) e := rfl
@[simp] theorem eDicC_some {k : Nat} {kvs : List (Key × D)} : eDicC (some k) kvs e = newC k (.dic kvs) e := rfl
end
end Dl
end
section
set_option Elab.async false
set_option linter.all false
set_option maxRecDepth 100000
set_option maxHeartbeats 4000000
namespace Dl
open PySem PySem.Spec PyProof.Rows L2
/-! d.get(k, x) of a dict that is data; f-strings of one value; str of ints; text.replace -/
def get2D (kvs : List (Key × D)) (y z : D) : Option D := match getD kvs y with
  | some (some d) => some d
  | some none => some z
  | none => none
def kGet2 (kvs : List (Key × D)) (y z : W) : Ev := fun e => match y, z with
  | .d y, .d z => okO (get2D kvs y z) e
  | _, _ => .fail
def dgK (h : Ev) (kvs : List (Key × D)) (r : Rs W) : Rs W := r.bind fun y e2 => if wl e2 y = true then (h e2).bind (kGet2 kvs y) else .fail
def dgK0 (g h : Ev) (w : W) (e1 : Env) : Rs W := match w with
  | .d (.dic kvs) => dgK h kvs (g e1)
  | _ => .fail
def eDGet2 (f g h : Ev) : Ev := fun e => (f e).bind (dgK0 g h)
/-- f'a{x}b' -/
def fmtD (a b : Str) : D → Option D
  | .str y => if y.length ≤ sizeLine ∧ (a ++ y).length ≤ sizeLine ∧ (a ++ y ++ b).length ≤ sizeLine then some (.str (a ++ y ++ b)) else none
  | .int i => if i.natAbs.log2 < 1920 ∧ (a ++ (toString i : Str)).length ≤ sizeLine ∧ (a ++ (toString i : Str) ++ b).length ≤ sizeLine then some (.str (a ++ (toString i : Str) ++ b)) else none
  | _ => none
def kFmt (a b : Str) (w : W) : Ev := fun e => match w with
  | .d x => okO (fmtD a b x) e
  | _ => .fail
def eFmt3 (a b : Str) (f : Ev) : Ev := fun e => (f e).bind (kFmt a b)
def strI : D → Option D
  | .int i => if i.natAbs.log2 < 1920 then some (.str (toString i : Str)) else none
  | _ => none
def replD (y z : Str) : D → Option D
  | .str x => if x.length + (x.length + 1) * z.length ≤ 16777216 then some (.str (Txt.replace x y z)) else none
  | _ => none
def kRepl (y z : Str) (w : W) : Ev := fun e => match w with
  | .d x => okO (replD y z x) e
  | _ => .fail
def eRepl (y z : Str) (f : Ev) : Ev := fun e => (f e).bind (kRepl y z)
theorem empty_app (a : Str) : Str.empty ++ a = a := by
  cases a
  show Str.mk (#[] ++ _) = _
  simp
section
variable {X : Cx} {Wx : WX} {a c d : Expr} {f g h : Ev} {apos cpos pos p1 p2 p3 p4 p5 : Pos} {j k : Nat}
theorem d_dget2 (hu : X.A.units + 64 < cLine) (ha : PE X a (tD X.K Wx f)) (hb : PE X c (tD X.K Wx g)) (hc : PE X d (tD X.K Wx h)) (m : M2 X a "get" apos c d cpos) : PE X (.Call (.Attribute a "get" apos) [c, d] [] cpos) (tD X.K Wx (eDGet2 f g h)) := (pe_dget2 (by omega) ha hb hc m).imp fun σ H Q q =>
  tG_one q fun bs R ρ e H w v m r q => by
    unfold dgK0 at q
    split at q
    · rename_i kvs
      have r : Rep X.K R (.dic kvs) v := r
      cases r with
      | dic h1 h2 h3 =>
        refine ⟨_, rfl, .inl ⟨_, .of (m.sub _ _ h1)⟩, bs, R, ρ, e, m, (OkR.bind (L := lW X.K) q).imp fun y H2 k2 => ?_⟩
        obtain ⟨R2, ρ2, e2, y', s2, l2, m2, r2, _, q2⟩ := k2
        split at q2
        · rename_i hl
          refine ⟨bs, R2, ρ2, e2, m2, (OkR.bind (L := lW X.K) q2).imp fun z H3 k3 => ?_⟩
          obtain ⟨R3, ρ3, e3, z', s3, l3, m3, r3, _, q3⟩ := k3
          have ry := r2.later hl s3 l3
          cases y' with
          | loc n => exact q3.elim
          | d ya =>
          cases z' with
          | loc n => exact q3.elim
          | d za =>
            obtain ⟨u, hz, q3⟩ := okO_ok q3
            have h1' : H3 _ = some _ := m3.sub _ _ (s3 _ _ (s2 _ _ h1))
            have h3' := (h3.mono s2).mono s3
            unfold get2D at hz
            cases hg : getD kvs ya with
            | none => rw [hg] at hz; cases hz
            | some o =>
              rw [hg] at hz
              obtain ⟨ov, g1, g2⟩ := getD_ok (o := o) hg h1' h2 h3' ry
              rcases g2 with ⟨z1, z2⟩ | ⟨d', v', z1, z2, rd⟩
              · subst z1 z2
                cases hz
                exact ⟨_, g1, q3.fin m3 r3⟩
              · subst z1 z2
                cases hz
                exact ⟨_, g1, q3.fin m3 rd⟩
        · exact q2.elim
    · exact q.elim
theorem d_fmt3 {y z : Str} (he : PE X a (tD X.K Wx f)) (hy : y.length ≤ sizeLine := by decide +kernel) : PE X (.JoinedStr [.Constant (.str y) j p1, .FormattedValue a (-1) none p2, .Constant (.str z) k p3] pos) (tD X.K Wx (eFmt3 y z f)) := (pe_joined (.cons pe_str (.cons (pe_fmt he) (.cons pe_str .nil)))).imp fun σ H Q q => by
  have e1 : Str.empty ++ y = y := empty_app y
  refine ⟨y, rfl, by rw [e1]; exact hy, ?_⟩
  rw [e1]
  refine tG_one q fun bs R ρ e H1 w v m r q => ?_
  unfold kFmt at q
  split at q
  · rename_i x
    have r : Rep X.K R x v := r
    obtain ⟨u, hz, q⟩ := okO_ok q
    unfold fmtD at hz
    split at hz
    · split at hz
      · rename_i t hh
        cases hz
        cases r
        exact .inl ⟨_, rfl, hh.1, _, rfl, hh.2.1, _, rfl, hh.2.2, q.fin m (Rep.str _)⟩
      · cases hz
    · split at hz
      · rename_i i hh
        cases hz
        cases r
        exact .inr ⟨_, rfl, hh.1, _, rfl, hh.2.1, _, rfl, hh.2.2, q.fin m (Rep.str _)⟩
      · cases hz
    · cases hz
  · exact q.elim
/-! str(i) -/
theorem kStrI_ok : CallD X.K Wx (k1 strI) (fun xs H Q => ∃ i, xs = [.int i] ∧ i.natAbs.log2 < 1920 ∧ Q (.str (toString i)) H) := k1_ok fun x z v R H Q hz rv s q n => by
  cases rv with
  | int i =>
    have hz : (if i.natAbs.log2 < 1920 then some (D.str (toString i : Str)) else none) = some z := hz
    split at hz
    · rename_i hl
      cases hz
      exact ⟨_, rfl, hl, q _ (.str _)⟩
    · cases hz
  | _ => cases hz
/-! replace: a token is out -/
theorem PETimp {t u : TE} (ht : PET X a t) (h : ∀ σ H Q, u σ H Q → t σ H Q) : PET X a u := fun pins s σ H Q h0 I q => ht pins s σ H Q h0 I (h σ H Q q)
theorem repl_st {y z : Str} {Q : VK} {σ : L2.St} {H : Hp} (q : tD X.K Wx (eRepl y z f) σ H Q) : CwR.tReplC (tD X.K Wx f) y z σ H Q :=
  tG_one q fun bs R ρ e H1 w v m r q => by
    unfold kRepl at q
    split at q
    · rename_i x
      have r : Rep X.K R x v := r
      obtain ⟨u, hz, q⟩ := okO_ok q
      unfold replD at hz
      split at hz
      · split at hz
        · rename_i t hh
          cases hz
          cases r
          exact ⟨_, rfl, hh, q.fin m (Rep.str _)⟩
        · cases hz
      · cases hz
    · exact q.elim
theorem dt_repl {y z : Str} (ho : PE X a (tD X.K Wx f)) (hyz : (y == z) = false := by decide +kernel)
    (hst : starEach [.Constant (.str y) j p1, .Constant (.str z) k p2] X.env = [(false, eval (.Constant (.str y) j p1) X.env), (false, eval (.Constant (.str z) k p2) X.env)] := by rfl)
    (hbase : attributeBase a "replace" X.env (eval a X.env) = eval a X.env := by rfl) (hline : (apos.endLine == pos.line) = true := by rfl) :
    PET X (.Call (.Attribute a "replace" apos) [.Constant (.str y) j p1, .Constant (.str z) k p2] [] pos) (tD X.K Wx (eRepl y z f)) := PETimp (CwR.pet_replC ho hyz hst hbase hline) fun σ H Q q => repl_st q
theorem dt_replT {y z : Str} (ho : PET X a (tD X.K Wx f)) (hyz : (y == z) = false := by decide +kernel)
    (hst : starEach [.Constant (.str y) j p1, .Constant (.str z) k p2] X.env = [(false, eval (.Constant (.str y) j p1) X.env), (false, eval (.Constant (.str z) k p2) X.env)] := by rfl)
    (hbase : attributeBase a "replace" X.env (eval a X.env) = eval a X.env := by rfl) (hline : (apos.endLine == pos.line) = true := by rfl) :
    PET X (.Call (.Attribute a "replace" apos) [.Constant (.str y) j p1, .Constant (.str z) k p2] [] pos) (tD X.K Wx (eRepl y z f)) := PETimp (CwR.pet_replT ho hyz hst hbase hline) fun σ H Q q => repl_st q
theorem st_set {i : Nat} {x : Str} {pos' : Pos} (hN : X.N.Nodup) (hi : X.N[i]? = some x) (hx : Loc X.env.scope x) (he : PET X a (tD X.K Wx f)) (hs : swapsWith a (some (.Name x pos')) pos.line X.env = pure false := by rfl) (hf : X.fn x = true ∨ X.env.scope.names.lookup x = some .local := by first | exact .inl rfl | exact .inr rfl | assumption) :
    PST X (.Assign [.Name x pos'] a pos) (tS X.K Wx (sSet i f)) := by
  intro pins s σ H D h0 I h
  have h2 : tAsg (tD X.K Wx f) (gName i) D σ H := tS_one h fun b R ρ e H w v m r q => q R ρ _ H (Same.refl R) (m.setS r)
  refine wpAny_Assign_Name (thn (he pins s σ H _ h0 I h2) fun v s1 ⟨y, H1, I1, r1, q1⟩ => ?_) hs
  exact store_ok I1 hN hi hx r1 (fun s2 I2 => ⟨_, H1, I2, q1⟩) hf
variable {st : Stmt} {sts : List Stmt}
theorem st_cons {f g : Sv} (h1 : PST X st (tS X.K Wx f)) (h2 : PSsT X sts (tS X.K Wx g)) : PSsT X (st :: sts) (tS X.K Wx (sSeq f g)) := fun pins s σ H D h0 I h => psst_cons h1 h2 pins s σ H D h0 I (by
  obtain ⟨b, R, ρ, e, m, q⟩ := h
  exact ⟨b, R, ρ, e, m, OkS.seq q⟩)
theorem st_of {f : Sv} (h : PSs X sts (tS X.K Wx f)) : PSsT X sts (tS X.K Wx f) := PSsT.of h
end
section
variable {P : Program} {w : World} {K : PySem.W.Frag} {mg : Str → Option Value} {base : Heap} {x qual : Str} {params : Arguments} {body : List Stmt} {scope : Scope} {dvs : List V} {kws : List (Str × V)} {f : Addr} {fd : FuncData}
/-- a def that wants a token -/
theorem fnDT_ok {N ps : List Str} {k m r : Nat} {fb : Sv} (F : FunD K x qual params body scope dvs kws f fd) (S : FnScope N ps scope) (hnc : ∀ y ∈ scope.names, y.2 ≠ .cell) (hps : 1 ≤ ps.length)
    (hb : ∀ (cdv : Value) (A : Around) (outer : List PySem.Env) (s : Shared) (H : Hp) (E : XK), Room k (A.deeper (PyProof.Rows.envOfC qual scope s.heap.objs.size f cdv)) →
      PSsT (cxOf (L2.CX P w) P w K mg base N qual scope f cdv A outer s H E) body (tS K (WofE E) fb)) : FnOk P w K mg base (L2.CX P w) (k + 1) f fd ps (spD K ps.length (mkF N.length m r fb)) := by
  obtain ⟨oc, od, dV, kV, doc, pm, an, cdv0, ct, osl, rfl, lk, hcd, _, _⟩ := F.ex
  refine fn_ofT (CX := L2.CX P w) lk hcd S hnc hps (fun vs H Q E h => h.1) (fun A outer s H vs Q E hr h => ⟨_, hb cdv0 A outer s H E hr, ?_⟩)
  obtain ⟨hl, R, ρ, ws, cs, sR, rs, hc, hn, hi, q⟩ := h
  refine ⟨_, R, ρ, env0 N.length m ws cs, Md.start sR rs hc hn hi, ?_⟩
  unfold mkF at q
  cases hf : fb (env0 N.length m ws cs) with
  | nx e =>
    simp only [hf] at q
    cases ht : takeC (max cs.length r) e.M with
    | none => simp only [ht] at q
    | some cs' =>
      simp only [ht] at q
      exact fun R' ρ' σ' H' s' m' => q R' ρ' .non H' (m'.back ht (Nat.le_max_left _ _)) .non
  | rt w e =>
    simp only [hf] at q
    cases ht : takeC (max cs.length r) e.M with
    | none => simp only [ht] at q
    | some cs' =>
      simp only [ht] at q
      exact fun R' ρ' σ' H' v s' m' rv => q R' ρ' v H' (m'.back ht (Nat.le_max_left _ _)) rv
  | exn x e =>
    simp only [hf] at q
    cases ht : takeC cs.length e.M with
    | none => simp only [ht] at q
    | some cs' =>
      simp only [ht] at q
      exact fun R' ρ' σ' H' cls d s' m' rx => q R' ρ' H' cls d (m'.back ht (Nat.le_refl _)) rx
  | bk e => simp only [hf] at q
  | ct e => simp only [hf] at q
  | fail => simp only [hf] at q
end
/-! evaluation -/
section
variable {f g h : Ev} {e : Env} {a b y z : Str} {kvs : List (Key × D)} {d u : D} {i : Int}
@[simp] theorem eDGet2_ev : eDGet2 f g h e = (match f e with | .ok w e1 => dgK0 g h w e1 | .exn x e1 => .exn x e1 | .fail => .fail) := by
  show (f e).bind (dgK0 g h) = _
  cases f e <;> rfl
@[simp] theorem dgK0_dic : dgK0 g h (.d (.dic kvs)) e = dgK h kvs (g e) := rfl
@[simp] theorem dgK_ok : dgK h kvs (.ok (.d d) e) = (match h e with | .ok z e1 => kGet2 kvs (.d d) z e1 | .exn x e1 => .exn x e1 | .fail => .fail) := by
  show (h e).bind (kGet2 kvs (.d d)) = _
  cases h e <;> rfl
@[simp] theorem kGet2_d : kGet2 kvs (.d d) (.d u) e = okO (get2D kvs d u) e := rfl
def fmK (a b : Str) (r : Rs W) : Rs W := r.bind (kFmt a b)
@[simp] theorem eFmt3_ev : eFmt3 a b f e = fmK a b (f e) := rfl
@[simp] theorem fmK_ok : fmK a b (.ok (.d d) e) = okO (fmtD a b d) e := rfl
@[simp] theorem fmK_exn {x : Xn} : fmK a b (.exn x e) = .exn x e := rfl
@[simp] theorem fmtD_str : fmtD a b (.str y) = if y.length ≤ sizeLine ∧ (a ++ y).length ≤ sizeLine ∧ (a ++ y ++ b).length ≤ sizeLine then some (.str (a ++ y ++ b)) else none := rfl
@[simp] theorem fmtD_int : fmtD a b (.int i) = if i.natAbs.log2 < 1920 ∧ (a ++ (toString i : Str)).length ≤ sizeLine ∧ (a ++ (toString i : Str) ++ b).length ≤ sizeLine then some (.str (a ++ (toString i : Str) ++ b)) else none := rfl
@[simp] theorem strI_int : strI (.int i) = if i.natAbs.log2 < 1920 then some (.str (toString i : Str)) else none := rfl
def rpK (y z : Str) (r : Rs W) : Rs W := r.bind (kRepl y z)
@[simp] theorem eRepl_ev : eRepl y z f e = rpK y z (f e) := rfl
@[simp] theorem rpK_ok : rpK y z (.ok (.d d) e) = okO (replD y z d) e := rfl
@[simp] theorem replD_str : replD y z (.str a) = if a.length + (a.length + 1) * z.length ≤ 16777216 then some (.str (Txt.replace a y z)) else none := rfl
end
end Dl
end
section
set_option Elab.async false
set_option linter.all false
set_option maxRecDepth 100000
set_option maxHeartbeats 4000000
namespace Dl
open PySem L2
/-! x is True, x is not False -/
def isBB : D → D → Option Bool
  | .bl a, .bl b => some (decide (a = b))
  | _, _ => none
def notBB : D → D → Option Bool
  | .bl a, .bl b => some (!decide (a = b))
  | _, _ => none
section
variable {K : PySem.W.Frag}
theorem isBB_ok : OpB K isBB rIsB := fun x y z v u R H Q hg r1 r2 s q => by
  unfold isBB at hg
  split at hg
  · cases hg; cases r1; cases r2; exact ⟨_, _, rfl, rfl, q⟩
  · cases hg
theorem notBB_ok : OpB K notBB rNotB := fun x y z v u R H Q hg r1 r2 s q => by
  unfold notBB at hg
  split at hg
  · cases hg; cases r1; cases r2; exact ⟨_, _, rfl, rfl, q⟩
  · cases hg
end
@[simp] theorem isBB_ev {a b : Bool} : isBB (.bl a) (.bl b) = some (decide (a = b)) := rfl
@[simp] theorem notBB_ev {a b : Bool} : notBB (.bl a) (.bl b) = some (!decide (a = b)) := rfl
end Dl
end
section
set_option Elab.async false
set_option linter.all false
set_option maxRecDepth 100000
set_option maxHeartbeats 4000000
namespace Dl
open PySem PySem.Spec PyProof.Rows L2
/-! x in (a, b) where the items are data of any depth -/
def inT (x y : D) : Option Bool := match y with
  | .tup ys => (match toPy x, toPyL ys with
    | some p, some qs => if SeqAt.shaped p = true ∧ SeqAt.shaped (.tuple qs) = true ∧ p.depth ≤ 8 then some (qs.any fun z => PyData.eqv z p) else none
    | _, _ => none)
  | _ => none
abbrev rInT (K : PySem.W.Frag) : R2 := fun x y H Q => ∃ d ds, Dp K H x d ∧ Dp K H y (.tuple ds) ∧ SeqAt.shaped d = true ∧ SeqAt.shaped (.tuple ds) = true ∧ d.depth ≤ 8 ∧ Q (.bl (ds.any fun z => PyData.eqv z d)) H
theorem op_inT {X : Cx} (hu : X.A.units + 64 < cLine) : OpR X (compareOp .In) (rInT X.K) := by
  intro pins s σ H x y v u Q I rx ry h
  obtain ⟨d, ds, hd, he, sd, se, h8, q⟩ := h
  obtain ⟨as, r1⟩ := Dp.reads I d x v hd rx
  obtain ⟨bs, r2⟩ := Dp.reads I (.tuple ds) y u he ry
  exact SeqAt.in_tuple_reads r2 r1 (SeqAt.canLay_of_shaped se) (SeqAt.canLay_of_shaped sd) (by omega) ⟨.bl _, H, I, rfl, q⟩
section
variable {K : PySem.W.Frag}
theorem inT_ok : OpB K inT (rInT K) := fun x y z v u R H Q hg r1 r2 s q => by
  unfold inT at hg
  split at hg
  case h_2 => cases hg
  case h_1 ys =>
  split at hg
  case h_2 => cases hg
  case h_1 p qs e1 e2 =>
  split at hg
  case isFalse => cases hg
  case isTrue hs =>
  cases hg
  have e3 : toPy (.tup ys) = some (.tuple qs) := by
    unfold toPy
    rw [e2]
  exact ⟨p, qs, toPy_dp s e1 r1, toPy_dp s e3 r2, hs.1, hs.2.1, hs.2.2, q⟩
end
end Dl
end
section
set_option Elab.async false
set_option linter.all false
set_option maxRecDepth 100000
set_option maxHeartbeats 4000000
namespace Dl
open PySem L2
/-! sorted(xs) of any data that can be compared -/
def keyPy (d : D) : PyData := (toPy d).getD .none
def sortD (xs : List D) : List D := xs.mergeSort (PySem.W.dataLe false keyPy)
def srtOk (ps : List PyData) : Bool := (ps.all fun d => ps.all fun d' => PySem.W.alike d d') && ((ps.all fun d => match d with | .tuple (_ :: _) => true | _ => false) || (ps.all fun d => match d with | .none => false | .tuple _ => false | _ => true)) && ps.all fun d => decide (d.depth ≤ 60)
def okSort (xs : List D) : Bool := match toPyL xs with | some ps => srtOk ps && decide (xs.length ≤ sizeLine) | none => false
theorem toPyL_each : ∀ {xs : List D} {ps : List PyData}, toPyL xs = some ps → xs.map keyPy = ps ∧ ∀ x ∈ xs, (toPy x).isSome = true
  | [], _, h => by cases h; exact ⟨rfl, fun x h => nomatch h⟩
  | x :: xs, _, h => by
    unfold toPyL at h
    cases e1 : toPy x with
    | none => rw [e1] at h; cases h
    | some y =>
      cases e2 : toPyL xs with
      | none => rw [e1, e2] at h; cases h
      | some ys =>
        rw [e1, e2] at h; cases h
        obtain ⟨i1, i2⟩ := toPyL_each e2
        refine ⟨by rw [List.map_cons, i1]; unfold keyPy; rw [e1]; rfl, fun z hz => ?_⟩
        rcases List.mem_cons.mp hz with rfl | hz
        · rw [e1]; rfl
        · exact i2 z hz
theorem srtOk_of {ps : List PyData} (h : srtOk ps = true) : PySem.W.AllAlike ps ∧ PySem.W.Sortable ps ∧ ∀ d ∈ ps, d.depth ≤ 60 := by
  unfold srtOk at h
  rw [Bool.and_eq_true, Bool.and_eq_true, Bool.or_eq_true] at h
  obtain ⟨⟨h1, h2⟩, h3⟩ := h
  refine ⟨fun d hd d' hd' => List.all_eq_true.mp (List.all_eq_true.mp h1 d hd) d' hd', ?_, fun d hd => of_decide_eq_true (List.all_eq_true.mp h3 d hd)⟩
  rcases h2 with h2 | h2
  · refine .inl fun d hd => ?_
    have := List.all_eq_true.mp h2 d hd
    split at this
    · exact ⟨_, _, rfl⟩
    · cases this
  · refine .inr fun d hd => ?_
    have := List.all_eq_true.mp h2 d hd
    split at this
    · cases this
    · cases this
    · rename_i g1 g2
      exact ⟨fun z => g1 z, fun xs z => g2 xs z⟩
def rSortD (K : PySem.W.Frag) : List V → Hp → VK → Prop := fun vs H Q => ∃ (a : Addr) (bs : List (D × V)), vs = [V.ref a] ∧ SqL K H a (bs.map (·.2)) ∧ (∀ b ∈ bs, Dp K H b.2 (keyPy b.1)) ∧ srtOk (bs.map fun b => keyPy b.1) = true ∧
  ∀ p, H p = none → Q (.ref p) (upd H p (.lst ((bs.mergeSort (PySem.W.dataLe false fun b => keyPy b.1)).map (·.2))))
section
variable {X : Cx}
theorem each_vals : ∀ {bs : List (D × V)} {us : List Value}, Vals (bs.map (·.2)) us → PySem.W.EachIs (fun v (b : D × V) => RelV b.2 v) us bs
  | [], _, .nil => .nil
  | b :: bs, _, .cons h t => .cons h (each_vals t)
theorem vals_each : ∀ {bs : List (D × V)} {us : List Value}, PySem.W.EachIs (fun v (b : D × V) => RelV b.2 v) us bs → Vals (bs.map (·.2)) us
  | _, _, .nil => .nil
  | _, _, .cons h t => .cons h (vals_each t)
theorem each_both {α β : Type} {F G : α → β → Prop} : ∀ {as : List α} {bs : List β}, PySem.W.EachIs F as bs → (∀ a b, b ∈ bs → F a b → G a b) → PySem.W.EachIs G as bs
  | _, _, .nil, _ => .nil
  | _, _, .cons h t, f => .cons (f _ _ List.mem_cons_self h) (each_both t fun a b m => f a b (List.mem_cons_of_mem _ m))
theorem cr_sortD (hu : X.A.units + 64 < cLine) : CallR X (.builtin "sorted") (rSortD X.K) := by
  intro pins s σ H vs us Q I r h
  obtain ⟨a, bs, rfl, hs, hd, ho, q⟩ := h
  obtain rfl := Vals.ref1 r
  obtain ⟨its, rv, hl, hz⟩ := I.list hs
  have hz : bs.length ≤ sizeLine := by simpa using hz
  obtain ⟨s1, s2, s3⟩ := srtOk_of ho
  have e1 := each_vals rv
  have mm : ∀ b ∈ bs, keyPy b.1 ∈ bs.map fun b => keyPy b.1 := fun b hb => List.mem_map.mpr ⟨b, hb, rfl⟩
  have e2 : PySem.W.EachIs (fun v (b : D × V) => ∃ as, PySem.Reads s.heap v (keyPy b.1) as) its bs := each_both e1 fun v b hb rel => Dp.reads I _ _ _ (hd b hb) rel
  refine PySem.W.sorted_data (enc := fun b : D × V => keyPy b.1) hl.isList e1 e2 s1 s2 hz (fun b hb => by have := s3 _ (mm b hb); omega) fun out hlen eo => ?_
  obtain ⟨ep, he⟩ := PyProof.Rows.sortedAll_at s.heap its out.toArray
  have rv2 := vals_each eo
  have hlen2 : ((bs.mergeSort (PySem.W.dataLe false fun b => keyPy b.1)).map (·.2)).length ≤ sizeLine := by rw [List.length_map, List.length_mergeSort]; exact hz
  exact ⟨.ref _, upd H (s.heap.objs.size + 1) (.lst ((bs.mergeSort (PySem.W.dataLe false fun b => keyPy b.1)).map (·.2))), I.laid (t' := s.toks) (fun _ _ => PyProof.Rows.sortedAll_old) (Nat.le_succ _) ⟨hlen2, out, ep, rv2, he⟩, rfl, q _ (I.hok.fresh (Nat.le_succ _))⟩
end
section
variable {K : PySem.W.Frag} {Wx : WX}
theorem sort_fst (xs : List D) (vs : List V) (h : xs.length = vs.length) : ((xs.zip vs).mergeSort (PySem.W.dataLe false fun b => keyPy b.1)).map (·.1) = sortD xs := by
  have e : (xs.zip vs).map (·.1) = xs := List.map_fst_zip (by omega)
  unfold sortD
  conv => rhs; rw [← e]
  exact List.map_mergeSort fun a _ b _ => rfl
theorem zip_rep {R : Hp} : ∀ {xs : List D} {vs : List V}, RepL K R xs vs → ∀ b ∈ xs.zip vs, Rep K R b.1 b.2
  | _, _, .nil, b, h => by cases h
  | _, _, .cons a t, b, h => by
    rw [List.zip_cons_cons] at h
    rcases List.mem_cons.mp h with rfl | h
    · exact a
    · exact zip_rep t b h
theorem rep_zip {R : Hp} : ∀ {bs : List (D × V)}, (∀ b ∈ bs, Rep K R b.1 b.2) → RepL K R (bs.map (·.1)) (bs.map (·.2))
  | [], _ => .nil
  | b :: bs, h => .cons (h b List.mem_cons_self) (rep_zip fun c hc => h c (List.mem_cons_of_mem _ hc))
def kSortD : List W → Ev := fun ws e => match ws with
  | [.d (.lst xs)] => if okSort xs = true then .ok (.d (.lst (sortD xs))) e else .fail
  | [.loc n] => (match e.cell n with
    | some (.lst xs) => if okSort xs = true then .ok (.d (.lst (sortD xs))) e else .fail
    | _ => .fail)
  | _ => .fail
theorem kSortD_ok : CallD K Wx kSortD (rSortD K) := fun b R ρ e σ H ws vs Q m rp q => by
  have fin : ∀ {xs : List D} {us : List V} {a : Addr}, OkR K Wx (lW K) b R ρ e σ Q (if okSort xs = true then .ok (.d (.lst (sortD xs))) e else .fail) → SqL K H a us → RepL K R xs us → rSortD K [V.ref a] H Q := fun {xs us a} q hs l => by
    split at q
    · rename_i ho
      unfold okSort at ho
      cases hp : toPyL xs with
      | none => rw [hp] at ho; cases ho
      | some ps =>
        rw [hp] at ho
        rw [Bool.and_eq_true] at ho
        obtain ⟨e1, e2⟩ := toPyL_each hp
        have hlen : xs.length = us.length := l.length
        have ez : (xs.zip us).map (·.2) = us := List.map_snd_zip (by omega)
        have ez1 : (xs.zip us).map (fun b => keyPy b.1) = ps := by
          rw [← e1]
          conv => rhs; rw [← List.map_fst_zip (l₁ := xs) (l₂ := us) (by omega), List.map_map]
          rfl
        have zr := zip_rep l
        refine ⟨a, xs.zip us, rfl, by rw [ez]; exact hs, fun c hc => ?_, by rw [ez1]; exact ho.1, fun p hp => ?_⟩
        · have hm : c.1 ∈ xs := (List.of_mem_zip (a := c.1) (b := c.2) hc).1
          have hsome := e2 _ hm
          cases hq : toPy c.1 with
          | none => rw [hq] at hsome; cases hsome
          | some y =>
            have : keyPy c.1 = y := by unfold keyPy; rw [hq]; rfl
            rw [this]
            exact toPy_dp m.sub hq (zr c hc)
        · have r2 : RepL K R (sortD xs) (((xs.zip us).mergeSort (PySem.W.dataLe false fun b => keyPy b.1)).map (·.2)) := by
            rw [← sort_fst xs us hlen]
            exact rep_zip fun c hc => zr c ((List.mergeSort_perm _ _).mem_iff.mp hc)
          exact OkR.finD q m hp (.lst upd_same (RepL.mono (same_upd (m.freshR hp)) r2))
    · exact q.elim
  unfold kSortD at q
  split at q
  · obtain ⟨v, e1, rv⟩ := pair1 rp
    subst e1
    have rv : Rep K R (.lst _) v := rv
    cases rv with
    | lst h1 l1 => exact fin q (SqL.of (m.sub _ _ h1)) l1
  · rename_i n
    obtain ⟨v, e1, rv⟩ := pair1 rp
    subst e1
    have e1 : v = .ref (ρ n) := rv
    subst e1
    split at q
    · rename_i xs hc
      obtain ⟨us, h1, l1⟩ := m.cell n _ hc
      exact fin q (SqL.of h1) l1
    · exact q.elim
  · exact q.elim
end
/-! evaluation -/
@[simp] theorem kSortD_ev {xs : List D} {e : Env} : kSortD [.d (.lst xs)] e = if okSort xs = true then .ok (.d (.lst (sortD xs))) e else .fail := rfl
theorem sortD_perm (xs : List D) : (sortD xs).Perm xs := List.mergeSort_perm _ _
@[simp] theorem sortD_len (xs : List D) : (sortD xs).length = xs.length := (sortD_perm xs).length_eq
/-! < of lists and tuples -/
def rLtD (K : PySem.W.Frag) : R2 := fun x y H Q => ∃ d e, Dp K H x d ∧ Dp K H y e ∧ PySem.W.alike d e = true ∧ d ≠ .none ∧ d.depth ≤ 60 ∧ Q (.bl (PySem.W.dataLt d e)) H
theorem op_ltD {X : Cx} (hu : X.A.units + 64 < cLine) : OpR X (compareOp .Lt) (rLtD X.K) := by
  intro pins s σ H x y v u Q I rx ry h
  obtain ⟨d, e, hd, he, al, nn, dp, q⟩ := h
  obtain ⟨as, r1⟩ := Dp.reads I d x v hd rx
  obtain ⟨bs, r2⟩ := Dp.reads I e y u he ry
  exact PySem.W.rcLt_alike d e X.A s v u as bs r1 r2 al nn (by omega) X.prog X.w X.xe _ ⟨.bl _, H, I, rfl, q⟩
def notNo : PyData → Bool | .none => false | _ => true
theorem notNo_ok {d : PyData} (h : notNo d = true) : d ≠ .none := fun z => by subst z; cases h
def ltX (x y : D) : Option Bool := match toPy x, toPy y with
  | some d, some e => if PySem.W.alike d e = true ∧ notNo d = true ∧ d.depth ≤ 60 then some (PySem.W.dataLt d e) else none
  | _, _ => none
theorem ltX_ok {K : PySem.W.Frag} : OpB K ltX (rLtD K) := fun x y z v u R H Q hg r1 r2 s q => by
  unfold ltX at hg
  split at hg
  · rename_i d e h1 h2
    split at hg
    · rename_i hc
      cases hg
      exact ⟨d, e, toPy_dp s h1 r1, toPy_dp s h2 r2, hc.1, notNo_ok hc.2.1, hc.2.2, q⟩
    · cases hg
  · cases hg
theorem toPyL_ints : ∀ ns : List Int, toPyL (ns.map .int) = some (ns.map .int)
  | [] => rfl
  | n :: ns => by rw [List.map_cons, toPyL, toPyL_ints ns]; rfl
theorem toPy_ints (ns : List Int) : toPy (.lst (ns.map .int)) = some (.list (ns.map .int)) := by
  rw [toPy, toPyL_ints]
theorem depth_lst (ns : List Int) : (PyData.list (ns.map .int)).depth ≤ 1 := by
  rw [PyData.depth, PySem.W.depth_ints]
  omega
theorem ltX_ints (xs ys : List Int) : ltX (.lst (xs.map .int)) (.lst (ys.map .int)) = some (decide (xs < ys)) := by
  unfold ltX
  rw [toPy_ints, toPy_ints]
  dsimp only
  have h1 : PySem.W.alike (.list (xs.map .int)) (.list (ys.map .int)) = true := by rw [PySem.W.alike]; exact PySem.W.alike_ints xs ys
  rw [if_pos ⟨h1, rfl, Nat.le_trans (depth_lst xs) (by omega)⟩, PySem.W.dataLt_list]
  have := PySem.W.dataLt_ints xs ys
  unfold PySem.W.rowLt at this
  rw [this]
end Dl
end
section
set_option Elab.async false
set_option linter.all false
set_option maxRecDepth 100000
set_option maxHeartbeats 4000000
namespace Dl
open PySem L2
/-! min, max of a list of ints; xs.index(k) -/
def minI : List Int → Int
  | [] => 0
  | [x] => x
  | x :: y :: r => min x (minI (y :: r))
def maxI : List Int → Int
  | [] => 0
  | [x] => x
  | x :: y :: r => max x (maxI (y :: r))
theorem minI_mem : ∀ {l : List Int}, l ≠ [] → minI l ∈ l
  | [], h => absurd rfl h
  | [x], _ => List.mem_cons_self
  | x :: y :: r, _ => by
    have ih := minI_mem (l := y :: r) (by simp)
    unfold minI
    rcases Int.le_total x (minI (y :: r)) with h | h
    · rw [Int.min_eq_left h]; exact List.mem_cons_self
    · rw [Int.min_eq_right h]; exact List.mem_cons_of_mem _ ih
theorem minI_le : ∀ {l : List Int} {z : Int}, z ∈ l → minI l ≤ z
  | [], _, h => nomatch h
  | [x], _, h => by rw [List.mem_singleton.mp h]; exact Int.le_refl _
  | x :: y :: r, z, h => by
    unfold minI
    rcases List.mem_cons.mp h with rfl | h
    · exact Int.min_le_left _ _
    · exact Int.le_trans (Int.min_le_right _ _) (minI_le h)
theorem maxI_mem : ∀ {l : List Int}, l ≠ [] → maxI l ∈ l
  | [], h => absurd rfl h
  | [x], _ => List.mem_cons_self
  | x :: y :: r, _ => by
    have ih := maxI_mem (l := y :: r) (by simp)
    unfold maxI
    rcases Int.le_total x (maxI (y :: r)) with h | h
    · rw [Int.max_eq_right h]; exact List.mem_cons_of_mem _ ih
    · rw [Int.max_eq_left h]; exact List.mem_cons_self
theorem maxI_le : ∀ {l : List Int} {z : Int}, z ∈ l → z ≤ maxI l
  | [], _, h => nomatch h
  | [x], _, h => by rw [List.mem_singleton.mp h]; exact Int.le_refl _
  | x :: y :: r, z, h => by
    unfold maxI
    rcases List.mem_cons.mp h with rfl | h
    · exact Int.le_max_left _ _
    · exact Int.le_trans (maxI_le h) (Int.le_max_right _ _)
theorem minI_uniq {l : List Int} {m : Int} (h : m ∈ l) (g : ∀ y ∈ l, m ≤ y) : minI l = m := by
  have h0 : l ≠ [] := fun z => by rw [z] at h; cases h
  have a := minI_le h
  have b := g _ (minI_mem h0)
  omega
theorem maxI_uniq {l : List Int} {m : Int} (h : m ∈ l) (g : ∀ y ∈ l, y ≤ m) : maxI l = m := by
  have h0 : l ≠ [] := fun z => by rw [z] at h; cases h
  have a := maxI_le h
  have b := g _ (maxI_mem h0)
  omega
section
variable {K : PySem.W.Frag} {Wx : WX}
def kFoldI (g : List Int → Int) : List W → Ev := fun ws e => match ws with
  | [.d (.lst xs)] => (match intsD xs with | some ns => if ns ≠ [] then .ok (.d (.int (g ns))) e else .fail | none => .fail)
  | _ => .fail
theorem kFold_at {g : List Int → Int} {b : Bs} {R : Hp} {ρ : Nat → Addr} {e : Env} {σ : St} {H : Hp} {ws : List W} {vs : List V} {Q : VK} (m : Md K b R ρ e σ H) (rp : Paired (RepW K R ρ) ws vs) (q : OkR K Wx (lW K) b R ρ e σ Q (kFoldI g ws e)) :
    ∃ a ns, vs = [V.ref a] ∧ SqL K H a (ns.map V.int) ∧ ns ≠ [] ∧ Q (.int (g ns)) H := by
  unfold kFoldI at q
  split at q
  · rename_i xs
    obtain ⟨v, e1, rv⟩ := pair1 rp
    subst e1
    have rv : Rep K R (.lst xs) v := rv
    cases rv with
    | lst h1 l1 =>
      cases hi : intsD xs with
      | none => rw [hi] at q; exact q.elim
      | some ns =>
        rw [hi] at q
        dsimp only at q
        split at q
        · rename_i h0
          rw [intsD_eq hi] at l1
          rw [l1.ints_inv] at h1
          exact ⟨_, ns, rfl, SqL.of (m.sub _ _ h1), h0, q.fin m (.int _)⟩
        · exact q.elim
  · exact q.elim
theorem kMin_ok : CallD K Wx (kFoldI minI) (rMin K) := fun b R ρ e σ H ws vs Q m rp q => by
  obtain ⟨a, ns, rfl, h1, h0, h2⟩ := kFold_at m rp q
  exact ⟨a, ns, rfl, h1, List.length_pos_iff.mpr h0, fun z hz hm => by rw [← minI_uniq hz hm]; exact h2⟩
theorem kMax_ok : CallD K Wx (kFoldI maxI) (rMax K) := fun b R ρ e σ H ws vs Q m rp q => by
  obtain ⟨a, ns, rfl, h1, h0, h2⟩ := kFold_at m rp q
  exact ⟨a, ns, rfl, h1, List.length_pos_iff.mpr h0, fun z hz hm => by rw [← maxI_uniq hz hm]; exact h2⟩
def kIndex (w : W) (ws : List W) : Ev := fun e => match w, ws with
  | .d (.lst xs), [.d (.int k)] => (match intsD xs with | some ns => if k ∈ ns then .ok (.d (.int (ns.idxOf k : Nat))) e else .fail | none => .fail)
  | _, _ => .fail
theorem flat_ints : ∀ ns : List Int, (ns.map V.int).all flatV = true
  | [] => rfl
  | n :: ns => by rw [List.map_cons, List.all_cons, flat_ints ns]; rfl
theorem eqV_int (i j : Int) : eqV (.int i) (.int j) = decide (i = j) := by
  show (i == j) = _
  by_cases h : i = j <;> simp [h]
theorem kIndex_ok : MethD K Wx kIndex (rIndex K) := fun b R ρ e σ H w v ws vs Q m r rs q => by
  unfold kIndex at q
  split at q
  · rename_i xs k
    obtain ⟨u, e2, ru⟩ := pair1 rs
    subst e2
    have ru : Rep K R (.int k) u := ru
    cases ru
    have r : Rep K R (.lst xs) v := r
    cases r with
    | lst h1 l1 =>
      cases hi : intsD xs with
      | none => rw [hi] at q; exact q.elim
      | some ns =>
        rw [hi] at q
        dsimp only at q
        split at q
        · rename_i hk
          rw [intsD_eq hi] at l1
          rw [l1.ints_inv] at h1
          have hlt : ns.idxOf k < ns.length := List.idxOf_lt_length_iff.mpr hk
          have hat : ns[ns.idxOf k] = k := List.getElem_idxOf hlt
          refine ⟨_, ns.map V.int, .int k, ns.idxOf k, .int k, rfl, rfl, SqL.of (m.sub _ _ h1), rfl, flat_ints ns, ?_, ?_, fun i z hi' hz => ?_, q.fin m (.int _)⟩
          · rw [List.getElem?_map, List.getElem?_eq_getElem hlt, hat]; rfl
          · rw [eqV_int]; simp
          · rw [List.getElem?_map, List.getElem?_eq_getElem (by omega)] at hz
            cases hz
            rw [eqV_int, decide_eq_false]
            intro h
            have := List.not_of_lt_findIdx (p := (· == k)) (xs := ns) (i := i) hi'
            simp [h] at this
        · exact q.elim
  · exact q.elim
end
section
variable {e : Env} {ns : List Int} {k : Int} {g : List Int → Int}
@[simp] theorem kFoldI_ev : kFoldI g [.d (.lst (ns.map .int))] e = if ns ≠ [] then .ok (.d (.int (g ns))) e else .fail := by
  show (match intsD (ns.map .int) with | some ns => if ns ≠ [] then Rs.ok (W.d (.int (g ns))) e else .fail | none => .fail) = _
  rw [intsD_map]
@[simp] theorem kIndex_ev : kIndex (.d (.lst (ns.map .int))) [.d (.int k)] e = if k ∈ ns then .ok (.d (.int (ns.idxOf k : Nat))) e else .fail := by
  show (match intsD (ns.map .int) with | some ns => if k ∈ ns then Rs.ok (W.d (.int (ns.idxOf k : Nat))) e else .fail | none => .fail) = _
  rw [intsD_map]
end
end Dl
end
section
set_option Elab.async false
set_option linter.all false
set_option maxRecDepth 100000
set_option maxHeartbeats 4000000
namespace Dl
open PySem L2
/-! any, all of a list of bools -/
def blsD : List D → Option (List Bool)
  | [] => some []
  | .bl b :: r => match blsD r with | some s => some (b :: s) | none => none
  | _ :: _ => none
theorem blsD_map : ∀ bs : List Bool, blsD (bs.map D.bl) = some bs
  | [] => rfl
  | b :: bs => by rw [List.map_cons, blsD, blsD_map bs]
section
variable {K : PySem.W.Frag} {Wx : WX} {R : Hp}
theorem blsD_rep : ∀ {xs : List D} {bs : List Bool} {vs : List V}, blsD xs = some bs → RepL K R xs vs → vs = bs.map V.bl
  | [], _, _, h, .nil => by cases h; rfl
  | d :: r, bs, _, h, .cons a b => by
    cases d with
    | bl c =>
      unfold blsD at h
      cases q : blsD r with
      | none => rw [q] at h; cases h
      | some s =>
        rw [q] at h
        cases h
        cases a
        rw [blsD_rep q b]
        rfl
    | _ => cases h
def kFoldB (g : List Bool → Bool) : List W → Ev := fun ws e => match ws with
  | [.d (.lst xs)] => (match blsD xs with | some bs => .ok (.d (.bl (g bs))) e | none => .fail)
  | _ => .fail
theorem kFoldB_at {g : List Bool → Bool} {b : Bs} {R : Hp} {ρ : Nat → Addr} {e : Env} {σ : St} {H : Hp} {ws : List W} {vs : List V} {Q : VK} (m : Md K b R ρ e σ H) (rp : Paired (RepW K R ρ) ws vs) (q : OkR K Wx (lW K) b R ρ e σ Q (kFoldB g ws e)) :
    ∃ a bs, vs = [V.ref a] ∧ SqL K H a (bs.map V.bl) ∧ Q (.bl (g bs)) H := by
  unfold kFoldB at q
  split at q
  · rename_i xs
    obtain ⟨v, e1, rv⟩ := pair1 rp
    subst e1
    have rv : Rep K R (.lst xs) v := rv
    cases rv with
    | lst h1 l1 =>
      cases hi : blsD xs with
      | none => rw [hi] at q; exact q.elim
      | some bs =>
        rw [hi] at q
        rw [blsD_rep hi l1] at h1
        exact ⟨_, bs, rfl, SqL.of (m.sub _ _ h1), q.fin m (.bl _)⟩
  · exact q.elim
theorem kAny_ok : CallD K Wx (kFoldB fun bs => bs.any id) (rAny K) := fun b R ρ e σ H ws vs Q m rp q => by
  obtain ⟨a, bs, rfl, h1, h2⟩ := kFoldB_at m rp q
  exact ⟨a, bs, rfl, h1, h2⟩
theorem kAll_ok : CallD K Wx (kFoldB fun bs => bs.all id) (rAll K) := fun b R ρ e σ H ws vs Q m rp q => by
  obtain ⟨a, bs, rfl, h1, h2⟩ := kFoldB_at m rp q
  exact ⟨a, bs, rfl, h1, h2⟩
end
section
variable {e : Env} {bs : List Bool} {g : List Bool → Bool}
@[simp] theorem kFoldB_ev : kFoldB g [.d (.lst (bs.map .bl))] e = .ok (.d (.bl (g bs))) e := by
  show (match blsD (bs.map .bl) with | some bs => Rs.ok (W.d (.bl (g bs))) e | none => .fail) = _
  rw [blsD_map]
end
end Dl
end
section
set_option Elab.async false
set_option linter.all false
set_option maxRecDepth 100000
set_option maxHeartbeats 8000000
namespace Tp
open PySem L2 Dl
@[simp] abbrev E_lengths_of (x_counts x_number x_groups x_symbol x_lengths x_first x_second x_symbols : Option W := none) (c0 c1 : Option Cell := none) (np : Nat := 0) : Dl.Env := ⟨[x_counts, x_number, x_groups, x_symbol, x_lengths, x_first, x_second, x_symbols], [c0, c1], np⟩
noncomputable def fb_lengths_of_c1 (C : Cs) : Ev := eLc (iL (eVar 0)) (tgName 1) (fun e => .ok true e) (eOp (blG ltB) (eVar 1) (eC (.int 0))) 1 false [1]
noncomputable def fb_lengths_of_c2 (C : Cs) : Ev := eLc (iEnu (eVar 0)) (tgTup [(tgName 3), (tgName 1)]) (bOp gtB (eVar 1) (eC (.int 0))) (eCB kTup [(eVar 1), (eVar 3), (eCB (kDisp none) [(eVar 3)])]) 1 false [3, 1]
noncomputable def fb_lengths_of_l1b (C : Cs) : Sv := (sAugI addI (eVar 4) (eVar 3) (eC (.int 1)))
noncomputable def fb_lengths_of_l1 (C : Cs) : Sv := sFor (iL (eVar 7)) (tgName 3) [3] (fb_lengths_of_l1b C)
noncomputable def fb_lengths_of_w1b (C : Cs) : Sv := (sSeq (sAsg (tgLst [(tgName 5), (tgName 6)]) (eSl (eVar 2) oNone (oSome (eC (.int 2)))))
  (sSeq (sSet 7 (eOp addD (eIx (eVar 5) (eC (.int 2))) (eIx (eVar 6) (eC (.int 2)))))
  (sSeq (fb_lengths_of_l1 C)
  (sSet 2 (eCB kSortD [(eOp addD (eSl (eVar 2) (oSome (eC (.int 2))) oNone) (eCB (kDisp none) [(eCB kTup [(eOp addD (eIx (eVar 5) (eC (.int 0))) (eIx (eVar 6) (eC (.int 0)))), (eCB (k2 minD) [(eIx (eVar 5) (eC (.int 1))), (eIx (eVar 6) (eC (.int 1)))]), (eVar 7)])]))])))))
noncomputable def fb_lengths_of_w1 (C : Cs) : Sv := sWhile (fun _ => 1000000) (bOp gtB (eCB kLen [(eVar 2)]) (eC (.int 1))) [3, 5, 6, 7] (fb_lengths_of_w1b C)
noncomputable def fb_lengths_of (C : Cs) : Sv :=
  (sSeq (sIf (bTru (eCB (kFoldB fun bs => bs.any id) [(fb_lengths_of_c1 C)])) (sRaise0 C.InvalidCounts) sNil)
  (sSeq (sSet 2 (eCB kSortD [(fb_lengths_of_c2 C)]))
  (sSeq (sSet 4 (eRep 0 (eCB (kDisp none) [(eC (.int 0))]) (eCB kLen [(eVar 0)])))
  (sSeq (sIf (bOp eqB (eCB kLen [(eVar 2)]) (eC (.int 1))) (sSetI (eVar 4) (eIx (eIx (eVar 2) (eC (.int 0))) (eC (.int 1))) (eC (.int 1))) sNil)
  (sSeq (sThen 0 (fb_lengths_of_w1 C))
  (sRet (eVar 4)))))))
noncomputable def F_lengths_of (C : Cs) : Fd := mkF 8 2 0 (fb_lengths_of C)
@[simp] abbrev E_is_full (x_lengths x_used x_length x_longest : Option W := none) (c0 : Option Cell := none) (np : Nat := 0) : Dl.Env := ⟨[x_lengths, x_used, x_length, x_longest], [c0], np⟩
noncomputable def fb_is_full_c1 (C : Cs) : Ev := eLc (iL (eVar 0)) (tgName 2) (bOp neB (eVar 2) (eC (.int 0))) (eVar 2) 0 false [2]
noncomputable def fb_is_full_c2 (C : Cs) : Ev := eLc (iL (eVar 1)) (tgName 2) (fun e => .ok true e) (eOp (blG ltB) (eVar 2) (eC (.int 0))) 0 false [2]
noncomputable def fb_is_full_c3 (C : Cs) : Ev := eLc (iL (eVar 1)) (tgName 2) (fun e => .ok true e) (eOp shlD (eC (.int 1)) (eOp subD (eVar 3) (eVar 2))) 0 false [2]
noncomputable def fb_is_full (C : Cs) : Sv :=
  (sSeq (sSet 1 (fb_is_full_c1 C))
  (sSeq (sIf (bTru (eCB (kFoldB fun bs => bs.any id) [(fb_is_full_c2 C)])) (sRet (eC (.bl false))) sNil)
  (sSeq (sIf (bOp leB (eCB kLen [(eVar 1)]) (eC (.int 1))) (sRet (eOp (blG inT) (eVar 1) (eCB kTup [(eCB (kDisp none) []), (eCB (kDisp none) [(eC (.int 1))])]))) sNil)
  (sSeq (sSet 3 (eCB (kFoldI maxI) [(eVar 1)]))
  (sSeq (sIf (bOp geB (eVar 3) (eCB kLen [(eVar 1)])) (sRet (eC (.bl false))) sNil)
  (sRet (eOp (blG eqB) (eCB (k1 sumD) [(fb_is_full_c3 C)]) (eOp shlD (eC (.int 1)) (eVar 3)))))))))
noncomputable def F_is_full (C : Cs) : Fd := mkF 4 1 0 (fb_is_full C)
@[simp] abbrev E_digits_of (x_number x_size x_place : Option W := none) (c0 : Option Cell := none) (np : Nat := 0) : Dl.Env := ⟨[x_number, x_size, x_place], [c0], np⟩
noncomputable def fb_digits_of_c1 (C : Cs) : Ev := eLc (iRg1 (eVar 1)) (tgName 2) (fun e => .ok true e) (eOp andD (eOp shrD (eVar 0) (eOp subD (eOp subD (eVar 1) (eC (.int 1))) (eVar 2))) (eC (.int 1))) 0 false [2]
noncomputable def fb_digits_of (C : Cs) : Sv :=
  (sRet (fb_digits_of_c1 C))
noncomputable def F_digits_of (C : Cs) : Fd := mkF 3 1 0 (fb_digits_of C)
@[simp] abbrev E_code_of (x_lengths x_rows x_ x_number x_size x_length x_symbol : Option W := none) (c0 c1 : Option Cell := none) (np : Nat := 0) : Dl.Env := ⟨[x_lengths, x_rows, x_, x_number, x_size, x_length, x_symbol], [c0, c1], np⟩
noncomputable def fb_code_of_c1 (C : Cs) : Ev := eLc (iL (eVar 0)) (tgName 2) (fun e => .ok true e) (eCB (kDisp none) []) 0 true [2]
noncomputable def fb_code_of_c2 (C : Cs) : Ev := eLc (iEnu (eVar 0)) (tgTup [(tgName 6), (tgName 5)]) (bOp gtB (eVar 5) (eC (.int 0))) (eCB kTup [(eVar 5), (eVar 6)]) 1 false [6, 5]
noncomputable def fb_code_of_l1b (C : Cs) : Sv := (sSeq (sSet 3 (eOp shlD (eVar 3) (eOp subD (eVar 5) (eVar 4))))
  (sSeq (sSet 4 (eVar 5))
  (sSeq (sSetI (eVar 1) (eVar 6) (eCall 2 (F_digits_of C) [] [] [] [(eVar 3), (eVar 5)]))
  (sAug 3 addI (eC (.int 1))))))
noncomputable def fb_code_of_l1 (C : Cs) : Sv := sFor (iL (eCB kSortD [(fb_code_of_c2 C)])) (tgTup [(tgName 5), (tgName 6)]) [5, 6] (fb_code_of_l1b C)
noncomputable def fb_code_of (C : Cs) : Sv :=
  (sSeq (sIf (bNot (bTru (eCall 1 (F_is_full C) [] [] [] [(eVar 0)]))) (sRaise0 C.InvalidLengths) sNil)
  (sSeq (sSet 1 (fb_code_of_c1 C))
  (sSeq (sSet 3 (eC (.int 0)))
  (sSeq (sSet 4 (eC (.int 0)))
  (sSeq (sThen 0 (fb_code_of_l1 C))
  (sRet (eVar 1)))))))
noncomputable def F_code_of (C : Cs) : Fd := mkF 7 2 0 (fb_code_of C)
@[simp] abbrev E_steps_of (x_number x_size : Option W := none) (np : Nat := 0) : Dl.Env := ⟨[x_number, x_size], [], np⟩
noncomputable def fb_steps_of (C : Cs) : Sv :=
  (sSeq (sSet 1 (eBits (eOp addD (eVar 0) (eC (.int 1)))))
  (sRet (eOp addD (eOp mulD (eCB (kDisp none) [(eC (.int 0))]) (eOp subD (eVar 1) (eC (.int 1)))) (eCall 2 (F_digits_of C) [] [] [] [(eOp addD (eVar 0) (eC (.int 1))), (eVar 1)]))))
noncomputable def F_steps_of (C : Cs) : Fd := mkF 2 0 0 (fb_steps_of C)
end Tp
end
section
set_option Elab.async false
set_option linter.all false
set_option maxRecDepth 100000
set_option maxHeartbeats 8000000
namespace Tp
open PySem L2 Dl
@[simp] abbrev E_law_mix (x_number x_k : Option W := none) (np : Nat := 0) : Dl.Env := ⟨[x_number, x_k], [], np⟩
noncomputable def fb_law_mix (C : Cs) : Sv :=
  (sRet (eOp modD (eOp mulD (eOp modD (eCB (k1 intOf) [(eOp mulD (eOp addD (eOp addD (eOp modD (eCB (k1 intOf) [(eVar 0)]) (eC (.int 1000003))) (eOp mulD (eC (.int 7919)) (eVar 1))) (eC (.int 1))) (eC (.int 48271)))]) (eC (.int 1000033))) (eC (.int 16807))) (eC (.int 998244353))))
noncomputable def F_law_mix (C : Cs) : Fd := mkF 2 0 0 (fb_law_mix C)
@[simp] abbrev E_law_numbers_k36 (x_script x_count x_row x_base x_cell x_rest x_k : Option W := none) (c0 : Option Cell := none) (np : Nat := 0) : Dl.Env := ⟨[x_script, x_count, x_row, x_base, x_cell, x_rest, x_k], [c0], np⟩
noncomputable def fb_law_numbers_k36_l2b (C : Cs) : Sv := (sSeq (sExpr (eM isLst kAppend (eVar 2) [(eOp modD (eCB (k1 intOf) [(eVar 5)]) (eC (.int 840)))]))
  (sSeq (sSet 5 (eOp fdivD (eVar 5) (eC (.int 840))))
  (sIf (bOp eqB (eVar 5) (eC (.int 0))) (fun e => .bk e) sNil)))
noncomputable def fb_law_numbers_k36_l2 (C : Cs) : Sv := sFor (iRg1 (eC (.int 60))) (tgName 6) [6] (fb_law_numbers_k36_l2b C)
noncomputable def fb_law_numbers_k36_l1b (C : Cs) : Sv := (sSeq (sSet 3 (eOp addD (eVar 3) (eVar 4)))
  (sIf (bOp geB (eVar 4) (eC (.int 1000000000000000000))) (sSeq (sSet 5 (eVar 4))
  (sSeq (fb_law_numbers_k36_l2 C) sNil)) (sExpr (eM isLst kAppend (eVar 2) [(eCall 2 (F_law_mix C) [] [] [] [(eCall 2 (F_law_mix C) [] [] [] [(eVar 4), (eC (.int 3))]), (eC (.int 5))])]))))
noncomputable def fb_law_numbers_k36_l1 (C : Cs) : Sv := sFor (iL (eSl (eVar 0) oNone (oSome (eC (.int 63))))) (tgName 4) [4, 5, 6] (fb_law_numbers_k36_l1b C)
noncomputable def fb_law_numbers_k36_l3b (C : Cs) : Sv := (sExpr (eM isLst kAppend (eVar 2) [(eCall 2 (F_law_mix C) [] [] [] [(eCall 2 (F_law_mix C) [] [] [] [(eOp addD (eVar 3) (eOp mulD (eC (.int 31)) (eVar 6))), (eOp addD (eC (.int 11)) (eVar 6))]), (eC (.int 17))])]))
noncomputable def fb_law_numbers_k36_l3 (C : Cs) : Sv := sFor (iRg1 (eVar 1)) (tgName 6) [6] (fb_law_numbers_k36_l3b C)
noncomputable def fb_law_numbers_k36 (C : Cs) : Sv :=
  (sSeq (sSet 2 (eCB (kDisp (some 0)) []))
  (sSeq (sSet 3 (eC (.int 0)))
  (sSeq (fb_law_numbers_k36_l1 C)
  (sSeq (fb_law_numbers_k36_l3 C)
  (sSeq (sExpr (eM isLst kReverse (eVar 2) []))
  (sRet (eVar 2)))))))
noncomputable def F_law_numbers_k36 (C : Cs) : Fd := mkF 7 1 1 (fb_law_numbers_k36 C)
@[simp] abbrev E_law_take_k35 (x_row x_bound : Option W := none) (c0 : Option Cell := none) (np : Nat := 1) : Dl.Env := ⟨[x_row, x_bound], [c0], np⟩
noncomputable def fb_law_take_k35 (C : Cs) : Sv :=
  (sSeq (sIf (bNot (bTru (eVar 0))) (sRet (eC (.int 0))) sNil)
  (sRet (eOp modD (eCB (k1 intOf) [(eM isLst kPop (eVar 0) [])]) (eVar 1))))
noncomputable def F_law_take_k35 (C : Cs) : Fd := mkF 2 1 1 (fb_law_take_k35 C)
end Tp
end
section
set_option Elab.async false
set_option linter.all false
set_option maxRecDepth 100000
set_option maxHeartbeats 8000000
namespace Tp
open PySem L2 Dl
@[simp] abbrev E_law_two (x_times x_number x_k : Option W := none) (np : Nat := 0) : Dl.Env := ⟨[x_times, x_number, x_k], [], np⟩
noncomputable def fb_law_two_l1b (C : Cs) : Sv := (sSet 1 (eOp mulD (eVar 1) (eC (.int 2))))
noncomputable def fb_law_two_l1 (C : Cs) : Sv := sFor (iRg1 (eVar 0)) (tgName 2) [2] (fb_law_two_l1b C)
noncomputable def fb_law_two (C : Cs) : Sv :=
  (sSeq (sSet 1 (eC (.int 1)))
  (sSeq (fb_law_two_l1 C)
  (sRet (eVar 1))))
noncomputable def F_law_two (C : Cs) : Fd := mkF 3 0 0 (fb_law_two C)
@[simp] abbrev E_law_lengths (x_counts x_groups x_k x_lengths_here x_turn x_first x_second x_symbol : Option W := none) (c0 c1 : Option Cell := none) (np : Nat := 0) : Dl.Env := ⟨[x_counts, x_groups, x_k, x_lengths_here, x_turn, x_first, x_second, x_symbol], [c0, c1], np⟩
noncomputable def fb_law_lengths_c1 (C : Cs) : Ev := eLc (iRg1 (eCB kLen [(eVar 0)])) (tgName 2) (bOp gtB (eIx (eVar 0) (eVar 2)) (eC (.int 0))) (eCB kTup [(eIx (eVar 0) (eVar 2)), (eVar 2), (eCB (kDisp none) [(eVar 2)])]) 1 false [2]
noncomputable def fb_law_lengths_l2b (C : Cs) : Sv := (sSetI (eVar 3) (eVar 7) (eOp addD (eIx (eVar 3) (eVar 7)) (eC (.int 1))))
noncomputable def fb_law_lengths_l2 (C : Cs) : Sv := sFor (iL (eOp addD (eIx (eVar 5) (eC (.int 2))) (eIx (eVar 6) (eC (.int 2))))) (tgName 7) [7] (fb_law_lengths_l2b C)
noncomputable def fb_law_lengths_l1b (C : Cs) : Sv := (sSeq (sIf (bOp ltB (eCB kLen [(eVar 1)]) (eC (.int 2))) (fun e => .bk e) sNil)
  (sSeq (sSet 1 (eCB kSortD [(eVar 1)]))
  (sSeq (sPar 5 6 [(eIx (eVar 1) (eC (.int 0))), (eIx (eVar 1) (eC (.int 1)))])
  (sSeq (fb_law_lengths_l2 C)
  (sSet 1 (eOp addD (eSl (eVar 1) (oSome (eC (.int 2))) oNone) (eCB (kDisp none) [(eCB kTup [(eOp addD (eIx (eVar 5) (eC (.int 0))) (eIx (eVar 6) (eC (.int 0)))), (eCB (k2 minD) [(eIx (eVar 5) (eC (.int 1))), (eIx (eVar 6) (eC (.int 1)))]), (eOp addD (eIx (eVar 5) (eC (.int 2))) (eIx (eVar 6) (eC (.int 2))))])])))))))
noncomputable def fb_law_lengths_l1 (C : Cs) : Sv := sFor (iRg1 (eCB kLen [(eVar 0)])) (tgName 4) [4, 5, 6, 7] (fb_law_lengths_l1b C)
noncomputable def fb_law_lengths (C : Cs) : Sv :=
  (sSeq (sSet 1 (fb_law_lengths_c1 C))
  (sSeq (sSet 3 (eRep 0 (eCB (kDisp none) [(eC (.int 0))]) (eCB kLen [(eVar 0)])))
  (sSeq (sIf (bOp eqB (eCB kLen [(eVar 1)]) (eC (.int 1))) (sSetI (eVar 3) (eIx (eIx (eVar 1) (eC (.int 0))) (eC (.int 1))) (eC (.int 1))) sNil)
  (sSeq (sThen 0 (fb_law_lengths_l1 C))
  (sRet (eVar 3))))))
noncomputable def F_law_lengths (C : Cs) : Fd := mkF 8 2 0 (fb_law_lengths C)
end Tp
end
section
set_option Elab.async false
set_option linter.all false
set_option maxRecDepth 100000
set_option maxHeartbeats 8000000
namespace Tp
open PySem L2 Dl
@[simp] abbrev E_law_full (x_lengths_here x_used x_length : Option W := none) (c0 : Option Cell := none) (np : Nat := 0) : Dl.Env := ⟨[x_lengths_here, x_used, x_length], [c0], np⟩
noncomputable def fb_law_full_c1 (C : Cs) : Ev := eLc (iL (eVar 0)) (tgName 2) (bOp neB (eVar 2) (eC (.int 0))) (eVar 2) 0 false [2]
noncomputable def fb_law_full_c2 (C : Cs) : Ev := eLc (iL (eVar 1)) (tgName 2) (fun e => .ok true e) (eOr (eOp (blG ltB) (eVar 2) (eC (.int 0))) (eOp (blG gtB) (eVar 2) (eC (.int 60)))) 0 false [2]
noncomputable def fb_law_full_c3 (C : Cs) : Ev := eLc (iL (eVar 1)) (tgName 2) (fun e => .ok true e) (eCall 1 (F_law_two C) [] [] [] [(eOp subD (eC (.int 60)) (eVar 2))]) 0 false [2]
noncomputable def fb_law_full (C : Cs) : Sv :=
  (sSeq (sSet 1 (fb_law_full_c1 C))
  (sSeq (sIf (bOr (bOp eqB (eVar 1) (eCB (kDisp none) [])) (bOp eqB (eVar 1) (eCB (kDisp none) [(eC (.int 1))]))) (sRet (eC (.bl true))) sNil)
  (sSeq (sIf (bOr (bOp eqB (eCB kLen [(eVar 1)]) (eC (.int 1))) (bTru (eCB (kFoldB fun bs => bs.any id) [(fb_law_full_c2 C)]))) (sRet (eC (.bl false))) sNil)
  (sRet (eOp (blG eqB) (eCB (k1 sumD) [(fb_law_full_c3 C)]) (eCall 1 (F_law_two C) [] [] [] [(eC (.int 60))]))))))
noncomputable def F_law_full (C : Cs) : Fd := mkF 3 1 0 (fb_law_full C)
@[simp] abbrev E_law_bits_k56 (x_number x_size x_bits_here x_k : Option W := none) (c0 : Option Cell := none) (np : Nat := 0) : Dl.Env := ⟨[x_number, x_size, x_bits_here, x_k], [c0], np⟩
noncomputable def fb_law_bits_k56_l1b (C : Cs) : Sv := (sExpr (eM isLst kAppend (eVar 2) [(eOp modD (eCB (k1 intOf) [(eOp fdivD (eVar 0) (eCall 1 (F_law_two C) [] [] [] [(eOp subD (eOp subD (eVar 1) (eC (.int 1))) (eVar 3))]))]) (eC (.int 2)))]))
noncomputable def fb_law_bits_k56_l1 (C : Cs) : Sv := sFor (iRg1 (eVar 1)) (tgName 3) [3] (fb_law_bits_k56_l1b C)
noncomputable def fb_law_bits_k56 (C : Cs) : Sv :=
  (sSeq (sSet 2 (eCB (kDisp (some 0)) []))
  (sSeq (sThen 0 (fb_law_bits_k56_l1 C))
  (sRet (eVar 2))))
noncomputable def F_law_bits_k56 (C : Cs) : Fd := mkF 4 1 0 (fb_law_bits_k56 C)
@[simp] abbrev E_law_code (x_lengths_here x_rows x_length x_number x_size x_symbol x_k : Option W := none) (c0 c1 : Option Cell := none) (np : Nat := 0) : Dl.Env := ⟨[x_lengths_here, x_rows, x_length, x_number, x_size, x_symbol, x_k], [c0, c1], np⟩
noncomputable def fb_law_code_c1 (C : Cs) : Ev := eLc (iL (eVar 0)) (tgName 2) (fun e => .ok true e) (eCB (kDisp none) []) 0 true [2]
noncomputable def fb_law_code_c2 (C : Cs) : Ev := eLc (iRg1 (eCB kLen [(eVar 0)])) (tgName 6) (bOp gtB (eIx (eVar 0) (eVar 6)) (eC (.int 0))) (eCB kTup [(eIx (eVar 0) (eVar 6)), (eVar 6)]) 1 false [6]
noncomputable def fb_law_code_l1b (C : Cs) : Sv := (sSeq (sSet 3 (eOp mulD (eVar 3) (eCall 1 (F_law_two C) [] [] [] [(eOp subD (eVar 2) (eVar 4))])))
  (sSeq (sSet 4 (eVar 2))
  (sSeq (sSetI (eVar 1) (eVar 5) (eCall 2 (F_law_bits_k56 C) [] [] [] [(eVar 3), (eVar 2)]))
  (sSet 3 (eOp addD (eVar 3) (eC (.int 1)))))))
noncomputable def fb_law_code_l1 (C : Cs) : Sv := sFor (iL (eCB kSortD [(fb_law_code_c2 C)])) (tgTup [(tgName 2), (tgName 5)]) [2, 5] (fb_law_code_l1b C)
noncomputable def fb_law_code (C : Cs) : Sv :=
  (sSeq (sSet 1 (fb_law_code_c1 C))
  (sSeq (sAsg (tgTup [(tgName 3), (tgName 4)]) (eCB kTup [(eC (.int 0)), (eC (.int 0))]))
  (sSeq (sThen 0 (fb_law_code_l1 C))
  (sRet (eVar 1)))))
noncomputable def F_law_code (C : Cs) : Fd := mkF 7 2 0 (fb_law_code C)
@[simp] abbrev E_law_steps_of (x_number x_size : Option W := none) (np : Nat := 0) : Dl.Env := ⟨[x_number, x_size], [], np⟩
noncomputable def fb_law_steps_of_w1b (C : Cs) : Sv := (sSet 1 (eOp addD (eVar 1) (eC (.int 1))))
noncomputable def fb_law_steps_of_w1 (C : Cs) : Sv := sWhile (fun _ => 1000000) (bOp leB (eCall 1 (F_law_two C) [] [] [] [(eVar 1)]) (eOp addD (eVar 0) (eC (.int 1)))) [] (fb_law_steps_of_w1b C)
noncomputable def fb_law_steps_of (C : Cs) : Sv :=
  (sSeq (sSet 1 (eC (.int 0)))
  (sSeq (fb_law_steps_of_w1 C)
  (sRet (eOp addD (eOp mulD (eCB (kDisp none) [(eC (.int 0))]) (eOp subD (eVar 1) (eC (.int 1)))) (eCall 2 (F_law_bits_k56 C) [] [] [] [(eOp addD (eVar 0) (eC (.int 1))), (eVar 1)])))))
noncomputable def F_law_steps_of (C : Cs) : Fd := mkF 2 0 0 (fb_law_steps_of C)
@[simp] abbrev E_law_least (x_counts x_size x_best x_rows x_k x_longer x_one x_length x_lengths_here x_cost : Option W := none) (c0 c1 : Option Cell := none) (np : Nat := 0) : Dl.Env := ⟨[x_counts, x_size, x_best, x_rows, x_k, x_longer, x_one, x_length, x_lengths_here, x_cost], [c0, c1], np⟩
noncomputable def fb_law_least_l3b (C : Cs) : Sv := (sExpr (eM isLst kAppend (eVar 5) [(eOp addD (eVar 6) (eCB (kDisp none) [(eVar 7)]))]))
noncomputable def fb_law_least_l3 (C : Cs) : Sv := sFor (iRg2 (eC (.int 1)) (eOp addD (eVar 1) (eC (.int 1)))) (tgName 7) [7] (fb_law_least_l3b C)
noncomputable def fb_law_least_l2b (C : Cs) : Sv := (sSeq (fb_law_least_l3 C) sNil)
noncomputable def fb_law_least_l2 (C : Cs) : Sv := sFor (iL (eCB (kList none) [(eVar 3)])) (tgName 6) [6, 7] (fb_law_least_l2b C)
noncomputable def fb_law_least_l1b (C : Cs) : Sv := (sSeq (sSet 5 (eCB (kDisp (some 0)) []))
  (sSeq (sThen 0 (fb_law_least_l2 C))
  (sSet 3 (eVar 5))))
noncomputable def fb_law_least_l1 (C : Cs) : Sv := sFor (iRg1 (eCB kLen [(eVar 0)])) (tgName 4) [4, 5, 6, 7] (fb_law_least_l1b C)
noncomputable def fb_law_least_c1 (C : Cs) : Ev := eLc (iL (eVar 8)) (tgName 7) (fun e => .ok true e) (eCall 1 (F_law_two C) [] [] [] [(eOp subD (eVar 1) (eVar 7))]) 1 false [7]
noncomputable def fb_law_least_c2 (C : Cs) : Ev := eLc (iRg1 (eCB kLen [(eVar 0)])) (tgName 4) (fun e => .ok true e) (eOp mulD (eIx (eVar 0) (eVar 4)) (eIx (eVar 8) (eVar 4))) 1 false [4]
noncomputable def fb_law_least_l4b (C : Cs) : Sv := (sIf (bOp leB (eCB (k1 sumD) [(fb_law_least_c1 C)]) (eCall 1 (F_law_two C) [] [] [] [(eVar 1)])) (sSeq (sSet 9 (eCB (k1 sumD) [(fb_law_least_c2 C)]))
  (sIf (bOr (bOp isNB (eVar 2) (eC .non)) (bOp ltB (eVar 9) (eVar 2))) (sSet 2 (eVar 9)) sNil)) sNil)
noncomputable def fb_law_least_l4 (C : Cs) : Sv := sFor (iL (eVar 3)) (tgName 8) [4, 7, 8, 9] (fb_law_least_l4b C)
noncomputable def fb_law_least (C : Cs) : Sv :=
  (sSeq (sSet 2 (eC .non))
  (sSeq (sSet 3 (eCB (kDisp none) [(eCB (kDisp none) [])]))
  (sSeq (fb_law_least_l1 C)
  (sSeq (fb_law_least_l4 C)
  (sRet (eVar 2))))))
noncomputable def F_law_least (C : Cs) : Fd := mkF 10 2 0 (fb_law_least C)
@[simp] abbrev E_law_refused_k56 (x_lengths_here : Option W := none) (np : Nat := 0) : Dl.Env := ⟨[x_lengths_here], [], np⟩
noncomputable def fb_law_refused_k56 (C : Cs) : Sv :=
  (sSeq (sTryM [(C.InvalidLengths, none, (kC (.bl true))), (C.TopiaryError, none, (kC (.bl false)))] (sExpr (eCall 1 (F_code_of C) [] [] [] [(eVar 0)])))
  (sRet (eC (.bl false))))
noncomputable def F_law_refused_k56 (C : Cs) : Fd := mkF 1 0 0 (fb_law_refused_k56 C)
@[simp] abbrev E_law_counts_refused (x_counts : Option W := none) (np : Nat := 0) : Dl.Env := ⟨[x_counts], [], np⟩
noncomputable def fb_law_counts_refused (C : Cs) : Sv :=
  (sSeq (sTryM [(C.InvalidCounts, none, (kC (.bl true))), (C.TopiaryError, none, (kC (.bl false)))] (sExpr (eCall 1 (F_lengths_of C) [] [] [] [(eVar 0)])))
  (sRet (eC (.bl false))))
noncomputable def F_law_counts_refused (C : Cs) : Fd := mkF 1 0 0 (fb_law_counts_refused C)
@[simp] abbrev E_law_k56 (x_script x_row x_counts x_k x_lengths_here x_used x_number x_rows x_one x_first x_second x_drawn : Option W := none) (c0 c1 : Option Cell := none) (np : Nat := 0) : Dl.Env := ⟨[x_script, x_row, x_counts, x_k, x_lengths_here, x_used, x_number, x_rows, x_one, x_first, x_second, x_drawn], [c0, c1], np⟩
noncomputable def fb_law_k56_c1 (C : Cs) : Ev := eLc (iRg1 (eCall 2 (F_law_take_k35 C) [0] [] [] [(eVar 1), (eC (.int 9))])) (tgName 3) (fun e => .ok true e) (eIx (eCB (kDisp none) [(eCall 2 (F_law_take_k35 C) [0] [] [] [(eVar 1), (eC (.int 5))]), (eCall 2 (F_law_take_k35 C) [0] [] [] [(eVar 1), (eC (.int 50))]), (eCall 1 (F_law_two C) [] [] [] [(eCall 2 (F_law_take_k35 C) [0] [] [] [(eVar 1), (eC (.int 8))])]), (eC (.int 0))]) (eCall 2 (F_law_take_k35 C) [0] [] [] [(eVar 1), (eC (.int 4))])) 1 false [3]
noncomputable def fb_law_k56_c2 (C : Cs) : Ev := eLc (iL (eVar 2)) (tgName 6) (bOp gtB (eVar 6) (eC (.int 0))) (eVar 6) 1 false [6]
noncomputable def fb_law_k56_c3 (C : Cs) : Ev := eLc (iRg1 (eCB kLen [(eVar 2)])) (tgName 3) (fun e => .ok true e) (eOp mulD (eIx (eVar 2) (eVar 3)) (eIx (eVar 4) (eVar 3))) 1 false [3]
noncomputable def fb_law_k56_c4 (C : Cs) : Ev := eLc (iL (eCall 1 (F_code_of C) [] [] [] [(eVar 4)])) (tgName 8) (bOp neB (eVar 8) (eCB (kDisp none) [])) (eVar 8) 1 false [8]
noncomputable def fb_law_k56_l2b (C : Cs) : Sv := (sIf (bAnd (bOp neB (eVar 9) (eVar 10)) (bOp eqB (eSl (eVar 10) oNone (oSome (eCB kLen [(eVar 9)]))) (eVar 9))) (sRet (eC (.bl false))) sNil)
noncomputable def fb_law_k56_l2 (C : Cs) : Sv := sFor (iL (eVar 7)) (tgName 10) [10] (fb_law_k56_l2b C)
noncomputable def fb_law_k56_l1b (C : Cs) : Sv := (sSeq (fb_law_k56_l2 C) sNil)
noncomputable def fb_law_k56_l1 (C : Cs) : Sv := sFor (iL (eVar 7)) (tgName 9) [9, 10] (fb_law_k56_l1b C)
noncomputable def fb_law_k56_c5 (C : Cs) : Ev := eLc (iRg1 (eCall 2 (F_law_take_k35 C) [0] [] [] [(eVar 1), (eC (.int 6))])) (tgName 3) (fun e => .ok true e) (eOp subD (eCall 2 (F_law_take_k35 C) [0] [] [] [(eVar 1), (eC (.int 6))]) (eCB (k1 intOf) [(eOp (blG eqB) (eCall 2 (F_law_take_k35 C) [0] [] [] [(eVar 1), (eC (.int 9))]) (eC (.int 0)))])) 1 false [3]
noncomputable def fb_law_k56_t1 (C : Cs) : Sv := (sSeq (sThen 0 (sSet 6 (eIx (eCB (kDisp none) [(eCall 2 (F_law_take_k35 C) [0] [] [] [(eVar 1), (eC (.int 9))]), (eCall 2 (F_law_take_k35 C) [0] [] [] [(eVar 1), (eC (.int 3000000))])]) (eCall 2 (F_law_take_k35 C) [0] [] [] [(eVar 1), (eC (.int 2))]))))
  (sRet (eAnd (eOp (blG eqB) (eCall 1 (F_steps_of C) [] [] [] [(eVar 6)]) (eCall 1 (F_law_steps_of C) [] [] [] [(eVar 6)])) (eCall 1 (F_law_counts_refused C) [] [] [] [(eOp addD (eVar 2) (eCB (kDisp none) [(eNeg (eC (.int 1)))]))]))))
noncomputable def fb_law_k56_t2 (C : Cs) : Sv := (sSeq (sIf (bTru (eCall 1 (F_law_full C) [] [] [] [(eVar 11)])) (sIf (bOp neB (eCall 1 (F_code_of C) [] [] [] [(eVar 11)]) (eCall 1 (F_law_code C) [] [] [] [(eVar 11)])) (sRet (eC (.bl false))) sNil) (sIf (bNot (bTru (eCall 1 (F_law_refused_k56 C) [] [] [] [(eVar 11)]))) (sRet (eC (.bl false))) sNil))
  (fb_law_k56_t1 C))
noncomputable def fb_law_k56_t3 (C : Cs) : Sv := (sSeq (sSet 7 (fb_law_k56_c4 C))
  (sSeq (fb_law_k56_l1 C)
  (sSeq (sSet 11 (fb_law_k56_c5 C))
  (sSeq (sIf (bOp neB (eCall 1 (F_is_full C) [] [] [] [(eVar 11)]) (eCall 1 (F_law_full C) [] [] [] [(eVar 11)])) (sRet (eC (.bl false))) sNil)
  (fb_law_k56_t2 C)))))
noncomputable def fb_law_k56_t4 (C : Cs) : Sv := (sSeq (sSet 5 (fb_law_k56_c2 C))
  (sSeq (sIf (bChain ltB leB (eC (.int 0)) (eCB kLen [(eVar 5)]) (eC (.int 4))) (sIf (bOp neB (eCB (k1 sumD) [(fb_law_k56_c3 C)]) (eCall 2 (F_law_least C) [] [] [] [(eVar 5), (eC (.int 4))])) (sRet (eC (.bl false))) sNil) sNil)
  (fb_law_k56_t3 C)))
noncomputable def fb_law_k56 (C : Cs) : Sv :=
  (sSeq (sSet 1 (eCall 2 (F_law_numbers_k36 C) [] [0] [] [(eVar 0), (eC (.int 60))]))
  (sSeq (sSet 2 (fb_law_k56_c1 C))
  (sSeq (sSet 4 (eCall 1 (F_lengths_of C) [] [] [] [(eCB (kList none) [(eVar 2)])]))
  (sSeq (sIf (bOr (bOp neB (eVar 4) (eCall 1 (F_law_lengths C) [] [] [] [(eVar 2)])) (bOr (bOp notBB (eCall 1 (F_is_full C) [] [] [] [(eVar 4)]) (eC (.bl true))) (bOp neB (eCall 1 (F_code_of C) [] [] [] [(eVar 4)]) (eCall 1 (F_law_code C) [] [] [] [(eVar 4)])))) (sRet (eC (.bl false))) sNil)
  (fb_law_k56_t4 C)))))
noncomputable def F_law_k56 (C : Cs) : Fd := mkF 12 2 0 (fb_law_k56 C)
end Tp
end
section
set_option Elab.async false
set_option linter.all false
set_option maxRecDepth 100000
set_option maxHeartbeats 8000000
namespace Wk
open PySem L2 Dl Tp
def top (i : Nat) : Stmt := PySem.Challenge.pw_topiary_k56_whole_codes_of_least_length.main.body.getD i (.Pass ⟨0, 0, 0, 0⟩)
abbrev s_lengths_of : Stmt := top 5
abbrev N_lengths_of : List Str := ["counts", "number", "groups", "symbol", "lengths", "first", "second", "symbols"]
theorem sc_lengths_of : FnScope N_lengths_of ["counts"] (defScope s_lengths_of) := ⟨rfl, rfl, rfl, by decide +kernel, rfl, by decide +kernel, by decide +kernel⟩
abbrev s_is_full : Stmt := top 6
abbrev N_is_full : List Str := ["lengths", "used", "length", "longest"]
theorem sc_is_full : FnScope N_is_full ["lengths"] (defScope s_is_full) := ⟨rfl, rfl, rfl, by decide +kernel, rfl, by decide +kernel, by decide +kernel⟩
abbrev s_digits_of : Stmt := top 7
abbrev N_digits_of : List Str := ["number", "size", "place"]
theorem sc_digits_of : FnScope N_digits_of ["number", "size"] (defScope s_digits_of) := ⟨rfl, rfl, rfl, by decide +kernel, rfl, by decide +kernel, by decide +kernel⟩
abbrev s_code_of : Stmt := top 8
abbrev N_code_of : List Str := ["lengths", "rows", "_", "number", "size", "length", "symbol"]
theorem sc_code_of : FnScope N_code_of ["lengths"] (defScope s_code_of) := ⟨rfl, rfl, rfl, by decide +kernel, rfl, by decide +kernel, by decide +kernel⟩
abbrev s_steps_of : Stmt := top 9
abbrev N_steps_of : List Str := ["number", "size"]
theorem sc_steps_of : FnScope N_steps_of ["number"] (defScope s_steps_of) := ⟨rfl, rfl, rfl, by decide +kernel, rfl, by decide +kernel, by decide +kernel⟩
abbrev s_law_mix : Stmt := top 11
abbrev N_law_mix : List Str := ["_law_number", "_law_k"]
theorem sc_law_mix : FnScope N_law_mix ["_law_number", "_law_k"] (defScope s_law_mix) := ⟨rfl, rfl, rfl, by decide +kernel, rfl, by decide +kernel, by decide +kernel⟩
abbrev s_law_numbers_k36 : Stmt := top 12
abbrev N_law_numbers_k36 : List Str := ["_law_script", "_law_count", "_law_row", "_law_base", "_law_cell", "_law_rest", "_law_k"]
theorem sc_law_numbers_k36 : FnScope N_law_numbers_k36 ["_law_script", "_law_count"] (defScope s_law_numbers_k36) := ⟨rfl, rfl, rfl, by decide +kernel, rfl, by decide +kernel, by decide +kernel⟩
abbrev s_law_take_k35 : Stmt := top 13
abbrev N_law_take_k35 : List Str := ["_law_row", "_law_bound"]
theorem sc_law_take_k35 : FnScope N_law_take_k35 ["_law_row", "_law_bound"] (defScope s_law_take_k35) := ⟨rfl, rfl, rfl, by decide +kernel, rfl, by decide +kernel, by decide +kernel⟩
abbrev s_law_two : Stmt := top 14
abbrev N_law_two : List Str := ["_law_times", "_law_number", "_law_k"]
theorem sc_law_two : FnScope N_law_two ["_law_times"] (defScope s_law_two) := ⟨rfl, rfl, rfl, by decide +kernel, rfl, by decide +kernel, by decide +kernel⟩
abbrev s_law_lengths : Stmt := top 15
abbrev N_law_lengths : List Str := ["_law_counts", "_law_groups", "_law_k", "_law_lengths_here", "_law_turn", "_law_first", "_law_second", "_law_symbol"]
theorem sc_law_lengths : FnScope N_law_lengths ["_law_counts"] (defScope s_law_lengths) := ⟨rfl, rfl, rfl, by decide +kernel, rfl, by decide +kernel, by decide +kernel⟩
abbrev s_law_full : Stmt := top 16
abbrev N_law_full : List Str := ["_law_lengths_here", "_law_used", "_law_length"]
theorem sc_law_full : FnScope N_law_full ["_law_lengths_here"] (defScope s_law_full) := ⟨rfl, rfl, rfl, by decide +kernel, rfl, by decide +kernel, by decide +kernel⟩
abbrev s_law_bits_k56 : Stmt := top 17
abbrev N_law_bits_k56 : List Str := ["_law_number", "_law_size", "_law_bits_here", "_law_k"]
theorem sc_law_bits_k56 : FnScope N_law_bits_k56 ["_law_number", "_law_size"] (defScope s_law_bits_k56) := ⟨rfl, rfl, rfl, by decide +kernel, rfl, by decide +kernel, by decide +kernel⟩
abbrev s_law_code : Stmt := top 18
abbrev N_law_code : List Str := ["_law_lengths_here", "_law_rows", "_law_length", "_law_number", "_law_size", "_law_symbol", "_law_k"]
theorem sc_law_code : FnScope N_law_code ["_law_lengths_here"] (defScope s_law_code) := ⟨rfl, rfl, rfl, by decide +kernel, rfl, by decide +kernel, by decide +kernel⟩
abbrev s_law_steps_of : Stmt := top 19
abbrev N_law_steps_of : List Str := ["_law_number", "_law_size"]
theorem sc_law_steps_of : FnScope N_law_steps_of ["_law_number"] (defScope s_law_steps_of) := ⟨rfl, rfl, rfl, by decide +kernel, rfl, by decide +kernel, by decide +kernel⟩
abbrev s_law_least : Stmt := top 20
abbrev N_law_least : List Str := ["_law_counts", "_law_size", "_law_best", "_law_rows", "_law_k", "_law_longer", "_law_one", "_law_length", "_law_lengths_here", "_law_cost"]
theorem sc_law_least : FnScope N_law_least ["_law_counts", "_law_size"] (defScope s_law_least) := ⟨rfl, rfl, rfl, by decide +kernel, rfl, by decide +kernel, by decide +kernel⟩
abbrev s_law_refused_k56 : Stmt := top 21
abbrev N_law_refused_k56 : List Str := ["_law_lengths_here"]
theorem sc_law_refused_k56 : FnScope N_law_refused_k56 ["_law_lengths_here"] (defScope s_law_refused_k56) := ⟨rfl, rfl, rfl, by decide +kernel, rfl, by decide +kernel, by decide +kernel⟩
abbrev s_law_counts_refused : Stmt := top 22
abbrev N_law_counts_refused : List Str := ["_law_counts"]
theorem sc_law_counts_refused : FnScope N_law_counts_refused ["_law_counts"] (defScope s_law_counts_refused) := ⟨rfl, rfl, rfl, by decide +kernel, rfl, by decide +kernel, by decide +kernel⟩
abbrev s_law_k56 : Stmt := top 23
abbrev N_law_k56 : List Str := ["_law_script", "_law_row", "_law_counts", "_law_k", "_law_lengths_here", "_law_used", "_law_number", "_law_rows", "_law_one", "_law_first", "_law_second", "_law_drawn"]
theorem sc_law_k56 : FnScope N_law_k56 ["_law_script"] (defScope s_law_k56) := ⟨rfl, rfl, rfl, by decide +kernel, rfl, by decide +kernel, by decide +kernel⟩
structure Tx (K : PySem.W.Frag) (mg : Str → Option Value) where
  C_TopiaryError : Addr
  C_InvalidCounts : Addr
  C_InvalidLengths : Addr
  f_lengths_of : Addr
  d_lengths_of : FuncData
  f_is_full : Addr
  d_is_full : FuncData
  f_digits_of : Addr
  d_digits_of : FuncData
  f_code_of : Addr
  d_code_of : FuncData
  f_steps_of : Addr
  d_steps_of : FuncData
  f_law_mix : Addr
  d_law_mix : FuncData
  f_law_numbers_k36 : Addr
  d_law_numbers_k36 : FuncData
  f_law_take_k35 : Addr
  d_law_take_k35 : FuncData
  f_law_two : Addr
  d_law_two : FuncData
  f_law_lengths : Addr
  d_law_lengths : FuncData
  f_law_full : Addr
  d_law_full : FuncData
  f_law_bits_k56 : Addr
  d_law_bits_k56 : FuncData
  f_law_code : Addr
  d_law_code : FuncData
  f_law_steps_of : Addr
  d_law_steps_of : FuncData
  f_law_least : Addr
  d_law_least : FuncData
  f_law_refused_k56 : Addr
  d_law_refused_k56 : FuncData
  f_law_counts_refused : Addr
  d_law_counts_refused : FuncData
  f_law_k56 : Addr
  d_law_k56 : FuncData
  g_TopiaryError : mg "TopiaryError" = some (.ref C_TopiaryError)
  z_TopiaryError : XCls0 K C_TopiaryError
  xe_TopiaryError : PySem.W.exmOne K (.ref C_TopiaryError) (.ref C_TopiaryError) = some true
  g_InvalidCounts : mg "InvalidCounts" = some (.ref C_InvalidCounts)
  z_InvalidCounts : XCls0 K C_InvalidCounts
  xe_InvalidCounts : PySem.W.exmOne K (.ref C_InvalidCounts) (.ref C_InvalidCounts) = some true
  g_InvalidLengths : mg "InvalidLengths" = some (.ref C_InvalidLengths)
  z_InvalidLengths : XCls0 K C_InvalidLengths
  xe_InvalidLengths : PySem.W.exmOne K (.ref C_InvalidLengths) (.ref C_InvalidLengths) = some true
  F_lengths_of : FunD K "lengths_of" "lengths_of" (defArgs s_lengths_of) (defBody s_lengths_of) (defScope s_lengths_of) [] [] f_lengths_of d_lengths_of
  m_lengths_of : mg "lengths_of" = some (.ref f_lengths_of)
  k_lengths_of : PySem.W.keepIn K (.ref f_lengths_of) = true
  F_is_full : FunD K "is_full" "is_full" (defArgs s_is_full) (defBody s_is_full) (defScope s_is_full) [] [] f_is_full d_is_full
  m_is_full : mg "is_full" = some (.ref f_is_full)
  k_is_full : PySem.W.keepIn K (.ref f_is_full) = true
  F_digits_of : FunD K "digits_of" "digits_of" (defArgs s_digits_of) (defBody s_digits_of) (defScope s_digits_of) [] [] f_digits_of d_digits_of
  m_digits_of : mg "digits_of" = some (.ref f_digits_of)
  k_digits_of : PySem.W.keepIn K (.ref f_digits_of) = true
  F_code_of : FunD K "code_of" "code_of" (defArgs s_code_of) (defBody s_code_of) (defScope s_code_of) [] [] f_code_of d_code_of
  m_code_of : mg "code_of" = some (.ref f_code_of)
  k_code_of : PySem.W.keepIn K (.ref f_code_of) = true
  F_steps_of : FunD K "steps_of" "steps_of" (defArgs s_steps_of) (defBody s_steps_of) (defScope s_steps_of) [] [] f_steps_of d_steps_of
  m_steps_of : mg "steps_of" = some (.ref f_steps_of)
  k_steps_of : PySem.W.keepIn K (.ref f_steps_of) = true
  F_law_mix : FunD K "_law_mix" "_law_mix" (defArgs s_law_mix) (defBody s_law_mix) (defScope s_law_mix) [] [] f_law_mix d_law_mix
  m_law_mix : mg "_law_mix" = some (.ref f_law_mix)
  k_law_mix : PySem.W.keepIn K (.ref f_law_mix) = true
  F_law_numbers_k36 : FunD K "_law_numbers" "_law_numbers" (defArgs s_law_numbers_k36) (defBody s_law_numbers_k36) (defScope s_law_numbers_k36) [] [] f_law_numbers_k36 d_law_numbers_k36
  m_law_numbers_k36 : mg "_law_numbers" = some (.ref f_law_numbers_k36)
  k_law_numbers_k36 : PySem.W.keepIn K (.ref f_law_numbers_k36) = true
  F_law_take_k35 : FunD K "_law_take" "_law_take" (defArgs s_law_take_k35) (defBody s_law_take_k35) (defScope s_law_take_k35) [] [] f_law_take_k35 d_law_take_k35
  m_law_take_k35 : mg "_law_take" = some (.ref f_law_take_k35)
  k_law_take_k35 : PySem.W.keepIn K (.ref f_law_take_k35) = true
  F_law_two : FunD K "_law_two" "_law_two" (defArgs s_law_two) (defBody s_law_two) (defScope s_law_two) [] [] f_law_two d_law_two
  m_law_two : mg "_law_two" = some (.ref f_law_two)
  k_law_two : PySem.W.keepIn K (.ref f_law_two) = true
  F_law_lengths : FunD K "_law_lengths" "_law_lengths" (defArgs s_law_lengths) (defBody s_law_lengths) (defScope s_law_lengths) [] [] f_law_lengths d_law_lengths
  m_law_lengths : mg "_law_lengths" = some (.ref f_law_lengths)
  k_law_lengths : PySem.W.keepIn K (.ref f_law_lengths) = true
  F_law_full : FunD K "_law_full" "_law_full" (defArgs s_law_full) (defBody s_law_full) (defScope s_law_full) [] [] f_law_full d_law_full
  m_law_full : mg "_law_full" = some (.ref f_law_full)
  k_law_full : PySem.W.keepIn K (.ref f_law_full) = true
  F_law_bits_k56 : FunD K "_law_bits" "_law_bits" (defArgs s_law_bits_k56) (defBody s_law_bits_k56) (defScope s_law_bits_k56) [] [] f_law_bits_k56 d_law_bits_k56
  m_law_bits_k56 : mg "_law_bits" = some (.ref f_law_bits_k56)
  k_law_bits_k56 : PySem.W.keepIn K (.ref f_law_bits_k56) = true
  F_law_code : FunD K "_law_code" "_law_code" (defArgs s_law_code) (defBody s_law_code) (defScope s_law_code) [] [] f_law_code d_law_code
  m_law_code : mg "_law_code" = some (.ref f_law_code)
  k_law_code : PySem.W.keepIn K (.ref f_law_code) = true
  F_law_steps_of : FunD K "_law_steps_of" "_law_steps_of" (defArgs s_law_steps_of) (defBody s_law_steps_of) (defScope s_law_steps_of) [] [] f_law_steps_of d_law_steps_of
  m_law_steps_of : mg "_law_steps_of" = some (.ref f_law_steps_of)
  k_law_steps_of : PySem.W.keepIn K (.ref f_law_steps_of) = true
  F_law_least : FunD K "_law_least" "_law_least" (defArgs s_law_least) (defBody s_law_least) (defScope s_law_least) [] [] f_law_least d_law_least
  m_law_least : mg "_law_least" = some (.ref f_law_least)
  k_law_least : PySem.W.keepIn K (.ref f_law_least) = true
  F_law_refused_k56 : FunD K "_law_refused" "_law_refused" (defArgs s_law_refused_k56) (defBody s_law_refused_k56) (defScope s_law_refused_k56) [] [] f_law_refused_k56 d_law_refused_k56
  m_law_refused_k56 : mg "_law_refused" = some (.ref f_law_refused_k56)
  k_law_refused_k56 : PySem.W.keepIn K (.ref f_law_refused_k56) = true
  F_law_counts_refused : FunD K "_law_counts_refused" "_law_counts_refused" (defArgs s_law_counts_refused) (defBody s_law_counts_refused) (defScope s_law_counts_refused) [] [] f_law_counts_refused d_law_counts_refused
  m_law_counts_refused : mg "_law_counts_refused" = some (.ref f_law_counts_refused)
  k_law_counts_refused : PySem.W.keepIn K (.ref f_law_counts_refused) = true
  F_law_k56 : FunD K "law" "law" (defArgs s_law_k56) (defBody s_law_k56) (defScope s_law_k56) [] [] f_law_k56 d_law_k56
  m_law_k56 : mg "law" = some (.ref f_law_k56)
  k_law_k56 : PySem.W.keepIn K (.ref f_law_k56) = true
  xn_TopiaryError_InvalidCounts : PySem.W.exmOne K (.ref C_TopiaryError) (.ref C_InvalidCounts) = some false
  xn_TopiaryError_InvalidLengths : PySem.W.exmOne K (.ref C_TopiaryError) (.ref C_InvalidLengths) = some false
  b_any : mg "any" = none
  b_enumerate : mg "enumerate" = none
  b_int : mg "int" = none
  b_len : mg "len" = none
  b_list : mg "list" = none
  b_max : mg "max" = none
  b_min : mg "min" = none
  b_range : mg "range" = none
  b_sorted : mg "sorted" = none
  b_sum : mg "sum" = none
abbrev Tx.C {K : PySem.W.Frag} {mg : Str → Option Value} (T : Tx K mg) : Cs := { TopiaryError := T.C_TopiaryError, InvalidRow := default, InvalidPlace := default, Bits := default, InvalidSize := default, InvalidSymbol := default, Wave := default, InvalidStretch := default, NotTurned := default, InvalidText := default, UnknownText := default, InvalidStep := default, InvalidPart := default, Finder := default, TextError := default, TooLarge := default, DocumentReader := default, InvalidRows := default, InvalidDocument := default, Rows := default, Gatherer := default, Builder := default, Kept := default, InvalidQuestion := default, QuestionReader := default, ImproperQuestion := default, Evaluation := default, Meaning := default, FilteredQuestion := default, Comparison := default, InvalidEdit := default, View := default, Layers := default, Search := default, InvalidCounts := T.C_InvalidCounts, InvalidLengths := T.C_InvalidLengths, InvalidBox := default, Loader := default, InvalidLine := default, Desk := default, fn_node_at := default, fn_parent_of := default, fn_children_of := default, fn_depth_of := default, fn_upward_path := default, fn_depth := default, fn_family := default, fn_name := default, fn_node_of := default, fn_parent := default, fn_place := default, fn_row_of := default, fn_subtree := default, fn_text := default, fn_weight := default, fn_upward := default, fn_found_from := default, fn_nodes := default, fn_nodes_kept := default, fn_compare := default, fn_takes := default, fn_places_after := default, fn_edited := default, fn_taken_back := default, gd_SIGNS_writer := default, gd_ESCAPES := default, gd_NUMBERS := default }
section
variable {P : Program} {w : World} {K : PySem.W.Frag} {mg : Str → Option Value} {base : Heap}
theorem Tx.bd_lengths_of (T : Tx K mg) : Binds K T.d_lengths_of ["counts"] [] := T.F_lengths_of.bindsN fun _ _ _ _ _ _ us hl => match us, hl with | [_], _ => rfl
theorem Tx.bd_is_full (T : Tx K mg) : Binds K T.d_is_full ["lengths"] [] := T.F_is_full.bindsN fun _ _ _ _ _ _ us hl => match us, hl with | [_], _ => rfl
theorem Tx.bd_digits_of (T : Tx K mg) : Binds K T.d_digits_of ["number", "size"] [] := T.F_digits_of.bindsN fun _ _ _ _ _ _ us hl => match us, hl with | [_, _], _ => rfl
theorem Tx.bd_code_of (T : Tx K mg) : Binds K T.d_code_of ["lengths"] [] := T.F_code_of.bindsN fun _ _ _ _ _ _ us hl => match us, hl with | [_], _ => rfl
theorem Tx.bd_steps_of (T : Tx K mg) : Binds K T.d_steps_of ["number"] [] := T.F_steps_of.bindsN fun _ _ _ _ _ _ us hl => match us, hl with | [_], _ => rfl
theorem Tx.bd_law_mix (T : Tx K mg) : Binds K T.d_law_mix ["_law_number", "_law_k"] [] := T.F_law_mix.bindsN fun _ _ _ _ _ _ us hl => match us, hl with | [_, _], _ => rfl
theorem Tx.bd_law_numbers_k36 (T : Tx K mg) : Binds K T.d_law_numbers_k36 ["_law_script", "_law_count"] [] := T.F_law_numbers_k36.bindsN fun _ _ _ _ _ _ us hl => match us, hl with | [_, _], _ => rfl
theorem Tx.bd_law_take_k35 (T : Tx K mg) : Binds K T.d_law_take_k35 ["_law_row", "_law_bound"] [] := T.F_law_take_k35.bindsN fun _ _ _ _ _ _ us hl => match us, hl with | [_, _], _ => rfl
theorem Tx.bd_law_two (T : Tx K mg) : Binds K T.d_law_two ["_law_times"] [] := T.F_law_two.bindsN fun _ _ _ _ _ _ us hl => match us, hl with | [_], _ => rfl
theorem Tx.bd_law_lengths (T : Tx K mg) : Binds K T.d_law_lengths ["_law_counts"] [] := T.F_law_lengths.bindsN fun _ _ _ _ _ _ us hl => match us, hl with | [_], _ => rfl
theorem Tx.bd_law_full (T : Tx K mg) : Binds K T.d_law_full ["_law_lengths_here"] [] := T.F_law_full.bindsN fun _ _ _ _ _ _ us hl => match us, hl with | [_], _ => rfl
theorem Tx.bd_law_bits_k56 (T : Tx K mg) : Binds K T.d_law_bits_k56 ["_law_number", "_law_size"] [] := T.F_law_bits_k56.bindsN fun _ _ _ _ _ _ us hl => match us, hl with | [_, _], _ => rfl
theorem Tx.bd_law_code (T : Tx K mg) : Binds K T.d_law_code ["_law_lengths_here"] [] := T.F_law_code.bindsN fun _ _ _ _ _ _ us hl => match us, hl with | [_], _ => rfl
theorem Tx.bd_law_steps_of (T : Tx K mg) : Binds K T.d_law_steps_of ["_law_number"] [] := T.F_law_steps_of.bindsN fun _ _ _ _ _ _ us hl => match us, hl with | [_], _ => rfl
theorem Tx.bd_law_least (T : Tx K mg) : Binds K T.d_law_least ["_law_counts", "_law_size"] [] := T.F_law_least.bindsN fun _ _ _ _ _ _ us hl => match us, hl with | [_, _], _ => rfl
theorem Tx.bd_law_refused_k56 (T : Tx K mg) : Binds K T.d_law_refused_k56 ["_law_lengths_here"] [] := T.F_law_refused_k56.bindsN fun _ _ _ _ _ _ us hl => match us, hl with | [_], _ => rfl
theorem Tx.bd_law_counts_refused (T : Tx K mg) : Binds K T.d_law_counts_refused ["_law_counts"] [] := T.F_law_counts_refused.bindsN fun _ _ _ _ _ _ us hl => match us, hl with | [_], _ => rfl
theorem Tx.bd_law_k56 (T : Tx K mg) : Binds K T.d_law_k56 ["_law_script"] [] := T.F_law_k56.bindsN fun _ _ _ _ _ _ us hl => match us, hl with | [_], _ => rfl
set_option maxHeartbeats 8000000 in
theorem ok_lengths_of (T : Tx K mg) : FnOk P w K mg base (L2.CX P w) 3 T.f_lengths_of T.d_lengths_of ["counts"] (spD K 1 (mkF 8 2 0 (fb_lengths_of T.C))) :=
  fnD_ok (k := 2) T.F_lengths_of sc_lengths_of fun cdv A outer s H E hr => by
    have tk : Takes (cxOf (L2.CX P w) P w K mg base N_lengths_of "lengths_of" (defScope s_lengths_of) T.f_lengths_of cdv A outer s H E) (WofE E) := takes_of rfl rfl rfl rfl
    exact (s_cons (s_if (t_truth (d_callB (cr_any rfl) kAny_ok (by rfl) T.b_any (by decide +kernel) (a_cons (d_lc (k := 1) (keep := false) (own := [("number", 1)]) (by rfl) sc_lengths_of.nd (i_list (d_var (pv 0))) (blkOk_by (own := [("number", 1)]) (N := N_lengths_of) (sc := defScope s_lengths_of) (by decide +kernel)) (fun _ _ _ _ _ => (pg_name (i := 1) sc_lengths_of.nd rfl (by first | exact Or.inl rfl | exact Or.inr rfl))) (tgName_ok 1) (by decide) (fun _ _ _ _ _ => ts_nil) (fun _ _ _ _ _ => (d_cmp op_ltB (OpB.d ltB_ok) (d_var (pv 1)) d_int (nomark _)))) a_nil)) (by intro _; rfl)) (s_one (s_raise0 rfl T.z_InvalidCounts tk rfl T.g_InvalidCounts)) s_nil)
    (s_cons (s_set (i := 2) sc_lengths_of.nd rfl (by first | exact Or.inl rfl | exact Or.inr rfl) (d_callB (cr_sortD hr.units) kSortD_ok (by rfl) T.b_sorted (by decide +kernel) (a_cons (d_lc (k := 1) (keep := false) (own := [("symbol", 3), ("number", 1)]) (by rfl) sc_lengths_of.nd (i_enum rfl T.b_enumerate (a_cons (d_var (pv 0)) a_nil)) (blkOk_by (own := [("symbol", 3), ("number", 1)]) (N := N_lengths_of) (sc := defScope s_lengths_of) (by decide +kernel)) (fun _ _ _ _ _ => (pg_tup rfl (pgs_cons (pg_name (i := 3) sc_lengths_of.nd rfl (by first | exact Or.inl rfl | exact Or.inr rfl)) (pgs_cons (pg_name (i := 1) sc_lengths_of.nd rfl (by first | exact Or.inl rfl | exact Or.inr rfl)) pgs_nil)))) (tgTup_ok rfl (tgs_cons (tgName_ok 3) (tgs_cons (tgName_ok 1) tgs_nil))) (by decide) (fun _ _ _ _ _ => (ts_one (t_cmp op_gt (cmpB_ok _) (d_var (pv 1)) d_int (nomark _)))) (fun _ _ _ _ _ => (d_tup (a_cons (d_var (pv 1)) (a_cons (d_var (pv 3)) (a_cons (d_list (keep := none) (a_cons (d_var (pv 3)) a_nil)) a_nil)))))) a_nil)))
    (s_cons (s_set (i := 4) sc_lengths_of.nd rfl (by first | exact Or.inl rfl | exact Or.inr rfl) (d_rep (k := 0) (d_list (keep := none) (a_cons d_int a_nil)) (d_callB call_lenA kLen_ok (by rfl) T.b_len (by decide +kernel) (a_cons (d_var (pv 0)) a_nil))))
    (s_cons (s_if (t_cmp (op_eqB hr.units) eqB_ok (d_callB call_lenA kLen_ok (by rfl) T.b_len (by decide +kernel) (a_cons (d_var (pv 2)) a_nil)) d_int (nomark _)) (s_one (s_setI d_int (d_var (pv 4)) (d_ix (d_ix (d_var (pv 2)) d_int (fun _ _ => rfl)) d_int (fun _ _ => rfl)))) s_nil)
    (s_cons (s_then (k := 0) (s_while (fuel := (fun _ => 1000000)) (fg := [3, 5, 6, 7]) (passes_of rfl) (t_cmp op_gt (cmpB_ok _) (d_callB call_lenA kLen_ok (by rfl) T.b_len (by decide +kernel) (a_cons (d_var (pv 2)) a_nil)) d_int (nomark _)) (s_cons (s_asg (d_sl (d_var (pv 2)) o_none (o_some d_int)) (pg_lst rfl (pgs_cons (pg_name (i := 5) sc_lengths_of.nd rfl (by first | exact Or.inl rfl | exact Or.inr rfl)) (pgs_cons (pg_name (i := 6) sc_lengths_of.nd rfl (by first | exact Or.inl rfl | exact Or.inr rfl)) pgs_nil))) (tgLst_ok rfl (tgs_cons (tgName_ok 5) (tgs_cons (tgName_ok 6) tgs_nil))))
    (s_cons (s_set (i := 7) sc_lengths_of.nd rfl (by first | exact Or.inl rfl | exact Or.inr rfl) (d_op op_addD addD_ok (d_ix (d_var (pv 5)) d_int (fun _ _ => rfl)) (d_ix (d_var (pv 6)) d_int (fun _ _ => rfl))))
    (s_cons (s_for (fg := [3]) (passes_of rfl) (by rfl) (i_list (d_var (pv 7))) (pg_name (i := 3) sc_lengths_of.nd rfl (by first | exact Or.inl rfl | exact Or.inr rfl)) (tgName_ok 3) (s_one (s_augI d_int (d_var (pv 4)) (d_var (pv 3)) iop_add addI_ok)))
    (s_one (s_set (i := 2) sc_lengths_of.nd rfl (by first | exact Or.inl rfl | exact Or.inr rfl) (d_callB (cr_sortD hr.units) kSortD_ok (by rfl) T.b_sorted (by decide +kernel) (a_cons (d_op op_addD addD_ok (d_sl (d_var (pv 2)) (o_some d_int) o_none) (d_list (keep := none) (a_cons (d_tup (a_cons (d_op op_addD addD_ok (d_ix (d_var (pv 5)) d_int (fun _ _ => rfl)) (d_ix (d_var (pv 6)) d_int (fun _ _ => rfl))) (a_cons (d_callB (call_min2 rfl) kMin2_ok (by rfl) T.b_min (by decide +kernel) (a_cons (d_ix (d_var (pv 5)) d_int (fun _ _ => rfl)) (a_cons (d_ix (d_var (pv 6)) d_int (fun _ _ => rfl)) a_nil))) (a_cons (d_var (pv 7)) a_nil)))) a_nil))) a_nil)))))))))
    (s_one (s_ret (d_var (pv 4)))))))))
set_option maxHeartbeats 8000000 in
theorem ok_is_full (T : Tx K mg) : FnOk P w K mg base (L2.CX P w) 1 T.f_is_full T.d_is_full ["lengths"] (spD K 1 (mkF 4 1 0 (fb_is_full T.C))) :=
  fnD_ok (k := 0) T.F_is_full sc_is_full fun cdv A outer s H E hr => by
    have tk : Takes (cxOf (L2.CX P w) P w K mg base N_is_full "is_full" (defScope s_is_full) T.f_is_full cdv A outer s H E) (WofE E) := takes_of rfl rfl rfl rfl
    exact (s_cons (s_setLc (k := 0) (keep := false) (own := [("length", 2)]) (i := 1) (by rfl) sc_is_full.nd rfl rfl (sw_true rfl rfl rfl (by decide +kernel)) (i_list (d_var (pv 0))) (blkOk_by (own := [("length", 2)]) (N := N_is_full) (sc := defScope s_is_full) (by decide +kernel)) (fun _ _ _ _ _ => (pg_name (i := 2) sc_is_full.nd rfl (by first | exact Or.inl rfl | exact Or.inr rfl))) (tgName_ok 2) (by decide) (fun _ _ _ _ _ => (ts_one (t_cmp (op_neB hr.units) neB_ok (d_var (pv 2)) d_int (nomark _)))) (fun _ _ _ _ _ => (d_var (pv 2))))
    (s_cons (s_if (t_truth (d_callB (cr_any rfl) kAny_ok (by rfl) T.b_any (by decide +kernel) (a_cons (d_lc (k := 0) (keep := false) (own := [("length", 2)]) (by rfl) sc_is_full.nd (i_list (d_var (pv 1))) (blkOk_by (own := [("length", 2)]) (N := N_is_full) (sc := defScope s_is_full) (by decide +kernel)) (fun _ _ _ _ _ => (pg_name (i := 2) sc_is_full.nd rfl (by first | exact Or.inl rfl | exact Or.inr rfl))) (tgName_ok 2) (by decide) (fun _ _ _ _ _ => ts_nil) (fun _ _ _ _ _ => (d_cmp op_ltB (OpB.d ltB_ok) (d_var (pv 2)) d_int (nomark _)))) a_nil)) (by intro _; rfl)) (s_one (s_ret d_bl)) s_nil)
    (s_cons (s_if (t_cmp op_le (cmpB_ok _) (d_callB call_lenA kLen_ok (by rfl) T.b_len (by decide +kernel) (a_cons (d_var (pv 1)) a_nil)) d_int (nomark _)) (s_one (s_ret (d_cmp (op_inT hr.units) (OpB.d inT_ok) (d_var (pv 1)) (d_tup (a_cons (d_list (keep := none) a_nil) (a_cons (d_list (keep := none) (a_cons d_int a_nil)) a_nil))) (by rfl)))) s_nil)
    (s_cons (s_set (i := 3) sc_is_full.nd rfl (by first | exact Or.inl rfl | exact Or.inr rfl) (d_callB (cr_max rfl) kMax_ok (by rfl) T.b_max (by decide +kernel) (a_cons (d_var (pv 1)) a_nil)))
    (s_cons (s_if (t_cmp op_ge (cmpB_ok _) (d_var (pv 3)) (d_callB call_lenA kLen_ok (by rfl) T.b_len (by decide +kernel) (a_cons (d_var (pv 1)) a_nil)) (nomark _)) (s_one (s_ret d_bl)) s_nil)
    (s_one (s_ret (d_cmp (op_eqB hr.units) (OpB.d eqB_ok) (d_callB (cr_sum rfl) kSum_ok (by rfl) T.b_sum (by decide +kernel) (a_cons (d_lc (k := 0) (keep := false) (own := [("length", 2)]) (by rfl) sc_is_full.nd (i_list (d_var (pv 1))) (blkOk_by (own := [("length", 2)]) (N := N_is_full) (sc := defScope s_is_full) (by decide +kernel)) (fun _ _ _ _ _ => (pg_name (i := 2) sc_is_full.nd rfl (by first | exact Or.inl rfl | exact Or.inr rfl))) (tgName_ok 2) (by decide) (fun _ _ _ _ _ => ts_nil) (fun _ _ _ _ _ => (d_op op_shl shlD_ok d_int (d_op op_sub subD_ok (d_var (pv 3)) (d_var (pv 2)))))) a_nil)) (d_op op_shl shlD_ok d_int (d_var (pv 3))) (nomark _)))))))))
set_option maxHeartbeats 8000000 in
theorem ok_digits_of (T : Tx K mg) : FnOk P w K mg base (L2.CX P w) 1 T.f_digits_of T.d_digits_of ["number", "size"] (spD K 2 (mkF 3 1 0 (fb_digits_of T.C))) :=
  fnD_ok (k := 0) T.F_digits_of sc_digits_of fun cdv A outer s H E hr => by
    have tk : Takes (cxOf (L2.CX P w) P w K mg base N_digits_of "digits_of" (defScope s_digits_of) T.f_digits_of cdv A outer s H E) (WofE E) := takes_of rfl rfl rfl rfl
    exact (s_one (s_ret (d_lc (k := 0) (keep := false) (own := [("place", 2)]) (by rfl) sc_digits_of.nd (i_range1 rfl T.b_range (a_cons (d_var (pv 1)) a_nil)) (blkOk_by (own := [("place", 2)]) (N := N_digits_of) (sc := defScope s_digits_of) (by decide +kernel)) (fun _ _ _ _ _ => (pg_name (i := 2) sc_digits_of.nd rfl (by first | exact Or.inl rfl | exact Or.inr rfl))) (tgName_ok 2) (by decide) (fun _ _ _ _ _ => ts_nil) (fun _ _ _ _ _ => (d_op op_and andD_ok (d_op op_shr shrD_ok (d_var (pv 0)) (d_op op_sub subD_ok (d_op op_sub subD_ok (d_var (pv 1)) d_int) (d_var (pv 2)))) d_int)))))
set_option maxHeartbeats 8000000 in
theorem ok_code_of (T : Tx K mg) (G_digits_of : FnOk P w K mg base (L2.CX P w) 1 T.f_digits_of T.d_digits_of ["number", "size"] (spD K 2 (F_digits_of T.C))) (G_is_full : FnOk P w K mg base (L2.CX P w) 1 T.f_is_full T.d_is_full ["lengths"] (spD K 1 (F_is_full T.C))) : FnOk P w K mg base (L2.CX P w) 3 T.f_code_of T.d_code_of ["lengths"] (spD K 1 (mkF 7 2 0 (fb_code_of T.C))) :=
  fnD_ok (k := 2) T.F_code_of sc_code_of fun cdv A outer s H E hr => by
    have tk : Takes (cxOf (L2.CX P w) P w K mg base N_code_of "code_of" (defScope s_code_of) T.f_code_of cdv A outer s H E) (WofE E) := takes_of rfl rfl rfl rfl
    exact (s_cons (s_if (t_not (t_truth (d_call (L := []) (Ln := []) (dvs := []) tk G_is_full (hr.mono (by decide)) (by rfl) T.m_is_full T.k_is_full T.bd_is_full .nil rfl (a_cons (d_var (pv 0)) a_nil)) (by intro _; rfl))) (s_one (s_raise0 rfl T.z_InvalidLengths tk rfl T.g_InvalidLengths)) s_nil)
    (s_cons (s_setLc (k := 0) (keep := true) (own := [("_", 2)]) (i := 1) (by rfl) sc_code_of.nd rfl rfl (sw_true rfl rfl rfl (by decide +kernel)) (i_list (d_var (pv 0))) (blkOk_by (own := [("_", 2)]) (N := N_code_of) (sc := defScope s_code_of) (by decide +kernel)) (fun _ _ _ _ _ => (pg_name (i := 2) sc_code_of.nd rfl (by first | exact Or.inl rfl | exact Or.inr rfl))) (tgName_ok 2) (by decide) (fun _ _ _ _ _ => ts_nil) (fun _ _ _ _ _ => (d_list (keep := none) a_nil)))
    (s_cons (s_set (i := 3) sc_code_of.nd rfl (by first | exact Or.inl rfl | exact Or.inr rfl) d_int)
    (s_cons (s_set (i := 4) sc_code_of.nd rfl (by first | exact Or.inl rfl | exact Or.inr rfl) d_int)
    (s_cons (s_then (k := 0) (s_for (fg := [5, 6]) (passes_of rfl) (by rfl) (i_list (d_callB (cr_sortD hr.units) kSortD_ok (by rfl) T.b_sorted (by decide +kernel) (a_cons (d_lc (k := 1) (keep := false) (own := [("symbol", 6), ("length", 5)]) (by rfl) sc_code_of.nd (i_enum rfl T.b_enumerate (a_cons (d_var (pv 0)) a_nil)) (blkOk_by (own := [("symbol", 6), ("length", 5)]) (N := N_code_of) (sc := defScope s_code_of) (by decide +kernel)) (fun _ _ _ _ _ => (pg_tup rfl (pgs_cons (pg_name (i := 6) sc_code_of.nd rfl (by first | exact Or.inl rfl | exact Or.inr rfl)) (pgs_cons (pg_name (i := 5) sc_code_of.nd rfl (by first | exact Or.inl rfl | exact Or.inr rfl)) pgs_nil)))) (tgTup_ok rfl (tgs_cons (tgName_ok 6) (tgs_cons (tgName_ok 5) tgs_nil))) (by decide) (fun _ _ _ _ _ => (ts_one (t_cmp op_gt (cmpB_ok _) (d_var (pv 5)) d_int (nomark _)))) (fun _ _ _ _ _ => (d_tup (a_cons (d_var (pv 5)) (a_cons (d_var (pv 6)) a_nil))))) a_nil))) (pg_tup rfl (pgs_cons (pg_name (i := 5) sc_code_of.nd rfl (by first | exact Or.inl rfl | exact Or.inr rfl)) (pgs_cons (pg_name (i := 6) sc_code_of.nd rfl (by first | exact Or.inl rfl | exact Or.inr rfl)) pgs_nil))) (tgTup_ok rfl (tgs_cons (tgName_ok 5) (tgs_cons (tgName_ok 6) tgs_nil))) (s_cons (s_set (i := 3) sc_code_of.nd rfl (by first | exact Or.inl rfl | exact Or.inr rfl) (d_op op_shl shlD_ok (d_var (pv 3)) (d_op op_sub subD_ok (d_var (pv 5)) (d_var (pv 4)))))
    (s_cons (s_set (i := 4) sc_code_of.nd rfl (by first | exact Or.inl rfl | exact Or.inr rfl) (d_var (pv 5)))
    (s_cons (s_setI (d_call (L := []) (Ln := []) (dvs := []) tk G_digits_of (hr.mono (by decide)) (by rfl) T.m_digits_of T.k_digits_of T.bd_digits_of .nil rfl (a_cons (d_var (pv 3)) (a_cons (d_var (pv 5)) a_nil))) (d_var (pv 1)) (d_var (pv 6)))
    (s_one (s_aug (i := 3) sc_code_of.nd rfl (by first | exact Or.inl rfl | exact Or.inr rfl) d_int iop_add addI_ok)))))))
    (s_one (s_ret (d_var (pv 1)))))))))
set_option maxHeartbeats 8000000 in
theorem ok_steps_of (T : Tx K mg) (G_digits_of : FnOk P w K mg base (L2.CX P w) 1 T.f_digits_of T.d_digits_of ["number", "size"] (spD K 2 (F_digits_of T.C))) : FnOk P w K mg base (L2.CX P w) 2 T.f_steps_of T.d_steps_of ["number"] (spD K 1 (mkF 2 0 0 (fb_steps_of T.C))) :=
  fnD_ok (k := 1) T.F_steps_of sc_steps_of fun cdv A outer s H E hr => by
    have tk : Takes (cxOf (L2.CX P w) P w K mg base N_steps_of "steps_of" (defScope s_steps_of) T.f_steps_of cdv A outer s H E) (WofE E) := takes_of rfl rfl rfl rfl
    exact (s_cons (s_set (i := 1) sc_steps_of.nd rfl (by first | exact Or.inl rfl | exact Or.inr rfl) (d_bits (d_op op_addD addD_ok (d_var (pv 0)) d_int)))
    (s_one (s_ret (d_op op_addD addD_ok (d_op op_mulD mulD_ok (d_list (keep := none) (a_cons d_int a_nil)) (d_op op_sub subD_ok (d_var (pv 1)) d_int)) (d_call (L := []) (Ln := []) (dvs := []) tk G_digits_of (hr.mono (by decide)) (by rfl) T.m_digits_of T.k_digits_of T.bd_digits_of .nil rfl (a_cons (d_op op_addD addD_ok (d_var (pv 0)) d_int) (a_cons (d_var (pv 1)) a_nil)))))))
set_option maxHeartbeats 8000000 in
theorem ok_law_mix (T : Tx K mg) : FnOk P w K mg base (L2.CX P w) 1 T.f_law_mix T.d_law_mix ["_law_number", "_law_k"] (spD K 2 (mkF 2 0 0 (fb_law_mix T.C))) :=
  fnD_ok (k := 0) T.F_law_mix sc_law_mix fun cdv A outer s H E hr => by
    have tk : Takes (cxOf (L2.CX P w) P w K mg base N_law_mix "_law_mix" (defScope s_law_mix) T.f_law_mix cdv A outer s H E) (WofE E) := takes_of rfl rfl rfl rfl
    exact (s_one (s_ret (d_op op_modN modD_ok (d_op op_mulD mulD_ok (d_op op_modN modD_ok (d_callT call_int1 kInt_ok (by rfl) T.b_int (by decide +kernel) (a_cons (d_op op_mulD mulD_ok (d_op op_addD addD_ok (d_op op_addD addD_ok (d_op op_modN modD_ok (d_callT call_int1 kInt_ok (by rfl) T.b_int (by decide +kernel) (a_cons (d_var (pv 0)) a_nil)) d_int) (d_op op_mulD mulD_ok d_int (d_var (pv 1)))) d_int) d_int) a_nil)) d_int) d_int) d_int)))
set_option maxHeartbeats 8000000 in
theorem ok_law_numbers_k36 (T : Tx K mg) (G_law_mix : FnOk P w K mg base (L2.CX P w) 1 T.f_law_mix T.d_law_mix ["_law_number", "_law_k"] (spD K 2 (F_law_mix T.C))) : FnOk P w K mg base (L2.CX P w) 2 T.f_law_numbers_k36 T.d_law_numbers_k36 ["_law_script", "_law_count"] (spD K 2 (mkF 7 1 1 (fb_law_numbers_k36 T.C))) :=
  fnD_ok (k := 1) T.F_law_numbers_k36 sc_law_numbers_k36 fun cdv A outer s H E hr => by
    have tk : Takes (cxOf (L2.CX P w) P w K mg base N_law_numbers_k36 "_law_numbers" (defScope s_law_numbers_k36) T.f_law_numbers_k36 cdv A outer s H E) (WofE E) := takes_of rfl rfl rfl rfl
    exact (s_cons (s_set (i := 2) sc_law_numbers_k36.nd rfl (by first | exact Or.inl rfl | exact Or.inr rfl) (d_list (keep := some 0) a_nil))
    (s_cons (s_set (i := 3) sc_law_numbers_k36.nd rfl (by first | exact Or.inl rfl | exact Or.inr rfl) d_int)
    (s_cons (s_for (fg := [4, 5, 6]) (passes_of rfl) (by rfl) (i_list (d_sl (d_var (pv 0)) o_none (o_some d_int))) (pg_name (i := 4) sc_law_numbers_k36.nd rfl (by first | exact Or.inl rfl | exact Or.inr rfl)) (tgName_ok 4) (s_cons (s_set (i := 3) sc_law_numbers_k36.nd rfl (by first | exact Or.inl rfl | exact Or.inr rfl) (d_op op_addD addD_ok (d_var (pv 3)) (d_var (pv 4))))
    (s_one (s_if (t_cmp op_ge (cmpB_ok _) (d_var (pv 4)) d_int (nomark _)) (s_cons (s_set (i := 5) sc_law_numbers_k36.nd rfl (by first | exact Or.inl rfl | exact Or.inr rfl) (d_var (pv 4)))
    (s_cons (s_for (fg := [6]) (passes_of rfl) (by rfl) (i_range1 rfl T.b_range (a_cons d_int a_nil)) (pg_name (i := 6) sc_law_numbers_k36.nd rfl (by first | exact Or.inl rfl | exact Or.inr rfl)) (tgName_ok 6) (s_cons (s_expr (d_meth PySem.F.plainAttrs_list PySem.F.slot_list_append PySem.F.type_list_append mt_append isLst_ok kAppend_ok (d_var (pv 2)) (a_cons (d_op op_modN modD_ok (d_callT call_int1 kInt_ok (by rfl) T.b_int (by decide +kernel) (a_cons (d_var (pv 5)) a_nil)) d_int) a_nil)))
    (s_cons (s_set (i := 5) sc_law_numbers_k36.nd rfl (by first | exact Or.inl rfl | exact Or.inr rfl) (d_op op_fdivN fdivD_ok (d_var (pv 5)) d_int))
    (s_one (s_if (t_cmp (op_eqB hr.units) eqB_ok (d_var (pv 5)) d_int (nomark _)) (s_one s_break) s_nil))))) s_nil)) (s_one (s_expr (d_meth PySem.F.plainAttrs_list PySem.F.slot_list_append PySem.F.type_list_append mt_append isLst_ok kAppend_ok (d_var (pv 2)) (a_cons (d_call (L := []) (Ln := []) (dvs := []) tk G_law_mix (hr.mono (by decide)) (by rfl) T.m_law_mix T.k_law_mix T.bd_law_mix .nil rfl (a_cons (d_call (L := []) (Ln := []) (dvs := []) tk G_law_mix (hr.mono (by decide)) (by rfl) T.m_law_mix T.k_law_mix T.bd_law_mix .nil rfl (a_cons (d_var (pv 4)) (a_cons d_int a_nil))) (a_cons d_int a_nil))) a_nil))))))))
    (s_cons (s_for (fg := [6]) (passes_of rfl) (by rfl) (i_range1 rfl T.b_range (a_cons (d_var (pv 1)) a_nil)) (pg_name (i := 6) sc_law_numbers_k36.nd rfl (by first | exact Or.inl rfl | exact Or.inr rfl)) (tgName_ok 6) (s_one (s_expr (d_meth PySem.F.plainAttrs_list PySem.F.slot_list_append PySem.F.type_list_append mt_append isLst_ok kAppend_ok (d_var (pv 2)) (a_cons (d_call (L := []) (Ln := []) (dvs := []) tk G_law_mix (hr.mono (by decide)) (by rfl) T.m_law_mix T.k_law_mix T.bd_law_mix .nil rfl (a_cons (d_call (L := []) (Ln := []) (dvs := []) tk G_law_mix (hr.mono (by decide)) (by rfl) T.m_law_mix T.k_law_mix T.bd_law_mix .nil rfl (a_cons (d_op op_addD addD_ok (d_var (pv 3)) (d_op op_mulD mulD_ok d_int (d_var (pv 6)))) (a_cons (d_op op_addD addD_ok d_int (d_var (pv 6))) a_nil))) (a_cons d_int a_nil))) a_nil)))))
    (s_cons (s_expr (d_meth0 PySem.F.plainAttrs_list PySem.F.slot_list_reverse PySem.F.type_list_reverse mt_reverse isLst_ok kReverse_ok (d_var (pv 2))))
    (s_one (s_ret (d_var (pv 2)))))))))
set_option maxHeartbeats 8000000 in
theorem ok_law_take_k35 (T : Tx K mg) : FnOk P w K mg base (L2.CX P w) 1 T.f_law_take_k35 T.d_law_take_k35 ["_law_row", "_law_bound"] (spD K 2 (mkF 2 1 1 (fb_law_take_k35 T.C))) :=
  fnD_ok (k := 0) T.F_law_take_k35 sc_law_take_k35 fun cdv A outer s H E hr => by
    have tk : Takes (cxOf (L2.CX P w) P w K mg base N_law_take_k35 "_law_take" (defScope s_law_take_k35) T.f_law_take_k35 cdv A outer s H E) (WofE E) := takes_of rfl rfl rfl rfl
    exact (s_cons (s_if (t_not (t_truth (d_var (pv 0)) (by intro _; rfl))) (s_one (s_ret d_int)) s_nil)
    (s_one (s_ret (d_op op_modN modD_ok (d_callT call_int1 kInt_ok (by rfl) T.b_int (by decide +kernel) (a_cons (d_meth0 PySem.F.plainAttrs_list PySem.F.slot_list_pop PySem.F.type_list_pop mt_pop isLst_ok kPop_ok (d_var (pv 0))) a_nil)) (d_var (pv 1))))))
set_option maxHeartbeats 8000000 in
theorem ok_law_two (T : Tx K mg) : FnOk P w K mg base (L2.CX P w) 1 T.f_law_two T.d_law_two ["_law_times"] (spD K 1 (mkF 3 0 0 (fb_law_two T.C))) :=
  fnD_ok (k := 0) T.F_law_two sc_law_two fun cdv A outer s H E hr => by
    have tk : Takes (cxOf (L2.CX P w) P w K mg base N_law_two "_law_two" (defScope s_law_two) T.f_law_two cdv A outer s H E) (WofE E) := takes_of rfl rfl rfl rfl
    exact (s_cons (s_set (i := 1) sc_law_two.nd rfl (by first | exact Or.inl rfl | exact Or.inr rfl) d_int)
    (s_cons (s_for (fg := [2]) (passes_of rfl) (by rfl) (i_range1 rfl T.b_range (a_cons (d_var (pv 0)) a_nil)) (pg_name (i := 2) sc_law_two.nd rfl (by first | exact Or.inl rfl | exact Or.inr rfl)) (tgName_ok 2) (s_one (s_set (i := 1) sc_law_two.nd rfl (by first | exact Or.inl rfl | exact Or.inr rfl) (d_op op_mulD mulD_ok (d_var (pv 1)) d_int))))
    (s_one (s_ret (d_var (pv 1))))))
set_option maxHeartbeats 8000000 in
theorem ok_law_lengths (T : Tx K mg) : FnOk P w K mg base (L2.CX P w) 1 T.f_law_lengths T.d_law_lengths ["_law_counts"] (spD K 1 (mkF 8 2 0 (fb_law_lengths T.C))) :=
  fnD_ok (k := 0) T.F_law_lengths sc_law_lengths fun cdv A outer s H E hr => by
    have tk : Takes (cxOf (L2.CX P w) P w K mg base N_law_lengths "_law_lengths" (defScope s_law_lengths) T.f_law_lengths cdv A outer s H E) (WofE E) := takes_of rfl rfl rfl rfl
    exact (s_cons (s_setLc (k := 1) (keep := false) (own := [("_law_k", 2)]) (i := 1) (by rfl) sc_law_lengths.nd rfl rfl (sw_true rfl rfl rfl (by decide +kernel)) (i_range1 rfl T.b_range (a_cons (d_callB call_lenA kLen_ok (by rfl) T.b_len (by decide +kernel) (a_cons (d_var (pv 0)) a_nil)) a_nil)) (blkOk_by (own := [("_law_k", 2)]) (N := N_law_lengths) (sc := defScope s_law_lengths) (by decide +kernel)) (fun _ _ _ _ _ => (pg_name (i := 2) sc_law_lengths.nd rfl (by first | exact Or.inl rfl | exact Or.inr rfl))) (tgName_ok 2) (by decide) (fun _ _ _ _ _ => (ts_one (t_cmp op_gt (cmpB_ok _) (d_ix (d_var (pv 0)) (d_var (pv 2)) (fun _ _ => rfl)) d_int (nomark _)))) (fun _ _ _ _ _ => (d_tup (a_cons (d_ix (d_var (pv 0)) (d_var (pv 2)) (fun _ _ => rfl)) (a_cons (d_var (pv 2)) (a_cons (d_list (keep := none) (a_cons (d_var (pv 2)) a_nil)) a_nil))))))
    (s_cons (s_set (i := 3) sc_law_lengths.nd rfl (by first | exact Or.inl rfl | exact Or.inr rfl) (d_rep (k := 0) (d_list (keep := none) (a_cons d_int a_nil)) (d_callB call_lenA kLen_ok (by rfl) T.b_len (by decide +kernel) (a_cons (d_var (pv 0)) a_nil))))
    (s_cons (s_if (t_cmp (op_eqB hr.units) eqB_ok (d_callB call_lenA kLen_ok (by rfl) T.b_len (by decide +kernel) (a_cons (d_var (pv 1)) a_nil)) d_int (nomark _)) (s_one (s_setI d_int (d_var (pv 3)) (d_ix (d_ix (d_var (pv 1)) d_int (fun _ _ => rfl)) d_int (fun _ _ => rfl)))) s_nil)
    (s_cons (s_then (k := 0) (s_for (fg := [4, 5, 6, 7]) (passes_of rfl) (by rfl) (i_range1 rfl T.b_range (a_cons (d_callB call_lenA kLen_ok (by rfl) T.b_len (by decide +kernel) (a_cons (d_var (pv 0)) a_nil)) a_nil)) (pg_name (i := 4) sc_law_lengths.nd rfl (by first | exact Or.inl rfl | exact Or.inr rfl)) (tgName_ok 4) (s_cons (s_if (t_cmp op_ltB ltB_ok (d_callB call_lenA kLen_ok (by rfl) T.b_len (by decide +kernel) (a_cons (d_var (pv 1)) a_nil)) d_int (nomark _)) (s_one s_break) s_nil)
    (s_cons (s_set (i := 1) sc_law_lengths.nd rfl (by first | exact Or.inl rfl | exact Or.inr rfl) (d_callB (cr_sortD hr.units) kSortD_ok (by rfl) T.b_sorted (by decide +kernel) (a_cons (d_var (pv 1)) a_nil)))
    (s_cons (s_par (i := 5) (j := 6) rfl sc_law_lengths.nd rfl rfl (by decide) rfl rfl rfl (a_cons (d_ix (d_var (pv 1)) d_int (fun _ _ => rfl)) (a_cons (d_ix (d_var (pv 1)) d_int (fun _ _ => rfl)) a_nil)))
    (s_cons (s_for (fg := [7]) (passes_of rfl) (by rfl) (i_list (d_op op_addD addD_ok (d_ix (d_var (pv 5)) d_int (fun _ _ => rfl)) (d_ix (d_var (pv 6)) d_int (fun _ _ => rfl)))) (pg_name (i := 7) sc_law_lengths.nd rfl (by first | exact Or.inl rfl | exact Or.inr rfl)) (tgName_ok 7) (s_one (s_setI (d_op op_addD addD_ok (d_ix (d_var (pv 3)) (d_var (pv 7)) (fun _ _ => rfl)) d_int) (d_var (pv 3)) (d_var (pv 7)))))
    (s_one (s_set (i := 1) sc_law_lengths.nd rfl (by first | exact Or.inl rfl | exact Or.inr rfl) (d_op op_addD addD_ok (d_sl (d_var (pv 1)) (o_some d_int) o_none) (d_list (keep := none) (a_cons (d_tup (a_cons (d_op op_addD addD_ok (d_ix (d_var (pv 5)) d_int (fun _ _ => rfl)) (d_ix (d_var (pv 6)) d_int (fun _ _ => rfl))) (a_cons (d_callB (call_min2 rfl) kMin2_ok (by rfl) T.b_min (by decide +kernel) (a_cons (d_ix (d_var (pv 5)) d_int (fun _ _ => rfl)) (a_cons (d_ix (d_var (pv 6)) d_int (fun _ _ => rfl)) a_nil))) (a_cons (d_op op_addD addD_ok (d_ix (d_var (pv 5)) d_int (fun _ _ => rfl)) (d_ix (d_var (pv 6)) d_int (fun _ _ => rfl))) a_nil)))) a_nil)))))))))))
    (s_one (s_ret (d_var (pv 3))))))))
set_option maxHeartbeats 8000000 in
theorem ok_law_full (T : Tx K mg) (G_law_two : FnOk P w K mg base (L2.CX P w) 1 T.f_law_two T.d_law_two ["_law_times"] (spD K 1 (F_law_two T.C))) : FnOk P w K mg base (L2.CX P w) 2 T.f_law_full T.d_law_full ["_law_lengths_here"] (spD K 1 (mkF 3 1 0 (fb_law_full T.C))) :=
  fnD_ok (k := 1) T.F_law_full sc_law_full fun cdv A outer s H E hr => by
    have tk : Takes (cxOf (L2.CX P w) P w K mg base N_law_full "_law_full" (defScope s_law_full) T.f_law_full cdv A outer s H E) (WofE E) := takes_of rfl rfl rfl rfl
    exact (s_cons (s_setLc (k := 0) (keep := false) (own := [("_law_length", 2)]) (i := 1) (by rfl) sc_law_full.nd rfl rfl (sw_true rfl rfl rfl (by decide +kernel)) (i_list (d_var (pv 0))) (blkOk_by (own := [("_law_length", 2)]) (N := N_law_full) (sc := defScope s_law_full) (by decide +kernel)) (fun _ _ _ _ _ => (pg_name (i := 2) sc_law_full.nd rfl (by first | exact Or.inl rfl | exact Or.inr rfl))) (tgName_ok 2) (by decide) (fun _ _ _ _ _ => (ts_one (t_cmp (op_neB hr.units) neB_ok (d_var (pv 2)) d_int (nomark _)))) (fun _ _ _ _ _ => (d_var (pv 2))))
    (s_cons (s_if (PW.pt (w_or (t_cmp (op_eqB hr.units) eqB_ok (d_var (pv 1)) (d_list (keep := none) a_nil) (nomark _)) (w_or1 (t_cmp (op_eqB hr.units) eqB_ok (d_var (pv 1)) (d_list (keep := none) (a_cons d_int a_nil)) (nomark _))))) (s_one (s_ret d_bl)) s_nil)
    (s_cons (s_if (PW.pt (w_or (t_cmp (op_eqB hr.units) eqB_ok (d_callB call_lenA kLen_ok (by rfl) T.b_len (by decide +kernel) (a_cons (d_var (pv 1)) a_nil)) d_int (nomark _)) (w_or1 (t_truth (d_callB (cr_any rfl) kAny_ok (by rfl) T.b_any (by decide +kernel) (a_cons (d_lc (k := 0) (keep := false) (own := [("_law_length", 2)]) (by rfl) sc_law_full.nd (i_list (d_var (pv 1))) (blkOk_by (own := [("_law_length", 2)]) (N := N_law_full) (sc := defScope s_law_full) (by decide +kernel)) (fun _ _ _ _ _ => (pg_name (i := 2) sc_law_full.nd rfl (by first | exact Or.inl rfl | exact Or.inr rfl))) (tgName_ok 2) (by decide) (fun _ _ _ _ _ => ts_nil) (fun _ _ _ _ _ => (d_or (d_cmp op_ltB (OpB.d ltB_ok) (d_var (pv 2)) d_int (nomark _)) (d_one (d_cmp op_gt (OpB.d (cmpB_ok _)) (d_var (pv 2)) d_int (nomark _)))))) a_nil)) (by intro _; rfl))))) (s_one (s_ret d_bl)) s_nil)
    (s_one (s_ret (d_cmp (op_eqB hr.units) (OpB.d eqB_ok) (d_callB (cr_sum rfl) kSum_ok (by rfl) T.b_sum (by decide +kernel) (a_cons (d_lc (k := 0) (keep := false) (own := [("_law_length", 2)]) (by rfl) sc_law_full.nd (i_list (d_var (pv 1))) (blkOk_by (own := [("_law_length", 2)]) (N := N_law_full) (sc := defScope s_law_full) (by decide +kernel)) (fun _ _ _ _ _ => (pg_name (i := 2) sc_law_full.nd rfl (by first | exact Or.inl rfl | exact Or.inr rfl))) (tgName_ok 2) (by decide) (fun _ _ _ _ _ => ts_nil) (fun _ _ _ _ _ => (d_call (L := []) (Ln := []) (dvs := []) takes0 G_law_two (hr.mono (by decide)) (by rfl) T.m_law_two T.k_law_two T.bd_law_two .nil rfl (a_cons (d_op op_sub subD_ok d_int (d_var (pv 2))) a_nil)))) a_nil)) (d_call (L := []) (Ln := []) (dvs := []) tk G_law_two (hr.mono (by decide)) (by rfl) T.m_law_two T.k_law_two T.bd_law_two .nil rfl (a_cons d_int a_nil)) (nomark _)))))))
set_option maxHeartbeats 8000000 in
theorem ok_law_bits_k56 (T : Tx K mg) (G_law_two : FnOk P w K mg base (L2.CX P w) 1 T.f_law_two T.d_law_two ["_law_times"] (spD K 1 (F_law_two T.C))) : FnOk P w K mg base (L2.CX P w) 2 T.f_law_bits_k56 T.d_law_bits_k56 ["_law_number", "_law_size"] (spD K 2 (mkF 4 1 0 (fb_law_bits_k56 T.C))) :=
  fnD_ok (k := 1) T.F_law_bits_k56 sc_law_bits_k56 fun cdv A outer s H E hr => by
    have tk : Takes (cxOf (L2.CX P w) P w K mg base N_law_bits_k56 "_law_bits" (defScope s_law_bits_k56) T.f_law_bits_k56 cdv A outer s H E) (WofE E) := takes_of rfl rfl rfl rfl
    exact (s_cons (s_set (i := 2) sc_law_bits_k56.nd rfl (by first | exact Or.inl rfl | exact Or.inr rfl) (d_list (keep := some 0) a_nil))
    (s_cons (s_then (k := 0) (s_for (fg := [3]) (passes_of rfl) (by rfl) (i_range1 rfl T.b_range (a_cons (d_var (pv 1)) a_nil)) (pg_name (i := 3) sc_law_bits_k56.nd rfl (by first | exact Or.inl rfl | exact Or.inr rfl)) (tgName_ok 3) (s_one (s_expr (d_meth PySem.F.plainAttrs_list PySem.F.slot_list_append PySem.F.type_list_append mt_append isLst_ok kAppend_ok (d_var (pv 2)) (a_cons (d_op op_modN modD_ok (d_callT call_int1 kInt_ok (by rfl) T.b_int (by decide +kernel) (a_cons (d_op op_fdivN fdivD_ok (d_var (pv 0)) (d_call (L := []) (Ln := []) (dvs := []) tk G_law_two (hr.mono (by decide)) (by rfl) T.m_law_two T.k_law_two T.bd_law_two .nil rfl (a_cons (d_op op_sub subD_ok (d_op op_sub subD_ok (d_var (pv 1)) d_int) (d_var (pv 3))) a_nil))) a_nil)) d_int) a_nil))))))
    (s_one (s_ret (d_var (pv 2))))))
set_option maxHeartbeats 8000000 in
theorem ok_law_code (T : Tx K mg) (G_law_bits_k56 : FnOk P w K mg base (L2.CX P w) 2 T.f_law_bits_k56 T.d_law_bits_k56 ["_law_number", "_law_size"] (spD K 2 (F_law_bits_k56 T.C))) (G_law_two : FnOk P w K mg base (L2.CX P w) 1 T.f_law_two T.d_law_two ["_law_times"] (spD K 1 (F_law_two T.C))) : FnOk P w K mg base (L2.CX P w) 3 T.f_law_code T.d_law_code ["_law_lengths_here"] (spD K 1 (mkF 7 2 0 (fb_law_code T.C))) :=
  fnD_ok (k := 2) T.F_law_code sc_law_code fun cdv A outer s H E hr => by
    have tk : Takes (cxOf (L2.CX P w) P w K mg base N_law_code "_law_code" (defScope s_law_code) T.f_law_code cdv A outer s H E) (WofE E) := takes_of rfl rfl rfl rfl
    exact (s_cons (s_setLc (k := 0) (keep := true) (own := [("_law_length", 2)]) (i := 1) (by rfl) sc_law_code.nd rfl rfl (sw_true rfl rfl rfl (by decide +kernel)) (i_list (d_var (pv 0))) (blkOk_by (own := [("_law_length", 2)]) (N := N_law_code) (sc := defScope s_law_code) (by decide +kernel)) (fun _ _ _ _ _ => (pg_name (i := 2) sc_law_code.nd rfl (by first | exact Or.inl rfl | exact Or.inr rfl))) (tgName_ok 2) (by decide) (fun _ _ _ _ _ => ts_nil) (fun _ _ _ _ _ => (d_list (keep := none) a_nil)))
    (s_cons (s_asg (d_tup (a_cons d_int (a_cons d_int a_nil))) (pg_tup rfl (pgs_cons (pg_name (i := 3) sc_law_code.nd rfl (by first | exact Or.inl rfl | exact Or.inr rfl)) (pgs_cons (pg_name (i := 4) sc_law_code.nd rfl (by first | exact Or.inl rfl | exact Or.inr rfl)) pgs_nil))) (tgTup_ok rfl (tgs_cons (tgName_ok 3) (tgs_cons (tgName_ok 4) tgs_nil))))
    (s_cons (s_then (k := 0) (s_for (fg := [2, 5]) (passes_of rfl) (by rfl) (i_list (d_callB (cr_sortD hr.units) kSortD_ok (by rfl) T.b_sorted (by decide +kernel) (a_cons (d_lc (k := 1) (keep := false) (own := [("_law_k", 6)]) (by rfl) sc_law_code.nd (i_range1 rfl T.b_range (a_cons (d_callB call_lenA kLen_ok (by rfl) T.b_len (by decide +kernel) (a_cons (d_var (pv 0)) a_nil)) a_nil)) (blkOk_by (own := [("_law_k", 6)]) (N := N_law_code) (sc := defScope s_law_code) (by decide +kernel)) (fun _ _ _ _ _ => (pg_name (i := 6) sc_law_code.nd rfl (by first | exact Or.inl rfl | exact Or.inr rfl))) (tgName_ok 6) (by decide) (fun _ _ _ _ _ => (ts_one (t_cmp op_gt (cmpB_ok _) (d_ix (d_var (pv 0)) (d_var (pv 6)) (fun _ _ => rfl)) d_int (nomark _)))) (fun _ _ _ _ _ => (d_tup (a_cons (d_ix (d_var (pv 0)) (d_var (pv 6)) (fun _ _ => rfl)) (a_cons (d_var (pv 6)) a_nil))))) a_nil))) (pg_tup rfl (pgs_cons (pg_name (i := 2) sc_law_code.nd rfl (by first | exact Or.inl rfl | exact Or.inr rfl)) (pgs_cons (pg_name (i := 5) sc_law_code.nd rfl (by first | exact Or.inl rfl | exact Or.inr rfl)) pgs_nil))) (tgTup_ok rfl (tgs_cons (tgName_ok 2) (tgs_cons (tgName_ok 5) tgs_nil))) (s_cons (s_set (i := 3) sc_law_code.nd rfl (by first | exact Or.inl rfl | exact Or.inr rfl) (d_op op_mulD mulD_ok (d_var (pv 3)) (d_call (L := []) (Ln := []) (dvs := []) tk G_law_two (hr.mono (by decide)) (by rfl) T.m_law_two T.k_law_two T.bd_law_two .nil rfl (a_cons (d_op op_sub subD_ok (d_var (pv 2)) (d_var (pv 4))) a_nil))))
    (s_cons (s_set (i := 4) sc_law_code.nd rfl (by first | exact Or.inl rfl | exact Or.inr rfl) (d_var (pv 2)))
    (s_cons (s_setI (d_call (L := []) (Ln := []) (dvs := []) tk G_law_bits_k56 (hr.mono (by decide)) (by rfl) T.m_law_bits_k56 T.k_law_bits_k56 T.bd_law_bits_k56 .nil rfl (a_cons (d_var (pv 3)) (a_cons (d_var (pv 2)) a_nil))) (d_var (pv 1)) (d_var (pv 5)))
    (s_one (s_set (i := 3) sc_law_code.nd rfl (by first | exact Or.inl rfl | exact Or.inr rfl) (d_op op_addD addD_ok (d_var (pv 3)) d_int))))))))
    (s_one (s_ret (d_var (pv 1)))))))
set_option maxHeartbeats 8000000 in
theorem ok_law_steps_of (T : Tx K mg) (G_law_bits_k56 : FnOk P w K mg base (L2.CX P w) 2 T.f_law_bits_k56 T.d_law_bits_k56 ["_law_number", "_law_size"] (spD K 2 (F_law_bits_k56 T.C))) (G_law_two : FnOk P w K mg base (L2.CX P w) 1 T.f_law_two T.d_law_two ["_law_times"] (spD K 1 (F_law_two T.C))) : FnOk P w K mg base (L2.CX P w) 3 T.f_law_steps_of T.d_law_steps_of ["_law_number"] (spD K 1 (mkF 2 0 0 (fb_law_steps_of T.C))) :=
  fnD_ok (k := 2) T.F_law_steps_of sc_law_steps_of fun cdv A outer s H E hr => by
    have tk : Takes (cxOf (L2.CX P w) P w K mg base N_law_steps_of "_law_steps_of" (defScope s_law_steps_of) T.f_law_steps_of cdv A outer s H E) (WofE E) := takes_of rfl rfl rfl rfl
    exact (s_cons (s_set (i := 1) sc_law_steps_of.nd rfl (by first | exact Or.inl rfl | exact Or.inr rfl) d_int)
    (s_cons (s_while (fuel := (fun _ => 1000000)) (fg := []) (passes_of rfl) (t_cmp op_le (cmpB_ok _) (d_call (L := []) (Ln := []) (dvs := []) tk G_law_two (hr.mono (by decide)) (by rfl) T.m_law_two T.k_law_two T.bd_law_two .nil rfl (a_cons (d_var (pv 1)) a_nil)) (d_op op_addD addD_ok (d_var (pv 0)) d_int) (nomark _)) (s_one (s_set (i := 1) sc_law_steps_of.nd rfl (by first | exact Or.inl rfl | exact Or.inr rfl) (d_op op_addD addD_ok (d_var (pv 1)) d_int))))
    (s_one (s_ret (d_op op_addD addD_ok (d_op op_mulD mulD_ok (d_list (keep := none) (a_cons d_int a_nil)) (d_op op_sub subD_ok (d_var (pv 1)) d_int)) (d_call (L := []) (Ln := []) (dvs := []) tk G_law_bits_k56 (hr.mono (by decide)) (by rfl) T.m_law_bits_k56 T.k_law_bits_k56 T.bd_law_bits_k56 .nil rfl (a_cons (d_op op_addD addD_ok (d_var (pv 0)) d_int) (a_cons (d_var (pv 1)) a_nil))))))))
set_option maxHeartbeats 8000000 in
theorem ok_law_least (T : Tx K mg) (G_law_two : FnOk P w K mg base (L2.CX P w) 1 T.f_law_two T.d_law_two ["_law_times"] (spD K 1 (F_law_two T.C))) : FnOk P w K mg base (L2.CX P w) 2 T.f_law_least T.d_law_least ["_law_counts", "_law_size"] (spD K 2 (mkF 10 2 0 (fb_law_least T.C))) :=
  fnD_ok (k := 1) T.F_law_least sc_law_least fun cdv A outer s H E hr => by
    have tk : Takes (cxOf (L2.CX P w) P w K mg base N_law_least "_law_least" (defScope s_law_least) T.f_law_least cdv A outer s H E) (WofE E) := takes_of rfl rfl rfl rfl
    exact (s_cons (s_set (i := 2) sc_law_least.nd rfl (by first | exact Or.inl rfl | exact Or.inr rfl) d_non)
    (s_cons (s_set (i := 3) sc_law_least.nd rfl (by first | exact Or.inl rfl | exact Or.inr rfl) (d_list (keep := none) (a_cons (d_list (keep := none) a_nil) a_nil)))
    (s_cons (s_for (fg := [4, 5, 6, 7]) (passes_of rfl) (by rfl) (i_range1 rfl T.b_range (a_cons (d_callB call_lenA kLen_ok (by rfl) T.b_len (by decide +kernel) (a_cons (d_var (pv 0)) a_nil)) a_nil)) (pg_name (i := 4) sc_law_least.nd rfl (by first | exact Or.inl rfl | exact Or.inr rfl)) (tgName_ok 4) (s_cons (s_set (i := 5) sc_law_least.nd rfl (by first | exact Or.inl rfl | exact Or.inr rfl) (d_list (keep := some 0) a_nil))
    (s_cons (s_then (k := 0) (s_for (fg := [6, 7]) (passes_of rfl) (by rfl) (i_list (d_callT call_list_of (kList_ok (keep := none)) (by rfl) T.b_list (by decide +kernel) (a_cons (d_var (pv 3)) a_nil))) (pg_name (i := 6) sc_law_least.nd rfl (by first | exact Or.inl rfl | exact Or.inr rfl)) (tgName_ok 6) (s_cons (s_for (fg := [7]) (passes_of rfl) (by rfl) (i_range2 rfl T.b_range (a_cons d_int (a_cons (d_op op_addD addD_ok (d_var (pv 1)) d_int) a_nil))) (pg_name (i := 7) sc_law_least.nd rfl (by first | exact Or.inl rfl | exact Or.inr rfl)) (tgName_ok 7) (s_one (s_expr (d_meth PySem.F.plainAttrs_list PySem.F.slot_list_append PySem.F.type_list_append mt_append isLst_ok kAppend_ok (d_var (pv 5)) (a_cons (d_op op_addD addD_ok (d_var (pv 6)) (d_list (keep := none) (a_cons (d_var (pv 7)) a_nil))) a_nil))))) s_nil)))
    (s_one (s_set (i := 3) sc_law_least.nd rfl (by first | exact Or.inl rfl | exact Or.inr rfl) (d_var (pv 5)))))))
    (s_cons (s_for (fg := [4, 7, 8, 9]) (passes_of rfl) (by rfl) (i_list (d_var (pv 3))) (pg_name (i := 8) sc_law_least.nd rfl (by first | exact Or.inl rfl | exact Or.inr rfl)) (tgName_ok 8) (s_one (s_if (t_cmp op_le (cmpB_ok _) (d_callB (cr_sum rfl) kSum_ok (by rfl) T.b_sum (by decide +kernel) (a_cons (d_lc (k := 1) (keep := false) (own := [("_law_length", 7)]) (by rfl) sc_law_least.nd (i_list (d_var (pv 8))) (blkOk_by (own := [("_law_length", 7)]) (N := N_law_least) (sc := defScope s_law_least) (by decide +kernel)) (fun _ _ _ _ _ => (pg_name (i := 7) sc_law_least.nd rfl (by first | exact Or.inl rfl | exact Or.inr rfl))) (tgName_ok 7) (by decide) (fun _ _ _ _ _ => ts_nil) (fun _ _ _ _ _ => (d_call (L := []) (Ln := []) (dvs := []) takes0 G_law_two (hr.mono (by decide)) (by rfl) T.m_law_two T.k_law_two T.bd_law_two .nil rfl (a_cons (d_op op_sub subD_ok (d_var (pv 1)) (d_var (pv 7))) a_nil)))) a_nil)) (d_call (L := []) (Ln := []) (dvs := []) tk G_law_two (hr.mono (by decide)) (by rfl) T.m_law_two T.k_law_two T.bd_law_two .nil rfl (a_cons (d_var (pv 1)) a_nil)) (nomark _)) (s_cons (s_set (i := 9) sc_law_least.nd rfl (by first | exact Or.inl rfl | exact Or.inr rfl) (d_callB (cr_sum rfl) kSum_ok (by rfl) T.b_sum (by decide +kernel) (a_cons (d_lc (k := 1) (keep := false) (own := [("_law_k", 4)]) (by rfl) sc_law_least.nd (i_range1 rfl T.b_range (a_cons (d_callB call_lenA kLen_ok (by rfl) T.b_len (by decide +kernel) (a_cons (d_var (pv 0)) a_nil)) a_nil)) (blkOk_by (own := [("_law_k", 4)]) (N := N_law_least) (sc := defScope s_law_least) (by decide +kernel)) (fun _ _ _ _ _ => (pg_name (i := 4) sc_law_least.nd rfl (by first | exact Or.inl rfl | exact Or.inr rfl))) (tgName_ok 4) (by decide) (fun _ _ _ _ _ => ts_nil) (fun _ _ _ _ _ => (d_op op_mulD mulD_ok (d_ix (d_var (pv 0)) (d_var (pv 4)) (fun _ _ => rfl)) (d_ix (d_var (pv 8)) (d_var (pv 4)) (fun _ _ => rfl))))) a_nil)))
    (s_one (s_if (PW.pt (w_or (t_cmp op_isN isNB_ok (d_var (pv 2)) d_non (nomark _)) (w_or1 (t_cmp op_ltB ltB_ok (d_var (pv 9)) (d_var (pv 2)) (nomark _))))) (s_one (s_set (i := 2) sc_law_least.nd rfl (by first | exact Or.inl rfl | exact Or.inr rfl) (d_var (pv 9)))) s_nil))) s_nil)))
    (s_one (s_ret (d_var (pv 2))))))))
set_option maxHeartbeats 8000000 in
theorem ok_law_refused_k56 (T : Tx K mg) (G_code_of : FnOk P w K mg base (L2.CX P w) 3 T.f_code_of T.d_code_of ["lengths"] (spD K 1 (F_code_of T.C))) : FnOk P w K mg base (L2.CX P w) 4 T.f_law_refused_k56 T.d_law_refused_k56 ["_law_lengths_here"] (spD K 1 (mkF 1 0 0 (fb_law_refused_k56 T.C))) :=
  fnD_ok (k := 3) T.F_law_refused_k56 sc_law_refused_k56 fun cdv A outer s H E hr => by
    have tk : Takes (cxOf (L2.CX P w) P w K mg base N_law_refused_k56 "_law_refused" (defScope s_law_refused_k56) T.f_law_refused_k56 cdv A outer s H E) (WofE E) := takes_of rfl rfl rfl rfl
    exact (s_cons (s_tryM rfl rfl tk (fun W pn xe tk _ => (s_one (s_expr (d_call (L := []) (Ln := []) (dvs := []) tk G_code_of (hr.mono (by decide)) (by rfl) T.m_code_of T.k_code_of T.bd_code_of .nil rfl (a_cons (d_var (pv 0)) a_nil))))) (HdMix.cons ⟨rfl, by decide, .inl T.g_InvalidLengths⟩ (fun a oe cls d pn hz hf => pss_one (ps_ret pe_bl)) (HdMix.cons ⟨rfl, by decide, .inl T.g_TopiaryError⟩ (fun a oe cls d pn hz hf => pss_one (ps_ret pe_bl)) HdMix.nil)) (HdOkD.cons (su_one (pt_c fun _ => .bl _)) T.xe_InvalidLengths (List.forall_mem_cons.mpr ⟨T.xn_TopiaryError_InvalidLengths, (fun _ h => nomatch h)⟩) (HdOkD.cons (su_one (pt_c fun _ => .bl _)) T.xe_TopiaryError (fun _ h => nomatch h) HdOkD.nil)))
    (s_one (s_ret d_bl)))
set_option maxHeartbeats 8000000 in
theorem ok_law_counts_refused (T : Tx K mg) (G_lengths_of : FnOk P w K mg base (L2.CX P w) 3 T.f_lengths_of T.d_lengths_of ["counts"] (spD K 1 (F_lengths_of T.C))) : FnOk P w K mg base (L2.CX P w) 4 T.f_law_counts_refused T.d_law_counts_refused ["_law_counts"] (spD K 1 (mkF 1 0 0 (fb_law_counts_refused T.C))) :=
  fnD_ok (k := 3) T.F_law_counts_refused sc_law_counts_refused fun cdv A outer s H E hr => by
    have tk : Takes (cxOf (L2.CX P w) P w K mg base N_law_counts_refused "_law_counts_refused" (defScope s_law_counts_refused) T.f_law_counts_refused cdv A outer s H E) (WofE E) := takes_of rfl rfl rfl rfl
    exact (s_cons (s_tryM rfl rfl tk (fun W pn xe tk _ => (s_one (s_expr (d_call (L := []) (Ln := []) (dvs := []) tk G_lengths_of (hr.mono (by decide)) (by rfl) T.m_lengths_of T.k_lengths_of T.bd_lengths_of .nil rfl (a_cons (d_var (pv 0)) a_nil))))) (HdMix.cons ⟨rfl, by decide, .inl T.g_InvalidCounts⟩ (fun a oe cls d pn hz hf => pss_one (ps_ret pe_bl)) (HdMix.cons ⟨rfl, by decide, .inl T.g_TopiaryError⟩ (fun a oe cls d pn hz hf => pss_one (ps_ret pe_bl)) HdMix.nil)) (HdOkD.cons (su_one (pt_c fun _ => .bl _)) T.xe_InvalidCounts (List.forall_mem_cons.mpr ⟨T.xn_TopiaryError_InvalidCounts, (fun _ h => nomatch h)⟩) (HdOkD.cons (su_one (pt_c fun _ => .bl _)) T.xe_TopiaryError (fun _ h => nomatch h) HdOkD.nil)))
    (s_one (s_ret d_bl)))
set_option maxHeartbeats 8000000 in
theorem ok_law_k56 (T : Tx K mg) (G_law_code : FnOk P w K mg base (L2.CX P w) 3 T.f_law_code T.d_law_code ["_law_lengths_here"] (spD K 1 (F_law_code T.C))) (G_law_counts_refused : FnOk P w K mg base (L2.CX P w) 4 T.f_law_counts_refused T.d_law_counts_refused ["_law_counts"] (spD K 1 (F_law_counts_refused T.C))) (G_law_full : FnOk P w K mg base (L2.CX P w) 2 T.f_law_full T.d_law_full ["_law_lengths_here"] (spD K 1 (F_law_full T.C))) (G_law_least : FnOk P w K mg base (L2.CX P w) 2 T.f_law_least T.d_law_least ["_law_counts", "_law_size"] (spD K 2 (F_law_least T.C))) (G_law_lengths : FnOk P w K mg base (L2.CX P w) 1 T.f_law_lengths T.d_law_lengths ["_law_counts"] (spD K 1 (F_law_lengths T.C))) (G_law_numbers_k36 : FnOk P w K mg base (L2.CX P w) 2 T.f_law_numbers_k36 T.d_law_numbers_k36 ["_law_script", "_law_count"] (spD K 2 (F_law_numbers_k36 T.C))) (G_law_refused_k56 : FnOk P w K mg base (L2.CX P w) 4 T.f_law_refused_k56 T.d_law_refused_k56 ["_law_lengths_here"] (spD K 1 (F_law_refused_k56 T.C))) (G_law_steps_of : FnOk P w K mg base (L2.CX P w) 3 T.f_law_steps_of T.d_law_steps_of ["_law_number"] (spD K 1 (F_law_steps_of T.C))) (G_law_take_k35 : FnOk P w K mg base (L2.CX P w) 1 T.f_law_take_k35 T.d_law_take_k35 ["_law_row", "_law_bound"] (spD K 2 (F_law_take_k35 T.C))) (G_law_two : FnOk P w K mg base (L2.CX P w) 1 T.f_law_two T.d_law_two ["_law_times"] (spD K 1 (F_law_two T.C))) (G_code_of : FnOk P w K mg base (L2.CX P w) 3 T.f_code_of T.d_code_of ["lengths"] (spD K 1 (F_code_of T.C))) (G_is_full : FnOk P w K mg base (L2.CX P w) 1 T.f_is_full T.d_is_full ["lengths"] (spD K 1 (F_is_full T.C))) (G_lengths_of : FnOk P w K mg base (L2.CX P w) 3 T.f_lengths_of T.d_lengths_of ["counts"] (spD K 1 (F_lengths_of T.C))) (G_steps_of : FnOk P w K mg base (L2.CX P w) 2 T.f_steps_of T.d_steps_of ["number"] (spD K 1 (F_steps_of T.C))) : FnOk P w K mg base (L2.CX P w) 5 T.f_law_k56 T.d_law_k56 ["_law_script"] (spD K 1 (mkF 12 2 0 (fb_law_k56 T.C))) :=
  fnD_ok (k := 4) T.F_law_k56 sc_law_k56 fun cdv A outer s H E hr => by
    have tk : Takes (cxOf (L2.CX P w) P w K mg base N_law_k56 "law" (defScope s_law_k56) T.f_law_k56 cdv A outer s H E) (WofE E) := takes_of rfl rfl rfl rfl
    exact (s_cons (s_set (i := 1) sc_law_k56.nd rfl (by first | exact Or.inl rfl | exact Or.inr rfl) (d_call (L := []) (Ln := [0]) (dvs := []) tk G_law_numbers_k36 (hr.mono (by decide)) (by rfl) T.m_law_numbers_k36 T.k_law_numbers_k36 T.bd_law_numbers_k36 .nil rfl (a_cons (d_var (pv 0)) (a_cons d_int a_nil))))
    (s_cons (s_set (i := 2) sc_law_k56.nd rfl (by first | exact Or.inl rfl | exact Or.inr rfl) (d_lc (k := 1) (keep := false) (own := [("_law_k", 3)]) (by rfl) sc_law_k56.nd (i_range1 rfl T.b_range (a_cons (d_call (L := [0]) (Ln := []) (dvs := []) tk G_law_take_k35 (hr.mono (by decide)) (by rfl) T.m_law_take_k35 T.k_law_take_k35 T.bd_law_take_k35 .nil rfl (a_cons (d_var (pv 1)) (a_cons d_int a_nil))) a_nil)) (blkOk_by (own := [("_law_k", 3)]) (N := N_law_k56) (sc := defScope s_law_k56) (by decide +kernel)) (fun _ _ _ _ _ => (pg_name (i := 3) sc_law_k56.nd rfl (by first | exact Or.inl rfl | exact Or.inr rfl))) (tgName_ok 3) (by decide) (fun _ _ _ _ _ => ts_nil) (fun _ _ _ _ _ => (d_ix (d_list (keep := none) (a_cons (d_call (L := [0]) (Ln := []) (dvs := []) takes0 G_law_take_k35 (hr.mono (by decide)) (by rfl) T.m_law_take_k35 T.k_law_take_k35 T.bd_law_take_k35 .nil rfl (a_cons (d_var (pv 1)) (a_cons d_int a_nil))) (a_cons (d_call (L := [0]) (Ln := []) (dvs := []) takes0 G_law_take_k35 (hr.mono (by decide)) (by rfl) T.m_law_take_k35 T.k_law_take_k35 T.bd_law_take_k35 .nil rfl (a_cons (d_var (pv 1)) (a_cons d_int a_nil))) (a_cons (d_call (L := []) (Ln := []) (dvs := []) takes0 G_law_two (hr.mono (by decide)) (by rfl) T.m_law_two T.k_law_two T.bd_law_two .nil rfl (a_cons (d_call (L := [0]) (Ln := []) (dvs := []) takes0 G_law_take_k35 (hr.mono (by decide)) (by rfl) T.m_law_take_k35 T.k_law_take_k35 T.bd_law_take_k35 .nil rfl (a_cons (d_var (pv 1)) (a_cons d_int a_nil))) a_nil)) (a_cons d_int a_nil))))) (d_call (L := [0]) (Ln := []) (dvs := []) takes0 G_law_take_k35 (hr.mono (by decide)) (by rfl) T.m_law_take_k35 T.k_law_take_k35 T.bd_law_take_k35 .nil rfl (a_cons (d_var (pv 1)) (a_cons d_int a_nil))) (fun _ _ => rfl)))))
    (s_cons (s_set (i := 4) sc_law_k56.nd rfl (by first | exact Or.inl rfl | exact Or.inr rfl) (d_call (L := []) (Ln := []) (dvs := []) tk G_lengths_of (hr.mono (by decide)) (by rfl) T.m_lengths_of T.k_lengths_of T.bd_lengths_of .nil rfl (a_cons (d_callT call_list_of (kList_ok (keep := none)) (by rfl) T.b_list (by decide +kernel) (a_cons (d_var (pv 2)) a_nil)) a_nil)))
    (s_cons (s_if (PW.pt (w_or (t_cmp (op_neB hr.units) neB_ok (d_var (pv 4)) (d_call (L := []) (Ln := []) (dvs := []) tk G_law_lengths (hr.mono (by decide)) (by rfl) T.m_law_lengths T.k_law_lengths T.bd_law_lengths .nil rfl (a_cons (d_var (pv 2)) a_nil)) (nomark _)) (w_or (t_cmp op_notBl notBB_ok (d_call (L := []) (Ln := []) (dvs := []) tk G_is_full (hr.mono (by decide)) (by rfl) T.m_is_full T.k_is_full T.bd_is_full .nil rfl (a_cons (d_var (pv 4)) a_nil)) d_bl (nomark _)) (w_or1 (t_cmp (op_neB hr.units) neB_ok (d_call (L := []) (Ln := []) (dvs := []) tk G_code_of (hr.mono (by decide)) (by rfl) T.m_code_of T.k_code_of T.bd_code_of .nil rfl (a_cons (d_var (pv 4)) a_nil)) (d_call (L := []) (Ln := []) (dvs := []) tk G_law_code (hr.mono (by decide)) (by rfl) T.m_law_code T.k_law_code T.bd_law_code .nil rfl (a_cons (d_var (pv 4)) a_nil)) (nomark _)))))) (s_one (s_ret d_bl)) s_nil)
    (s_cons (s_setLc (k := 1) (keep := false) (own := [("_law_number", 6)]) (i := 5) (by rfl) sc_law_k56.nd rfl rfl (sw_true rfl rfl rfl (by decide +kernel)) (i_list (d_var (pv 2))) (blkOk_by (own := [("_law_number", 6)]) (N := N_law_k56) (sc := defScope s_law_k56) (by decide +kernel)) (fun _ _ _ _ _ => (pg_name (i := 6) sc_law_k56.nd rfl (by first | exact Or.inl rfl | exact Or.inr rfl))) (tgName_ok 6) (by decide) (fun _ _ _ _ _ => (ts_one (t_cmp op_gt (cmpB_ok _) (d_var (pv 6)) d_int (nomark _)))) (fun _ _ _ _ _ => (d_var (pv 6))))
    (s_cons (s_if (t_chain op_ltB op_le ltB_ok (cmpB_ok _) d_int (d_callB call_lenA kLen_ok (by rfl) T.b_len (by decide +kernel) (a_cons (d_var (pv 5)) a_nil)) d_int) (s_one (s_if (t_cmp (op_neB hr.units) neB_ok (d_callB (cr_sum rfl) kSum_ok (by rfl) T.b_sum (by decide +kernel) (a_cons (d_lc (k := 1) (keep := false) (own := [("_law_k", 3)]) (by rfl) sc_law_k56.nd (i_range1 rfl T.b_range (a_cons (d_callB call_lenA kLen_ok (by rfl) T.b_len (by decide +kernel) (a_cons (d_var (pv 2)) a_nil)) a_nil)) (blkOk_by (own := [("_law_k", 3)]) (N := N_law_k56) (sc := defScope s_law_k56) (by decide +kernel)) (fun _ _ _ _ _ => (pg_name (i := 3) sc_law_k56.nd rfl (by first | exact Or.inl rfl | exact Or.inr rfl))) (tgName_ok 3) (by decide) (fun _ _ _ _ _ => ts_nil) (fun _ _ _ _ _ => (d_op op_mulD mulD_ok (d_ix (d_var (pv 2)) (d_var (pv 3)) (fun _ _ => rfl)) (d_ix (d_var (pv 4)) (d_var (pv 3)) (fun _ _ => rfl))))) a_nil)) (d_call (L := []) (Ln := []) (dvs := []) tk G_law_least (hr.mono (by decide)) (by rfl) T.m_law_least T.k_law_least T.bd_law_least .nil rfl (a_cons (d_var (pv 5)) (a_cons d_int a_nil))) (nomark _)) (s_one (s_ret d_bl)) s_nil)) s_nil)
    (s_cons (s_setLc (k := 1) (keep := false) (own := [("_law_one", 8)]) (i := 7) (by rfl) sc_law_k56.nd rfl rfl (sw_true rfl rfl rfl (by decide +kernel)) (i_list (d_call (L := []) (Ln := []) (dvs := []) tk G_code_of (hr.mono (by decide)) (by rfl) T.m_code_of T.k_code_of T.bd_code_of .nil rfl (a_cons (d_var (pv 4)) a_nil))) (blkOk_by (own := [("_law_one", 8)]) (N := N_law_k56) (sc := defScope s_law_k56) (by decide +kernel)) (fun _ _ _ _ _ => (pg_name (i := 8) sc_law_k56.nd rfl (by first | exact Or.inl rfl | exact Or.inr rfl))) (tgName_ok 8) (by decide) (fun _ _ _ _ _ => (ts_one (t_cmp (op_neB hr.units) neB_ok (d_var (pv 8)) (d_list (keep := none) a_nil) (nomark _)))) (fun _ _ _ _ _ => (d_var (pv 8))))
    (s_cons (s_for (fg := [9, 10]) (passes_of rfl) (by rfl) (i_list (d_var (pv 7))) (pg_name (i := 9) sc_law_k56.nd rfl (by first | exact Or.inl rfl | exact Or.inr rfl)) (tgName_ok 9) (s_cons (s_for (fg := [10]) (passes_of rfl) (by rfl) (i_list (d_var (pv 7))) (pg_name (i := 10) sc_law_k56.nd rfl (by first | exact Or.inl rfl | exact Or.inr rfl)) (tgName_ok 10) (s_one (s_if (PW.pt (w_and (t_cmp (op_neB hr.units) neB_ok (d_var (pv 9)) (d_var (pv 10)) (nomark _)) (w_and1 (t_cmp (op_eqB hr.units) eqB_ok (d_sl (d_var (pv 10)) o_none (o_some (d_callB call_lenA kLen_ok (by rfl) T.b_len (by decide +kernel) (a_cons (d_var (pv 9)) a_nil)))) (d_var (pv 9)) (nomark _))))) (s_one (s_ret d_bl)) s_nil))) s_nil))
    (s_cons (s_setLc (k := 1) (keep := false) (own := [("_law_k", 3)]) (i := 11) (by rfl) sc_law_k56.nd rfl rfl (sw_true rfl rfl rfl (by decide +kernel)) (i_range1 rfl T.b_range (a_cons (d_call (L := [0]) (Ln := []) (dvs := []) tk G_law_take_k35 (hr.mono (by decide)) (by rfl) T.m_law_take_k35 T.k_law_take_k35 T.bd_law_take_k35 .nil rfl (a_cons (d_var (pv 1)) (a_cons d_int a_nil))) a_nil)) (blkOk_by (own := [("_law_k", 3)]) (N := N_law_k56) (sc := defScope s_law_k56) (by decide +kernel)) (fun _ _ _ _ _ => (pg_name (i := 3) sc_law_k56.nd rfl (by first | exact Or.inl rfl | exact Or.inr rfl))) (tgName_ok 3) (by decide) (fun _ _ _ _ _ => ts_nil) (fun _ _ _ _ _ => (d_op op_sub subD_ok (d_call (L := [0]) (Ln := []) (dvs := []) takes0 G_law_take_k35 (hr.mono (by decide)) (by rfl) T.m_law_take_k35 T.k_law_take_k35 T.bd_law_take_k35 .nil rfl (a_cons (d_var (pv 1)) (a_cons d_int a_nil))) (d_callT call_int1 kInt_ok (by rfl) T.b_int (by decide +kernel) (a_cons (d_cmp (op_eqB hr.units) (OpB.d eqB_ok) (d_call (L := [0]) (Ln := []) (dvs := []) takes0 G_law_take_k35 (hr.mono (by decide)) (by rfl) T.m_law_take_k35 T.k_law_take_k35 T.bd_law_take_k35 .nil rfl (a_cons (d_var (pv 1)) (a_cons d_int a_nil))) d_int (nomark _)) a_nil)))))
    (s_cons (s_if (t_cmp (op_neB hr.units) neB_ok (d_call (L := []) (Ln := []) (dvs := []) tk G_is_full (hr.mono (by decide)) (by rfl) T.m_is_full T.k_is_full T.bd_is_full .nil rfl (a_cons (d_var (pv 11)) a_nil)) (d_call (L := []) (Ln := []) (dvs := []) tk G_law_full (hr.mono (by decide)) (by rfl) T.m_law_full T.k_law_full T.bd_law_full .nil rfl (a_cons (d_var (pv 11)) a_nil)) (nomark _)) (s_one (s_ret d_bl)) s_nil)
    (s_cons (s_if (t_truth (d_call (L := []) (Ln := []) (dvs := []) tk G_law_full (hr.mono (by decide)) (by rfl) T.m_law_full T.k_law_full T.bd_law_full .nil rfl (a_cons (d_var (pv 11)) a_nil)) (by intro _; rfl)) (s_one (s_if (t_cmp (op_neB hr.units) neB_ok (d_call (L := []) (Ln := []) (dvs := []) tk G_code_of (hr.mono (by decide)) (by rfl) T.m_code_of T.k_code_of T.bd_code_of .nil rfl (a_cons (d_var (pv 11)) a_nil)) (d_call (L := []) (Ln := []) (dvs := []) tk G_law_code (hr.mono (by decide)) (by rfl) T.m_law_code T.k_law_code T.bd_law_code .nil rfl (a_cons (d_var (pv 11)) a_nil)) (nomark _)) (s_one (s_ret d_bl)) s_nil)) (s_one (s_if (t_not (t_truth (d_call (L := []) (Ln := []) (dvs := []) tk G_law_refused_k56 (hr.mono (by decide)) (by rfl) T.m_law_refused_k56 T.k_law_refused_k56 T.bd_law_refused_k56 .nil rfl (a_cons (d_var (pv 11)) a_nil)) (by intro _; rfl))) (s_one (s_ret d_bl)) s_nil)))
    (s_cons (s_then (k := 0) (s_set (i := 6) sc_law_k56.nd rfl (by first | exact Or.inl rfl | exact Or.inr rfl) (d_ix (d_list (keep := none) (a_cons (d_call (L := [0]) (Ln := []) (dvs := []) tk G_law_take_k35 (hr.mono (by decide)) (by rfl) T.m_law_take_k35 T.k_law_take_k35 T.bd_law_take_k35 .nil rfl (a_cons (d_var (pv 1)) (a_cons d_int a_nil))) (a_cons (d_call (L := [0]) (Ln := []) (dvs := []) tk G_law_take_k35 (hr.mono (by decide)) (by rfl) T.m_law_take_k35 T.k_law_take_k35 T.bd_law_take_k35 .nil rfl (a_cons (d_var (pv 1)) (a_cons d_int a_nil))) a_nil))) (d_call (L := [0]) (Ln := []) (dvs := []) tk G_law_take_k35 (hr.mono (by decide)) (by rfl) T.m_law_take_k35 T.k_law_take_k35 T.bd_law_take_k35 .nil rfl (a_cons (d_var (pv 1)) (a_cons d_int a_nil))) (fun _ _ => rfl))))
    (s_one (s_ret (d_and (d_cmp (op_eqB hr.units) (OpB.d eqB_ok) (d_call (L := []) (Ln := []) (dvs := []) tk G_steps_of (hr.mono (by decide)) (by rfl) T.m_steps_of T.k_steps_of T.bd_steps_of .nil rfl (a_cons (d_var (pv 6)) a_nil)) (d_call (L := []) (Ln := []) (dvs := []) tk G_law_steps_of (hr.mono (by decide)) (by rfl) T.m_law_steps_of T.k_law_steps_of T.bd_law_steps_of .nil rfl (a_cons (d_var (pv 6)) a_nil)) (nomark _)) (d_one (d_call (L := []) (Ln := []) (dvs := []) tk G_law_counts_refused (hr.mono (by decide)) (by rfl) T.m_law_counts_refused T.k_law_counts_refused T.bd_law_counts_refused .nil rfl (a_cons (d_op op_addD addD_ok (d_var (pv 2)) (d_list (keep := none) (a_cons (d_neg d_int) a_nil))) a_nil))))))))))))))))))
end
end Wk
end
section
set_option Elab.async false
set_option linter.all false
set_option maxRecDepth 100000
set_option maxHeartbeats 4000000
namespace Tp
open PySem L2 Dl
/-! groups of symbols: weight, least symbol, symbols -/
structure Gp where
  w : Nat
  s : Nat
  ss : List Nat
def Gp.d (g : Gp) : D := .tup [.int (g.w : Nat), .int (g.s : Nat), .lst (g.ss.map fun n : Nat => .int (n : Nat))]
def leG (a b : Gp) : Bool := decide (a.w < b.w) || (decide (a.w = b.w) && decide (a.s ≤ b.s))
theorem leG_total (a b : Gp) : (leG a b || leG b a) = true := by
  unfold leG
  simp
  omega
theorem leG_trans (a b c : Gp) (h1 : leG a b = true) (h2 : leG b c = true) : leG a c = true := by
  unfold leG at *
  simp at *
  omega
def sortG (gs : List Gp) : List Gp := gs.mergeSort leG
theorem sortG_perm (gs : List Gp) : (sortG gs).Perm gs := List.mergeSort_perm _ _
theorem sortG_sorted (gs : List Gp) : (sortG gs).Pairwise fun a b => a.w ≤ b.w := by
  have := List.pairwise_mergeSort (le := leG) leG_trans leG_total gs
  refine this.imp fun {a b} h => ?_
  unfold leG at h
  simp at h
  omega
theorem sortG_len (gs : List Gp) : (sortG gs).length = gs.length := (sortG_perm gs).length_eq
def mergeG (a b : Gp) : Gp := ⟨a.w + b.w, min a.s b.s, a.ss ++ b.ss⟩
/-- one more for each of these symbols -/
def bump (ss : List Nat) (L : List Nat) : List Nat := ss.foldl (fun L s => L.set s (L.getD s 0 + 1)) L
def runG : Nat → List Gp → List Nat → List Nat
  | 0, _, L => L
  | n + 1, gs, L => match sortG gs with
    | a :: b :: r => runG n (r ++ [mergeG a b]) (bump (a.ss ++ b.ss) L)
    | _ => L
def firstG (cs : List Nat) : List Gp := (cs.zipIdx.filter fun p => decide (0 < p.1)).map fun p => ⟨p.1, p.2, [p.2]⟩
/-- the lengths of the code for counts -/
def lensP (cs : List Nat) : List Nat :=
  let gs := firstG cs
  let L := List.replicate cs.length 0
  match gs with
  | [g] => L.set g.s 1
  | _ => runG cs.length gs L
/-! what holds between the merges -/
theorem bump_len : ∀ (ss L : List Nat), (bump ss L).length = L.length
  | [], L => rfl
  | s :: ss, L => by
    show (bump ss (L.set s (L.getD s 0 + 1))).length = _
    rw [bump_len ss, List.length_set]
theorem bump_out : ∀ (ss L : List Nat) (i : Nat), i ∉ ss → (bump ss L).getD i 0 = L.getD i 0
  | [], L, i, _ => rfl
  | s :: ss, L, i, h => by
    rw [List.mem_cons, not_or] at h
    show (bump ss (L.set s (L.getD s 0 + 1))).getD i 0 = _
    rw [bump_out ss _ i h.2, List.getD_eq_getElem?_getD, List.getElem?_set, if_neg (by omega), ← List.getD_eq_getElem?_getD]
theorem bump_in : ∀ (ss L : List Nat) (i : Nat), ss.Nodup → i ∈ ss → i < L.length → (bump ss L).getD i 0 = L.getD i 0 + 1
  | [], L, i, _, h, _ => by simp at h
  | s :: ss, L, i, hn, h, hl => by
    rw [List.nodup_cons] at hn
    show (bump ss (L.set s (L.getD s 0 + 1))).getD i 0 = _
    rcases List.mem_cons.mp h with rfl | h
    · rw [bump_out ss _ i hn.1, List.getD_eq_getElem?_getD, List.getElem?_set, if_pos rfl, if_pos hl]
      rfl
    · have hne : s ≠ i := fun e => hn.1 (e ▸ h)
      rw [bump_in ss _ i hn.2 h (by rw [List.length_set]; exact hl), List.getD_eq_getElem?_getD, List.getElem?_set, if_neg hne, ← List.getD_eq_getElem?_getD]
/-- the halves of a group's symbols -/
def halves (L : List Nat) (ss : List Nat) : Nat := (ss.map fun s => 2 ^ (64 - L.getD s 0)).sum
def wts (cs : List Nat) (ss : List Nat) : Nat := (ss.map fun s => cs.getD s 0).sum
structure GOk (cs L : List Nat) (g : Gp) : Prop where
  ne : g.ss ≠ []
  nd : g.ss.Nodup
  lt : ∀ s ∈ g.ss, s < L.length
  up : ∀ s ∈ g.ss, L.getD s 0 + 1 ≤ g.ss.length
  hv : halves L g.ss = 2 ^ 64
  wt : g.w = wts cs g.ss
  few : g.ss.length ≤ 64
  mem : g.s ∈ g.ss
theorem halves_bump (L ss tt : List Nat) (hn : tt.Nodup) (hl : ∀ s ∈ tt, s < L.length) (hu : ∀ s ∈ tt, L.getD s 0 + 1 ≤ 64) (hs : ∀ s ∈ ss, s ∈ tt) : 2 * halves (bump tt L) ss = halves L ss := by
  induction ss with
  | nil => rfl
  | cons s ss ih =>
    have ih := ih fun x hx => hs x (List.mem_cons_of_mem _ hx)
    have hm := hs s (List.mem_cons_self ..)
    unfold halves at *
    rw [List.map_cons, List.sum_cons, List.map_cons, List.sum_cons, Nat.mul_add, ih, bump_in tt L s hn hm (hl s hm)]
    congr 1
    have := hu s hm
    rw [show 64 - L.getD s 0 = (64 - (L.getD s 0 + 1)) + 1 by omega, Nat.pow_succ]
    omega
theorem halves_same (L ss tt : List Nat) (h : ∀ s ∈ ss, s ∉ tt) : halves (bump tt L) ss = halves L ss := by
  unfold halves
  congr 1
  apply List.map_congr_left
  intro s hs
  rw [bump_out tt L s (h s hs)]
/-- merging two groups -/
theorem merge_ok {cs L : List Nat} {a b : Gp} (ha : GOk cs L a) (hb : GOk cs L b) (hd : ∀ s ∈ a.ss, s ∉ b.ss) (hf : a.ss.length + b.ss.length ≤ 64) : GOk cs (bump (a.ss ++ b.ss) L) (mergeG a b) := by
  have hnd : (a.ss ++ b.ss).Nodup := List.nodup_append.mpr ⟨ha.nd, hb.nd, fun x hx y hy e => hd x hx (e ▸ hy)⟩
  have hlt : ∀ s ∈ a.ss ++ b.ss, s < L.length := fun s hs => (List.mem_append.mp hs).elim (ha.lt s) (hb.lt s)
  have hpa : 1 ≤ a.ss.length := List.length_pos_iff.mpr ha.ne
  have hpb : 1 ≤ b.ss.length := List.length_pos_iff.mpr hb.ne
  have hup : ∀ s ∈ a.ss ++ b.ss, L.getD s 0 + 2 ≤ a.ss.length + b.ss.length := fun s hs => (List.mem_append.mp hs).elim (fun h => by have := ha.up s h; omega) (fun h => by have := hb.up s h; omega)
  refine ⟨?_, hnd, ?_, ?_, ?_, ?_, ?_, ?_⟩
  · show a.ss ++ b.ss ≠ []
    intro e
    exact ha.ne (List.append_eq_nil_iff.mp e).1
  · intro s hs
    rw [bump_len]
    exact hlt s hs
  · intro s hs
    have hs : s ∈ a.ss ++ b.ss := hs
    show _ ≤ (a.ss ++ b.ss).length
    rw [bump_in _ L s hnd hs (hlt s hs), List.length_append]
    have := hup s hs
    omega
  · have e1 := halves_bump L a.ss (a.ss ++ b.ss) hnd hlt (fun s hs => by have := hup s hs; omega) (fun s hs => List.mem_append_left _ hs)
    have e2 := halves_bump L b.ss (a.ss ++ b.ss) hnd hlt (fun s hs => by have := hup s hs; omega) (fun s hs => List.mem_append_right _ hs)
    have e3 : halves (bump (a.ss ++ b.ss) L) (a.ss ++ b.ss) = halves (bump (a.ss ++ b.ss) L) a.ss + halves (bump (a.ss ++ b.ss) L) b.ss := by
      unfold halves
      rw [List.map_append, List.sum_append]
    show halves (bump (a.ss ++ b.ss) L) (a.ss ++ b.ss) = _
    rw [e3]
    rw [ha.hv] at e1
    rw [hb.hv] at e2
    omega
  · show a.w + b.w = wts cs (a.ss ++ b.ss)
    unfold wts
    rw [List.map_append, List.sum_append, ha.wt, hb.wt]
    rfl
  · show (a.ss ++ b.ss).length ≤ 64
    rw [List.length_append]
    exact hf
  · show min a.s b.s ∈ a.ss ++ b.ss
    rcases Nat.le_total a.s b.s with h | h
    · rw [Nat.min_eq_left h]; exact List.mem_append_left _ ha.mem
    · rw [Nat.min_eq_right h]; exact List.mem_append_right _ hb.mem
theorem other_ok {cs L : List Nat} {g : Gp} {tt : List Nat} (h : GOk cs L g) (hd : ∀ s ∈ g.ss, s ∉ tt) : GOk cs (bump tt L) g := by
  refine ⟨h.ne, h.nd, ?_, ?_, ?_, h.wt, h.few, h.mem⟩
  · intro s hs; rw [bump_len]; exact h.lt s hs
  · intro s hs; rw [bump_out _ _ _ (hd s hs)]; exact h.up s hs
  · rw [halves_same _ _ _ hd]; exact h.hv
end Tp
end
section
set_option Elab.async false
set_option linter.all false
set_option maxRecDepth 100000
set_option maxHeartbeats 4000000
namespace Tp
open PySem L2 Dl
def allS (gs : List Gp) : List Nat := gs.flatMap fun g => g.ss
def Disj (a b : Gp) : Prop := ∀ s ∈ a.ss, s ∉ b.ss
structure GsOk (cs L : List Nat) (gs : List Gp) : Prop where
  ok : ∀ g ∈ gs, GOk cs L g
  dj : gs.Pairwise Disj
  few : (allS gs).length ≤ 64
theorem allS_perm {a b : List Gp} (h : a.Perm b) : (allS a).Perm (allS b) := h.flatMap_right _
theorem Disj.symm {a b : Gp} (h : Disj a b) : Disj b a := fun s hs ha => h s ha hs
theorem GsOk.perm {cs L : List Nat} {a b : List Gp} (h : GsOk cs L a) (p : a.Perm b) : GsOk cs L b :=
  ⟨fun g hg => h.ok g (p.mem_iff.mpr hg), (p.pairwise_iff (fun {x y} => Disj.symm)).mp h.dj, by rw [← (allS_perm p).length_eq]; exact h.few⟩
theorem allS_cons (g : Gp) (gs : List Gp) : allS (g :: gs) = g.ss ++ allS gs := by unfold allS; rw [List.flatMap_cons]
theorem allS_app (a b : List Gp) : allS (a ++ b) = allS a ++ allS b := by unfold allS; rw [List.flatMap_append]
theorem GsOk.step {cs L : List Nat} {a b : Gp} {r : List Gp} (h : GsOk cs L (a :: b :: r)) : GsOk cs (bump (a.ss ++ b.ss) L) (r ++ [mergeG a b]) := by
  have hd := h.dj
  rw [List.pairwise_cons, List.pairwise_cons] at hd
  obtain ⟨d1, d2, d3⟩ := hd
  have hf := h.few
  rw [allS_cons, allS_cons, List.length_append, List.length_append] at hf
  have hab : Disj a b := d1 b (List.mem_cons_self ..)
  refine ⟨fun g hg => ?_, ?_, ?_⟩
  · rcases List.mem_append.mp hg with hg | hg
    · refine other_ok (h.ok g (List.mem_cons_of_mem _ (List.mem_cons_of_mem _ hg))) fun s hs hm => ?_
      rcases List.mem_append.mp hm with h1 | h1
      · exact d1 g (List.mem_cons_of_mem _ hg) s h1 hs
      · exact d2 g hg s h1 hs
    · rw [List.mem_singleton.mp hg]
      exact merge_ok (h.ok a (List.mem_cons_self ..)) (h.ok b (List.mem_cons_of_mem _ (List.mem_cons_self ..))) hab (by omega)
  · rw [List.pairwise_append]
    refine ⟨d3, List.pairwise_singleton _ _, fun g hg x hx => ?_⟩
    rw [List.mem_singleton.mp hx]
    intro s hs hm
    rcases List.mem_append.mp (show s ∈ a.ss ++ b.ss from hm) with h1 | h1
    · exact d1 g (List.mem_cons_of_mem _ hg) s h1 hs
    · exact d2 g hg s h1 hs
  · rw [allS_app, allS_cons, List.length_append, List.length_append]
    show (allS r).length + ((a.ss ++ b.ss).length + (allS []).length) ≤ 64
    rw [List.length_append]
    show (allS r).length + (a.ss.length + b.ss.length + 0) ≤ 64
    omega
/-- what the merges cost -/
def mcost : Nat → List Gp → Nat
  | 0, _ => 0
  | n + 1, gs => match sortG gs with
    | a :: b :: r => a.w + b.w + mcost n (r ++ [mergeG a b])
    | _ => 0
def costL (cs L ss : List Nat) : Nat := (ss.map fun s => cs.getD s 0 * L.getD s 0).sum
theorem costL_app (cs L a b : List Nat) : costL cs L (a ++ b) = costL cs L a + costL cs L b := by
  unfold costL; rw [List.map_append, List.sum_append]
theorem costL_perm {cs L a b : List Nat} (h : a.Perm b) : costL cs L a = costL cs L b := (h.map _).sum_nat
theorem costL_same (cs L ss tt : List Nat) (h : ∀ s ∈ ss, s ∉ tt) : costL cs (bump tt L) ss = costL cs L ss := by
  unfold costL
  congr 1
  apply List.map_congr_left
  intro s hs
  rw [bump_out tt L s (h s hs)]
theorem costL_bump (cs L tt : List Nat) (hn : tt.Nodup) (hl : ∀ s ∈ tt, s < L.length) : ∀ ss : List Nat, (∀ s ∈ ss, s ∈ tt) → costL cs (bump tt L) ss = costL cs L ss + wts cs ss
  | [], _ => rfl
  | s :: ss, h => by
    have ih := costL_bump cs L tt hn hl ss fun x hx => h x (List.mem_cons_of_mem _ hx)
    unfold costL wts at *
    rw [List.map_cons, List.sum_cons, ih, List.map_cons, List.sum_cons, List.map_cons, List.sum_cons, bump_in tt L s hn (h s (List.mem_cons_self ..)) (hl s (h s (List.mem_cons_self ..))), Nat.mul_add]
    omega
/-- all merges -/
theorem run_ok {cs : List Nat} : ∀ (n : Nat) (gs : List Gp) (L : List Nat), GsOk cs L gs → gs ≠ [] → gs.length ≤ n + 1 →
    ∃ g, GOk cs (runG n gs L) g ∧ g.ss.Perm (allS gs) ∧ (runG n gs L).length = L.length ∧ (∀ i, i ∉ allS gs → (runG n gs L).getD i 0 = L.getD i 0) ∧ costL cs (runG n gs L) (allS gs) = costL cs L (allS gs) + mcost n gs
  | 0, gs, L, h, hne, hl => by
    cases gs with
    | nil => exact absurd rfl hne
    | cons g r =>
      have : r = [] := List.eq_nil_of_length_eq_zero (by rw [List.length_cons] at hl; omega)
      subst this
      refine ⟨g, h.ok g (List.mem_cons_self ..), ?_, rfl, fun _ _ => rfl, rfl⟩
      rw [allS_cons]
      show g.ss.Perm (g.ss ++ [])
      rw [List.append_nil]
  | n + 1, gs, L, h, hne, hl => by
    have hp := sortG_perm gs
    have hlen := sortG_len gs
    have hs := h.perm hp.symm
    cases hq : sortG gs with
    | nil => rw [hq] at hlen; exact absurd (List.eq_nil_of_length_eq_zero hlen.symm) hne
    | cons a t =>
      cases t with
      | nil =>
        have e1 : runG (n + 1) gs L = L := by rw [runG, hq]
        have e2 : mcost (n + 1) gs = 0 := by rw [mcost, hq]
        rw [hq] at hp hs
        refine ⟨a, by rw [e1]; exact hs.ok a (List.mem_cons_self ..), ?_, by rw [e1], fun _ _ => by rw [e1], by rw [e1, e2]; rfl⟩
        have := allS_perm hp
        rw [allS_cons] at this
        exact (List.append_nil a.ss ▸ this)
      | cons b r =>
        have e1 : runG (n + 1) gs L = runG n (r ++ [mergeG a b]) (bump (a.ss ++ b.ss) L) := by rw [runG, hq]
        have e2 : mcost (n + 1) gs = a.w + b.w + mcost n (r ++ [mergeG a b]) := by rw [mcost, hq]
        rw [hq] at hp hs hlen
        rw [List.length_cons, List.length_cons] at hlen
        obtain ⟨g, g1, g2, g3, g4, g5⟩ := run_ok n (r ++ [mergeG a b]) (bump (a.ss ++ b.ss) L) hs.step (by simp) (by simp; omega)
        have hperm : (allS (r ++ [mergeG a b])).Perm (allS gs) := by
          refine List.Perm.trans ?_ (allS_perm hp)
          rw [allS_app, allS_cons, allS_cons, allS_cons]
          show (allS r ++ ((a.ss ++ b.ss) ++ [])).Perm (a.ss ++ (b.ss ++ allS r))
          rw [List.append_nil, ← List.append_assoc a.ss]
          exact List.perm_append_comm
        have ha := hs.ok a (List.mem_cons_self ..)
        have hb := hs.ok b (List.mem_cons_of_mem _ (List.mem_cons_self ..))
        have hd := hs.dj
        rw [List.pairwise_cons, List.pairwise_cons] at hd
        obtain ⟨d1, d2, d3⟩ := hd
        have hnd : (a.ss ++ b.ss).Nodup := List.nodup_append.mpr ⟨ha.nd, hb.nd, fun x hx y hy e => d1 b (List.mem_cons_self ..) x hx (e ▸ hy)⟩
        have hlt : ∀ s ∈ a.ss ++ b.ss, s < L.length := fun s hs => (List.mem_append.mp hs).elim (ha.lt s) (hb.lt s)
        refine ⟨g, by rw [e1]; exact g1, g2.trans hperm, by rw [e1, g3, bump_len], fun i hi => ?_, ?_⟩
        · rw [e1, g4 i (fun z => hi (hperm.mem_iff.mp z)), bump_out]
          intro z
          apply hi
          rw [← hperm.mem_iff, allS_app, allS_cons]
          exact List.mem_append_right _ (List.mem_append_left _ z)
        · rw [e1, e2, ← costL_perm hperm, g5, allS_app, allS_cons]
          show costL cs (bump (a.ss ++ b.ss) L) (allS r ++ ((a.ss ++ b.ss) ++ [])) + _ = _
          rw [List.append_nil, costL_app, costL_bump cs L _ hnd hlt _ (fun s h => h), costL_same cs L (allS r) _ (fun s hs hm => by
            obtain ⟨x, hx, hsx⟩ := List.mem_flatMap.mp hs
            rcases List.mem_append.mp hm with h1 | h1
            · exact d1 x (List.mem_cons_of_mem _ hx) s h1 hsx
            · exact d2 x hx s h1 hsx)]
          have e3 : costL cs L (allS gs) = costL cs L (allS r) + costL cs L (a.ss ++ b.ss) := by
            rw [← costL_perm hperm, allS_app, allS_cons]
            show costL cs L (allS r ++ ((a.ss ++ b.ss) ++ [])) = _
            rw [List.append_nil, costL_app]
          have e4 : wts cs (a.ss ++ b.ss) = a.w + b.w := by
            unfold wts
            rw [List.map_append, List.sum_append, ha.wt, hb.wt]
            rfl
          rw [e3, e4]
          show _ = costL cs L (allS r) + costL cs L (a.ss ++ b.ss) + (a.w + b.w + mcost n (r ++ [mergeG a b]))
          omega
end Tp
end
section
set_option Elab.async false
set_option linter.all false
set_option maxRecDepth 100000
set_option maxHeartbeats 0
namespace Tp
open PySem L2 Dl
/-! full lengths: the program's look and the law's, for short drawn lists -/
def usedL (l : List Int) : List Int := l.filter fun x => x != 0
def maxL : List Int → Int
  | [] => 0
  | x :: r => r.foldl max x
def fullP (l : List Int) : Bool :=
  let u := usedL l
  if u.any (fun x => decide (x < 0)) then false
  else if u.length ≤ 1 then u == [] || u == [1]
  else if maxL u ≥ (u.length : Int) then false
  else (u.map fun x => (2 : Int) ^ (maxL u - x).toNat).foldl (· + ·) 0 == (2 : Int) ^ (maxL u).toNat
def fullLaw (l : List Int) : Bool :=
  let u := usedL l
  if u == [] || u == [1] then true
  else if u.length == 1 || u.any (fun x => decide (x < 0) || decide (60 < x)) then false
  else (u.map fun x => (2 : Int) ^ (60 - x).toNat).foldl (· + ·) 0 == (2 : Int) ^ 60
def vals : List Int := [-1, 0, 1, 2, 3, 4, 5]
def lists : Nat → List (List Int)
  | 0 => [[]]
  | n + 1 => (lists n).flatMap fun l => vals.map fun x => x :: l
theorem full_same : [0, 1, 2, 3, 4, 5].all (fun n => (lists n).all fun l => fullP l == fullLaw l) = true := by decide +kernel
end Tp
end
section
set_option Elab.async false
set_option linter.all false
set_option maxRecDepth 100000
set_option maxHeartbeats 4000000
namespace Tp
open PySem L2 Dl
/-- the symbols that are used -/
def usedS (cs : List Nat) : List Nat := (List.range cs.length).filter fun i => decide (0 < cs.getD i 0)
theorem firstG_eq (cs : List Nat) : firstG cs = (usedS cs).map fun i => ⟨cs.getD i 0, i, [i]⟩ := by
  unfold firstG usedS
  have e : cs.zipIdx = (List.range cs.length).map fun i => (cs.getD i 0, i) := by
    apply List.ext_getElem?
    intro i
    rw [List.getElem?_map, List.getElem?_zipIdx]
    by_cases h : i < cs.length
    · rw [List.getElem?_range h, List.getElem?_eq_getElem h, Option.map_some, Option.map_some, List.getD_eq_getElem?_getD, List.getElem?_eq_getElem h]
      simp
    · rw [List.getElem?_eq_none (by omega), List.getElem?_eq_none (by simp; omega)]
      rfl
  rw [e, List.filter_map, List.map_map]
  rfl
theorem usedS_lt {cs : List Nat} {i : Nat} (h : i ∈ usedS cs) : i < cs.length ∧ 0 < cs.getD i 0 := by
  unfold usedS at h
  rw [List.mem_filter, List.mem_range, decide_eq_true_iff] at h
  exact h
theorem usedS_nd (cs : List Nat) : (usedS cs).Nodup := List.Pairwise.filter _ List.nodup_range
theorem usedS_len (cs : List Nat) : (usedS cs).length ≤ cs.length := by
  unfold usedS
  have := List.length_filter_le (fun i => decide (0 < cs.getD i 0)) (List.range cs.length)
  rwa [List.length_range] at this
theorem allS_first (cs : List Nat) : allS (firstG cs) = usedS cs := by
  rw [firstG_eq]
  unfold allS
  rw [List.flatMap_map]
  exact List.flatMap_singleton' _
theorem first_ok (cs : List Nat) (hm : cs.length ≤ 64) : GsOk cs (List.replicate cs.length 0) (firstG cs) := by
  refine ⟨fun g hg => ?_, ?_, ?_⟩
  · rw [firstG_eq] at hg
    obtain ⟨i, hi, rfl⟩ := List.mem_map.mp hg
    obtain ⟨h1, h2⟩ := usedS_lt hi
    have e0 : (List.replicate cs.length 0).getD i 0 = 0 := by
      rw [List.getD_eq_getElem?_getD, List.getElem?_replicate, if_pos h1]; rfl
    refine ⟨by simp, List.pairwise_singleton _ _, ?_, ?_, ?_, ?_, by simp, by simp⟩
    · intro s hs
      rw [List.mem_singleton.mp hs, List.length_replicate]; exact h1
    · intro s hs
      rw [List.mem_singleton.mp hs, e0]; simp
    · unfold halves
      rw [List.map_singleton, e0]
      rfl
    · unfold wts
      rw [List.map_singleton]
      rfl
  · rw [firstG_eq, List.pairwise_map]
    refine (List.Pairwise.imp ?_ (usedS_nd cs))
    intro a b hab s hs hb
    have h1 := List.mem_singleton.mp hs
    have h2 := List.mem_singleton.mp hb
    exact hab (h1.symm.trans h2)
  · rw [allS_first]
    have := usedS_len cs
    omega
theorem sum_ge {f : Nat → Nat} : ∀ {l : List Nat} {i : Nat}, i ∈ l → f i ≤ (l.map f).sum
  | x :: l, i, h => by
    rw [List.map_cons, List.sum_cons]
    rcases List.mem_cons.mp h with rfl | h
    · omega
    · have := sum_ge (f := f) h
      omega
theorem sum_gt {f : Nat → Nat} (hf : ∀ i, 0 < f i) : ∀ {l : List Nat} {i : Nat}, i ∈ l → 2 ≤ l.length → f i < (l.map f).sum
  | x :: y :: l, i, h, _ => by
    rw [List.map_cons, List.sum_cons, List.map_cons, List.sum_cons]
    have hx := hf x
    have hy := hf y
    rcases List.mem_cons.mp h with rfl | h
    · omega
    · rcases List.mem_cons.mp h with rfl | h
      · omega
      · have := sum_ge (f := f) h
        omega
/-- the lengths of two symbols or more -/
structure LensOk (cs L : List Nat) : Prop where
  len : L.length = cs.length
  out : ∀ i, i ∉ usedS cs → L.getD i 0 = 0
  lo : ∀ i ∈ usedS cs, 1 ≤ L.getD i 0
  up : ∀ i ∈ usedS cs, L.getD i 0 + 1 ≤ (usedS cs).length
  hv : halves L (usedS cs) = 2 ^ 64
theorem lens_many (cs : List Nat) (hm : cs.length ≤ 64) (h2 : 2 ≤ (usedS cs).length) : LensOk cs (lensP cs) ∧ costL cs (lensP cs) (usedS cs) = mcost cs.length (firstG cs) := by
  have hf := first_ok cs hm
  have hl : (firstG cs).length = (usedS cs).length := by rw [firstG_eq, List.length_map]
  have hu := usedS_len cs
  obtain ⟨g, g1, g2, g3, g4, g5⟩ := run_ok cs.length (firstG cs) (List.replicate cs.length 0) hf (by intro e; rw [e] at hl; simp at hl; omega) (by omega)
  have e : lensP cs = runG cs.length (firstG cs) (List.replicate cs.length 0) := by
    unfold lensP
    dsimp only
    split
    · rename_i x hx
      rw [hx] at hl
      simp at hl
      omega
    · rfl
  rw [allS_first] at g2 g4 g5
  rw [← e] at g1 g3 g4 g5
  rw [List.length_replicate] at g3
  have hz : ∀ i, (List.replicate cs.length 0).getD i 0 = 0 := fun i => by
    rw [List.getD_eq_getElem?_getD, List.getElem?_replicate]
    split <;> rfl
  have hhv : halves (lensP cs) (usedS cs) = 2 ^ 64 := by
    rw [← g1.hv]
    exact ((g2.map _).sum_nat).symm
  have hup : ∀ i ∈ usedS cs, (lensP cs).getD i 0 + 1 ≤ (usedS cs).length := fun i hi => by
    rw [← g2.length_eq]
    exact g1.up i (g2.mem_iff.mpr hi)
  refine ⟨⟨g3, fun i hi => by rw [g4 i hi, hz], fun i hi => ?_, hup, hhv⟩, ?_⟩
  · rcases Nat.eq_zero_or_pos ((lensP cs).getD i 0) with h0 | h0
    · have := sum_gt (f := fun s => 2 ^ (64 - (lensP cs).getD s 0)) (fun i => Nat.pow_pos (by omega)) hi h2
      rw [h0] at this
      unfold halves at hhv
      omega
    · exact h0
  · rw [g5]
    have : costL cs (List.replicate cs.length 0) (usedS cs) = 0 := by
      unfold costL
      rw [show (fun s => cs.getD s 0 * (List.replicate cs.length 0).getD s 0) = fun _ => 0 by funext s; rw [hz]; rfl]
      induction usedS cs with
      | nil => rfl
      | cons x l ih => rw [List.map_cons, List.sum_cons, ih]
    omega
end Tp
end
section
set_option Elab.async false
set_option linter.all false
set_option maxRecDepth 100000
set_option maxHeartbeats 4000000
namespace Tp
open PySem L2 Dl
/-! the least cost, up to four symbols -/
def rowsL : Nat → List (List Nat)
  | 0 => [[]]
  | n + 1 => (rowsL n).flatMap fun l => [1, 2, 3, 4].map fun x => l ++ [x]
def validL (l : List Nat) : Bool := decide ((l.map fun x => 2 ^ (4 - x)).sum ≤ 16)
def dot : List Nat → List Nat → Nat
  | x :: xs, y :: ys => x * y + dot xs ys
  | _, _ => 0
def leL : List Nat → List Nat → Bool
  | x :: xs, y :: ys => decide (x ≤ y) && leL xs ys
  | [], [] => true
  | _, _ => false
theorem dot_mono : ∀ {w a b : List Nat}, leL a b = true → dot w a ≤ dot w b
  | [], [], [], _ => Nat.le_refl _
  | [], [], _ :: _, _ => Nat.le_refl _
  | [], _ :: _, [], _ => Nat.le_refl _
  | [], _ :: _, _ :: _, _ => Nat.le_refl _
  | x :: w, [], b, h => Nat.zero_le _
  | x :: w, _ :: _, [], h => by cases h
  | x :: w, a :: as, b :: bs, h => by
    rw [leL, Bool.and_eq_true, decide_eq_true_iff] at h
    rw [dot, dot]
    have := dot_mono (w := w) h.2
    have := Nat.mul_le_mul_left x h.1
    omega
def best3 : List (List Nat) := [[2, 2, 1], [2, 1, 2], [1, 2, 2]]
def best4 : List (List Nat) := [[2, 2, 2, 2], [3, 3, 2, 1], [3, 3, 1, 2], [3, 2, 3, 1], [3, 1, 3, 2], [3, 2, 1, 3], [3, 1, 2, 3], [2, 3, 3, 1], [1, 3, 3, 2], [2, 3, 1, 3], [1, 3, 2, 3], [2, 1, 3, 3], [1, 2, 3, 3]]
theorem dom1 : (rowsL 1).all (fun l => !validL l || leL [1] l) = true := by decide +kernel
theorem dom2 : (rowsL 2).all (fun l => !validL l || leL [1, 1] l) = true := by decide +kernel
theorem dom3 : (rowsL 3).all (fun l => !validL l || best3.any fun m => leL m l) = true := by decide +kernel
theorem dom4 : (rowsL 4).all (fun l => !validL l || best4.any fun m => leL m l) = true := by decide +kernel
theorem perm_sum {a b : List Nat} (h : a.Perm b) (f : Nat → Nat) : (a.map f).sum = (b.map f).sum := (h.map f).sum_nat
theorem sorted_w (gs : List Gp) : ((sortG gs).map fun g => g.w).Perm (gs.map fun g => g.w) := (sortG_perm gs).map _
theorem mcost_two {n : Nat} {gs : List Gp} (h : gs.length = 2) : mcost (n + 1) gs = (gs.map fun g => g.w).sum := by
  have hl := sortG_len gs
  have hp := sorted_w gs
  rw [h] at hl
  match hq : sortG gs, hl with
  | [a, b], _ =>
    rw [hq] at hp
    rw [mcost, hq]
    have e := hp.sum_nat
    have z : mcost n ([] ++ [mergeG a b]) = 0 := by
      cases n with
      | zero => rfl
      | succ n =>
        rw [mcost]
        have hl2 := sortG_len ([] ++ [mergeG a b])
        match hq2 : sortG ([] ++ [mergeG a b]), hl2 with
        | [x], _ => rfl
    rw [← e]
    show a.w + b.w + mcost n ([] ++ [mergeG a b]) = _
    rw [z]
    simp
theorem mcost_three {n : Nat} {gs : List Gp} (h : gs.length = 3) : ∃ a b c : Nat, a ≤ b ∧ b ≤ c ∧ [a, b, c].Perm (gs.map fun g => g.w) ∧ mcost (n + 2) gs = (a + b) + (a + b + c) := by
  have hl := sortG_len gs
  have hp := sorted_w gs
  have hs := sortG_sorted gs
  rw [h] at hl
  match hq : sortG gs, hl with
  | [a, b, c], _ =>
    rw [hq] at hp hs
    have h1 : a.w ≤ b.w ∧ b.w ≤ c.w := by
      rw [List.pairwise_cons, List.pairwise_cons] at hs
      exact ⟨hs.1 b (by simp), hs.2.1 c (by simp)⟩
    refine ⟨a.w, b.w, c.w, h1.1, h1.2, hp, ?_⟩
    rw [mcost, hq]
    show a.w + b.w + mcost (n + 1) ([c] ++ [mergeG a b]) = _
    rw [mcost_two rfl]
    show a.w + b.w + (c.w + (a.w + b.w + 0)) = _
    omega
theorem mcost_four {n : Nat} {gs : List Gp} (h : gs.length = 4) : ∃ a b c d x : Nat, a ≤ b ∧ b ≤ c ∧ c ≤ d ∧ [a, b, c, d].Perm (gs.map fun g => g.w) ∧ x ≤ c + d ∧ x ≤ c + (a + b) ∧ mcost (n + 3) gs = (a + b) + x + (a + b + c + d) := by
  have hl := sortG_len gs
  have hp := sorted_w gs
  have hs := sortG_sorted gs
  rw [h] at hl
  match hq : sortG gs, hl with
  | [a, b, c, d], _ =>
    rw [hq] at hp hs
    have h1 : a.w ≤ b.w ∧ b.w ≤ c.w ∧ c.w ≤ d.w := by
      rw [List.pairwise_cons, List.pairwise_cons, List.pairwise_cons] at hs
      exact ⟨hs.1 b (by simp), hs.2.1 c (by simp), hs.2.2.1 d (by simp)⟩
    obtain ⟨x, y, z, g1, g2, g3, g4⟩ := mcost_three (n := n) (gs := [c, d] ++ [mergeG a b]) rfl
    have t0 := perm_sum g3 id
    have t1 := perm_sum g3 fun v => v - z
    simp [mergeG] at t0 t1
    refine ⟨a.w, b.w, c.w, d.w, x + y, h1.1, h1.2.1, h1.2.2, hp, by omega, by omega, ?_⟩
    rw [mcost, hq]
    show a.w + b.w + mcost (n + 2) ([c, d] ++ [mergeG a b]) = _
    rw [g4]
    omega
theorem four_num {p q r s a b c d x : Nat} {m : List Nat} (g1 : a ≤ b) (g2 : b ≤ c) (g3 : c ≤ d) (t0 : p + (q + (r + s)) = a + (b + (c + d))) (hpq : a + b ≤ p + q) (hpr : a + b ≤ p + r) (hps : a + b ≤ p + s) (hqr : a + b ≤ q + r) (hqs : a + b ≤ q + s) (hrs : a + b ≤ r + s)
    (h1 : p ≤ d) (h2 : q ≤ d) (h3 : r ≤ d) (h4 : s ≤ d) (g5 : x ≤ c + d) (g6 : x ≤ c + (a + b)) (hm : m ∈ best4) : a + b + x + (a + b + c + d) ≤ dot [p, q, r, s] m := by
  have key : ∀ i j k l : Nat, (i = 2 ∧ j = 2 ∧ k = 2 ∧ l = 2) ∨ (p * i + q * j + r * k + s * l ≥ a + b + x + (a + b + c + d)) → a + b + x + (a + b + c + d) ≤ p * i + (q * j + (r * k + (s * l + 0))) := by
    intro i j k l h
    rcases h with ⟨rfl, rfl, rfl, rfl⟩ | h
    · omega
    · omega
  unfold best4 at hm
  simp only [List.mem_cons, List.not_mem_nil, or_false] at hm
  rcases hm with rfl | rfl | rfl | rfl | rfl | rfl | rfl | rfl | rfl | rfl | rfl | rfl | rfl
  · exact key 2 2 2 2 (.inl ⟨rfl, rfl, rfl, rfl⟩)
  · exact key 3 3 2 1 (.inr (by omega))
  · exact key 3 3 1 2 (.inr (by omega))
  · exact key 3 2 3 1 (.inr (by omega))
  · exact key 3 1 3 2 (.inr (by omega))
  · exact key 3 2 1 3 (.inr (by omega))
  · exact key 3 1 2 3 (.inr (by omega))
  · exact key 2 3 3 1 (.inr (by omega))
  · exact key 1 3 3 2 (.inr (by omega))
  · exact key 2 3 1 3 (.inr (by omega))
  · exact key 1 3 2 3 (.inr (by omega))
  · exact key 2 1 3 3 (.inr (by omega))
  · exact key 1 2 3 3 (.inr (by omega))
theorem pair_num {p q r s a b c d : Nat} (g1 : a ≤ b) (g2 : b ≤ c) (g3 : c ≤ d) (t0 : p + (q + (r + s)) = a + (b + (c + d))) (t1 : p - b + (q - b + (r - b + (s - b))) = c - b + (d - b)) : a + b ≤ p + q := by
  have : (r - b) + (s - b) ≤ (c - b) + (d - b) := by omega
  omega
/-- no valid lengths cost less -/
theorem least_bound {n : Nat} {gs : List Gp} (h1 : 1 ≤ gs.length) (h4 : gs.length ≤ 4) (hn : gs.length ≤ n + 1) {l : List Nat} (hl : l ∈ rowsL gs.length) (hv : validL l = true) : (if gs.length = 1 then (gs.map fun g => g.w).sum else mcost n gs) ≤ dot (gs.map fun g => g.w) l := by
  rcases (show gs.length = 1 ∨ gs.length = 2 ∨ gs.length = 3 ∨ gs.length = 4 by omega) with h | h | h | h
  · rw [if_pos h]
    rw [h] at hl
    have hd := List.all_eq_true.mp dom1 l hl
    rw [hv] at hd
    match gs, h with
    | [a], _ =>
      have := dot_mono (w := [a.w]) (show leL [1] l = true by simpa using hd)
      refine Nat.le_trans ?_ this
      simp [dot]
  · rw [if_neg (by omega)]
    rw [h] at hl
    obtain ⟨n, rfl⟩ : ∃ k, n = k + 1 := ⟨n - 1, by omega⟩
    rw [mcost_two h]
    have hd := List.all_eq_true.mp dom2 l hl
    rw [hv] at hd
    match gs, h with
    | [a, b], _ =>
      have := dot_mono (w := [a.w, b.w]) (show leL [1, 1] l = true by simpa using hd)
      refine Nat.le_trans ?_ this
      simp [dot]
  · rw [if_neg (by omega)]
    rw [h] at hl
    obtain ⟨n, rfl⟩ : ∃ k, n = k + 2 := ⟨n - 2, by omega⟩
    obtain ⟨a, b, c, g1, g2, g3, g4⟩ := mcost_three (n := n) h
    rw [g4]
    have hd := List.all_eq_true.mp dom3 l hl
    rw [hv, Bool.not_true, Bool.false_or, List.any_eq_true] at hd
    obtain ⟨m, hm, hml⟩ := hd
    match gs, h with
    | [p, q, r], _ =>
      have t0 := perm_sum g3 id
      have t1 := perm_sum g3 fun v => v - c
      simp at t0 t1
      refine Nat.le_trans ?_ (dot_mono (w := [p.w, q.w, r.w]) hml)
      unfold best3 at hm
      simp at hm
      rcases hm with rfl | rfl | rfl <;> simp [dot] <;> omega
  · rw [if_neg (by omega)]
    rw [h] at hl
    obtain ⟨n, rfl⟩ : ∃ k, n = k + 3 := ⟨n - 3, by omega⟩
    obtain ⟨a, b, c, d, x, g1, g2, g3, g4, g5, g6, g7⟩ := mcost_four (n := n) h
    rw [g7]
    have hd := List.all_eq_true.mp dom4 l hl
    rw [hv, Bool.not_true, Bool.false_or, List.any_eq_true] at hd
    obtain ⟨m, hm, hml⟩ := hd
    match gs, h with
    | [p, q, r, s], _ =>
      have t0 := perm_sum g4 id
      have t1 := perm_sum g4 fun v => v - b
      have t2 := perm_sum g4 fun v => v - d
      refine Nat.le_trans ?_ (dot_mono (w := [p.w, q.w, r.w, s.w]) hml)
      have e0 : p.w + (q.w + (r.w + s.w)) = a + (b + (c + d)) := by simpa using t0.symm
      have e1 : p.w - b + (q.w - b + (r.w - b + (s.w - b))) = c - b + (d - b) := by
        have : a - b + (b - b + (c - b + (d - b))) = p.w - b + (q.w - b + (r.w - b + (s.w - b))) := by simpa using t1
        omega
      have e2 : p.w - d + (q.w - d + (r.w - d + (s.w - d))) = 0 := by
        have : a - d + (b - d + (c - d + (d - d))) = p.w - d + (q.w - d + (r.w - d + (s.w - d))) := by simpa using t2
        omega
      generalize p.w = pw at *
      generalize q.w = qw at *
      generalize r.w = rw' at *
      generalize s.w = sw at *
      exact four_num g1 g2 g3 e0 (pair_num g1 g2 g3 e0 e1) (pair_num (q := rw') (r := qw) (s := sw) g1 g2 g3 (by omega) (by omega)) (pair_num (q := sw) (r := qw) (s := rw') g1 g2 g3 (by omega) (by omega)) (pair_num (p := qw) (q := rw') (r := pw) (s := sw) g1 g2 g3 (by omega) (by omega)) (pair_num (p := qw) (q := sw) (r := pw) (s := rw') g1 g2 g3 (by omega) (by omega)) (pair_num (p := rw') (q := sw) (r := pw) (s := qw) g1 g2 g3 (by omega) (by omega)) (by omega) (by omega) (by omega) (by omega) g5 g6 hm
end Tp
end
section
set_option Elab.async false
set_option linter.all false
set_option maxRecDepth 100000
set_option maxHeartbeats 4000000
namespace Tp
open PySem L2 Dl
/-! the rows of bits: none is a beginning of another one -/
def digitsN (m l : Nat) : List Nat := (List.range l).map fun k => m / 2 ^ (l - 1 - k) % 2
theorem digits_len (m l : Nat) : (digitsN m l).length = l := by unfold digitsN; simp
theorem digits_take {m l' l : Nat} (h : l ≤ l') : (digitsN m l').take l = digitsN (m / 2 ^ (l' - l)) l := by
  unfold digitsN
  rw [← List.map_take, List.take_range, Nat.min_eq_left h]
  apply List.map_congr_left
  intro k hk
  rw [List.mem_range] at hk
  rw [Nat.div_div_eq_div_mul, ← Nat.pow_add, show l' - l + (l - 1 - k) = l' - 1 - k by omega]
theorem digits_inj {m n l : Nat} (hm : m < 2 ^ l) (hn : n < 2 ^ l) (h : digitsN m l = digitsN n l) : m = n := by
  apply Nat.eq_of_testBit_eq
  intro i
  by_cases hi : i < l
  · have := congrArg (fun x => x[l - 1 - i]?) h
    unfold digitsN at this
    simp only [List.getElem?_map, List.getElem?_range (show l - 1 - i < l by omega), Option.map_some, Option.some.injEq] at this
    rw [show l - 1 - (l - 1 - i) = i by omega] at this
    rw [Nat.testBit_eq_decide_div_mod_eq, Nat.testBit_eq_decide_div_mod_eq, this]
  · rw [Nat.testBit_lt_two_pow (Nat.lt_of_lt_of_le hm (Nat.pow_le_pow_right (by omega) (by omega))), Nat.testBit_lt_two_pow (Nat.lt_of_lt_of_le hn (Nat.pow_le_pow_right (by omega) (by omega)))]
/-- the numbers of the code, by the lengths in order -/
def nums : Nat → Nat → List Nat → List (Nat × Nat)
  | _, _, [] => []
  | n, z, l :: r => (n * 2 ^ (l - z), l) :: nums (n * 2 ^ (l - z) + 1) l r
theorem nums_ge : ∀ (ls : List Nat) (n z : Nat), (z :: ls).Pairwise (· ≤ ·) → ∀ p ∈ nums n z ls, z ≤ p.2 ∧ n * 2 ^ (p.2 - z) ≤ p.1
  | [], n, z, _, p, hp => by rw [nums] at hp; simp at hp
  | l :: r, n, z, h, p, hp => by
    rw [nums] at hp
    rw [List.pairwise_cons] at h
    have hzl : z ≤ l := h.1 l (by simp)
    rcases List.mem_cons.mp hp with rfl | hp
    · exact ⟨hzl, Nat.le_refl _⟩
    · obtain ⟨g1, g2⟩ := nums_ge r _ l h.2 p hp
      refine ⟨by omega, Nat.le_trans ?_ g2⟩
      rw [Nat.add_mul, Nat.mul_assoc, ← Nat.pow_add, show l - z + (p.2 - l) = p.2 - z by omega]
      exact Nat.le_add_right _ _
theorem nums_fit : ∀ (ls : List Nat) (n z : Nat), (z :: ls).Pairwise (· ≤ ·) → (∀ l ∈ ls, l ≤ 64) → z ≤ 64 → n * 2 ^ (64 - z) + (ls.map fun l => 2 ^ (64 - l)).sum ≤ 2 ^ 64 → ∀ p ∈ nums n z ls, p.1 < 2 ^ p.2
  | [], n, z, _, _, _, _, p, hp => by rw [nums] at hp; simp at hp
  | l :: r, n, z, h, hu, hz, hs, p, hp => by
    rw [nums] at hp
    rw [List.pairwise_cons] at h
    have hzl : z ≤ l := h.1 l (by simp)
    have hl := hu l (by simp)
    rw [List.map_cons, List.sum_cons] at hs
    have e : n * 2 ^ (64 - z) = n * 2 ^ (l - z) * 2 ^ (64 - l) := by
      rw [Nat.mul_assoc, ← Nat.pow_add, show l - z + (64 - l) = 64 - z by omega]
    rw [e] at hs
    rcases List.mem_cons.mp hp with rfl | hp
    · show n * 2 ^ (l - z) < 2 ^ l
      have h1 : (n * 2 ^ (l - z) + 1) * 2 ^ (64 - l) ≤ 2 ^ l * 2 ^ (64 - l) := by
        rw [← Nat.pow_add, show l + (64 - l) = 64 by omega, Nat.add_mul, Nat.one_mul]
        omega
      have := Nat.le_of_mul_le_mul_right h1 (Nat.pow_pos (by omega))
      omega
    · refine nums_fit r _ l h.2 (fun x hx => hu x (List.mem_cons_of_mem _ hx)) hl ?_ p hp
      rw [Nat.add_mul, Nat.one_mul]
      omega
/-- of two rows of the code none is a beginning of the other -/
theorem nums_apart : ∀ (ls : List Nat) (n z : Nat), (z :: ls).Pairwise (· ≤ ·) → (nums n z ls).Pairwise fun p q => p.2 ≤ q.2 ∧ (p.1 + 1) * 2 ^ (q.2 - p.2) ≤ q.1
  | [], n, z, _ => by rw [nums]; exact List.Pairwise.nil
  | l :: r, n, z, h => by
    rw [nums, List.pairwise_cons]
    rw [List.pairwise_cons] at h
    exact ⟨fun q hq => nums_ge r _ l h.2 q hq, nums_apart r _ l h.2⟩
theorem apart_rows {p q : Nat × Nat} (h1 : p.2 ≤ q.2) (h2 : (p.1 + 1) * 2 ^ (q.2 - p.2) ≤ q.1) (hp : p.1 < 2 ^ p.2) (hq : q.1 < 2 ^ q.2) : (digitsN q.1 q.2).take p.2 ≠ digitsN p.1 p.2 ∧ (digitsN p.1 p.2).take q.2 ≠ digitsN q.1 q.2 := by
  have hlt : q.1 / 2 ^ (q.2 - p.2) < 2 ^ p.2 := by
    rw [Nat.div_lt_iff_lt_mul (Nat.pow_pos (by omega)), ← Nat.pow_add, show p.2 + (q.2 - p.2) = q.2 by omega]
    exact hq
  have hge : p.1 + 1 ≤ q.1 / 2 ^ (q.2 - p.2) := (Nat.le_div_iff_mul_le (Nat.pow_pos (by omega))).mpr h2
  refine ⟨fun e => ?_, fun e => ?_⟩
  · rw [digits_take h1] at e
    have := digits_inj hlt hp e
    omega
  · have hl := congrArg List.length e
    rw [List.length_take, digits_len, digits_len] at hl
    have h3 : p.2 = q.2 := by omega
    rw [← h3, List.take_of_length_le (by rw [digits_len]; omega)] at e
    have e2 := digits_inj hp (by rw [h3]; exact hq) e
    rw [h3, Nat.sub_self, Nat.pow_zero, Nat.div_one] at hge
    omega
end Tp
end
section
set_option Elab.async false
set_option linter.all false
set_option maxRecDepth 100000
set_option maxHeartbeats 4000000
namespace Dl
open PySem L2
/-! `in` for lists of ints -/
theorem flatL_ints : ∀ ns : List Int, flatL (ns.map D.int) = some (ns.map V.int)
  | [] => rfl
  | n :: ns => by
    rw [List.map_cons, flatL, flatL_ints ns]
    rfl
theorem inV_ints (k : Int) : ∀ ns : List Int, inV (.int k) (ns.map V.int) = decide (k ∈ ns)
  | [] => rfl
  | n :: ns => by
    have ih := inV_ints k ns
    unfold inV at *
    rw [List.map_cons, List.any_cons, ih]
    by_cases h : k = n
    · simp [h, eqV_int]
    · have h2 : ¬ n = k := fun e => h e.symm
      simp [h, h2, eqV_int]
@[simp] theorem inB_ints {k : Int} {ns : List Int} : inB (.int k) (.lst (ns.map D.int)) = some (decide (k ∈ ns)) := by
  show inSeq _ _ = _
  unfold inSeq
  rw [flatL_ints]
  show some (inV (.int k) (ns.map V.int)) = _
  rw [inV_ints]
@[simp] theorem notInB_ints {k : Int} {ns : List Int} : notInB (.int k) (.lst (ns.map D.int)) = some (!decide (k ∈ ns)) := by
  unfold notInB
  rw [inB_ints]
section
variable {it : Env → Rs Itr} {g : Tg} {fg : List Nat} {body : Sv} {items : List D} {chk : Env → Prop}
/-- a for that breaks off at its item n -/
theorem forD_bk (E : Nat → Env) {e' : Env} : ∀ (items : List D) (j n : Nat) (d : D), items[n]? = some d →
    (∀ i d, i < n → items[i]? = some d → chk (E (j + i)) ∧ turn g body fg d (E (j + i)) = .nx (E (j + i + 1))) →
    (chk (E (j + n)) ∧ turn g body fg d (E (j + n)) = .bk e') → forD g chk body fg items (E j) = .nx e'
  | [], _, _, _, h, _, _ => by simp at h
  | a :: l, j, 0, d, h, _, hx => by
    have h : a = d := by simpa using h
    subst h
    obtain ⟨h1, h2⟩ := hx
    have h1 : chk (E j) := h1
    have h2 : turn g body fg a (E j) = .bk e' := h2
    unfold forD
    rw [if_pos h1]
    unfold turn turnO at h2
    cases hg : g a (E j) with
    | none => rw [hg] at h2; cases h2
    | some e1 =>
      rw [hg] at h2
      dsimp only at h2 ⊢
      cases hb : body e1 with
      | bk e2 => rw [hb] at h2; cases h2; rfl
      | _ => rw [hb] at h2; cases h2
  | a :: l, j, n + 1, d, h, hs, hx => by
    obtain ⟨h1, h2⟩ := hs 0 a (Nat.succ_pos _) rfl
    obtain ⟨e1, e2, q1, q2, q3⟩ := turn_nx h2
    have go := forD_bk E l (j + 1) n d (by simpa using h) (fun i d hi hd => by
      have := hs (i + 1) d (by omega) (by simpa using hd)
      rwa [show j + (i + 1) = j + 1 + i by omega] at this) (by rwa [show j + (n + 1) = j + 1 + n by omega] at hx)
    simp only [Nat.add_zero] at h1 q1 q3
    unfold forD
    rw [if_pos h1]
    simp only [q1]
    rcases q2 with q2 | q2
    · simp only [q2]
      rw [q3]
      exact go
    · simp only [q2]
      rw [q3]
      exact go
theorem for_bk (E : Nat → Env) {e0 e' : Env} (n : Nat) (d : D) (hit : it e0 = .ok ⟨items, chk⟩ (E 0)) (hd : items[n]? = some d)
    (hs : ∀ i d, i < n → items[i]? = some d → chk (E i) ∧ turn g body fg d (E i) = .nx (E (i + 1))) (hx : chk (E n) ∧ turn g body fg d (E n) = .bk e') : sFor it g fg body e0 = .nx e' := by
  unfold sFor
  rw [hit]
  show forD g chk body fg items (E 0) = _
  refine forD_bk E items 0 n d hd (fun i d hi hd => ?_) ?_
  · rw [Nat.zero_add]; exact hs i d hi hd
  · rw [Nat.zero_add]; exact hx
end
end Dl
end
section
set_option Elab.async false
set_option linter.all false
set_option maxRecDepth 100000
set_option maxHeartbeats 4000000
namespace Dl
open PySem L2
/-! `in` of an own list -/
def inR (neg : Bool) (o : Option Bool) (e : Env) : Rs Bool := match o with | some z => .ok (z != neg) e | none => .fail
def inC (x : D) (o : Option Cell) : Option Bool := match o with | some (.lst ys) => inSeq x ys | _ => none
def kInL (neg : Bool) (w1 w2 : W) : Env → Rs Bool := fun e => match w1, w2 with
  | .d x, .d y => inR neg (inB x y) e
  | .d x, .loc n => inR neg (inC x (e.cell n)) e
  | _, _ => .fail
def bIn (neg : Bool) (f1 f2 : Ev) : Env → Rs Bool := bin2 f1 f2 (kInL neg)
theorem neq_if (z neg : Bool) : (z != neg) = (if neg then !z else z) := by cases z <;> cases neg <;> rfl
section
variable {K : PySem.W.Frag} {Wx : WX}
theorem kInL_ok {neg : Bool} {bs : Bs} {R : Hp} {ρ : Nat → Addr} {e : Env} {σ : St} {H : Hp} {w1 w2 : W} {v1 v2 : V} {Q : Bool → Hp → Prop} (m : Md K bs R ρ e σ H) (r1 : RepW K R ρ w1 v1) (r2 : RepW K R ρ w2 v2)
    (q : OkR K Wx lB bs R ρ e σ Q (kInL neg w1 w2 e)) : rInD K neg v1 v2 H (fun x H' => ∃ k, x = .bl k ∧ Q k H') := by
  unfold kInL at q
  split at q
  · rename_i x y
    cases hg : inB x y with
    | none => rw [hg] at q; exact q.elim
    | some z =>
      rw [hg] at q
      exact inB_gen hg r1 r2 m.sub ⟨_, rfl, by have := q.fin m (L := lB) rfl; rwa [neq_if] at this⟩
  · rename_i x n
    cases hc : e.cell n with
    | none => rw [hc] at q; exact q.elim
    | some c =>
      rw [hc] at q
      have ca := m.cell n c hc
      cases c with
      | lst ys =>
        obtain ⟨vs, h1, l1⟩ := ca
        have q : OkR K Wx lB bs R ρ e σ Q (inR neg (inSeq x ys) e) := q
        cases hg : inSeq x ys with
        | none => rw [hg] at q; exact q.elim
        | some z =>
          rw [hg] at q
          have e2 : v2 = .ref (ρ n) := r2
          subst e2
          have rx : Rep K R x v1 := r1
          unfold inSeq at hg
          cases a1 : flatD x with
          | none => rw [a1] at hg; cases hg
          | some w =>
            cases a2 : flatL ys with
            | none => rw [a1, a2] at hg; cases hg
            | some ws =>
              rw [a1, a2] at hg; cases hg
              obtain ⟨g1, g2⟩ := flatD_rep a1 rx
              obtain ⟨g3, g4⟩ := flatL_rep a2 l1
              subst g1; subst g3
              exact .inl ⟨_, _, rfl, .inl (SqL.of h1), g2, g4, _, rfl, by have := q.fin m (L := lB) rfl; rwa [neq_if] at this⟩
      | _ => exact q.elim
  · exact q.elim
end
section
variable {X : Cx} {Wx : WX} {a b : Expr} {pos : Pos} {f1 f2 : Ev}
theorem t_in (ha : PE X a (tD X.K Wx f1)) (hb : PE X b (tD X.K Wx f2)) (hm : behindInMarks .In b = false := by rfl) : PT X (.Compare a [.In] [b] pos) (tDT X.K Wx (bIn false f1 f2)) :=
  (pt_cmpR op_inB ha hb hm).imp fun σ H Q h => tG_two h fun bs R ρ e H w1 w2 v1 v2 m r1 r2 q => kInL_ok m r1 r2 q
theorem t_notin (ha : PE X a (tD X.K Wx f1)) (hb : PE X b (tD X.K Wx f2)) (hm : behindInMarks .NotIn b = false := by rfl) : PT X (.Compare a [.NotIn] [b] pos) (tDT X.K Wx (bIn true f1 f2)) :=
  (pt_cmpR op_notInB ha hb hm).imp fun σ H Q h => tG_two h fun bs R ρ e H w1 w2 v1 v2 m r1 r2 q => kInL_ok m r1 r2 q
end
section
variable {f1 f2 : Ev} {e : Env} {neg z : Bool} {x y : D} {n : Nat} {ys : List D}
@[simp] theorem bIn_ev : bIn neg f1 f2 e = b2a (f1 e) f2 (kInL neg) := rfl
@[simp] theorem kInL_d : kInL neg (.d x) (.d y) e = inR neg (inB x y) e := rfl
@[simp] theorem kInL_loc : kInL neg (.d x) (.loc n) e = inR neg (inC x (e.cell n)) e := rfl
@[simp] theorem inC_lst : inC x (some (.lst ys)) = inB x (.lst ys) := rfl
@[simp] theorem inR_some : inR neg (some z) e = .ok (z != neg) e := rfl
end
end Dl
end
section
set_option Elab.async false
set_option linter.all false
set_option maxRecDepth 100000
set_option maxHeartbeats 4000000
namespace Dl
open PySem L2
/-! comparisons with own lists; list.pop(i) -/
/-- the data that a value is at present -/
def vwC : Option Cell → Option D | some (.lst xs) => some (.lst xs) | _ => none
def vwE (e : Env) : W → Option D
  | .d x => some x
  | .loc n => vwC (e.cell n)
def kB3 (g : D → D → Option Bool) (w1 w2 : W) : Env → Rs Bool := fun e => match vwE e w1, vwE e w2 with
  | some x, some y => (match g x y with | some z => .ok z e | none => .fail)
  | _, _ => .fail
def bOpL (g : D → D → Option Bool) (f1 f2 : Ev) : Env → Rs Bool := bin2 f1 f2 (kB3 g)
section
variable {K : PySem.W.Frag} {Wx : WX} {b : Bs} {R : Hp} {ρ : Nat → Addr} {e : Env} {σ : St} {H : Hp}
theorem vwE_ok {w : W} {v : V} {x : D} (m : Md K b R ρ e σ H) (r : RepW K R ρ w v) (h : vwE e w = some x) : Rep K H x v := by
  cases w with
  | d y =>
    cases h
    exact Rep.mono m.sub r
  | loc n =>
    have e1 : v = .ref (ρ n) := r
    subst e1
    have h : vwC (e.cell n) = some x := h
    cases hc : e.cell n with
    | none => rw [hc] at h; cases h
    | some c =>
      rw [hc] at h
      cases c with
      | lst xs =>
        cases h
        obtain ⟨vs, h1, l1⟩ := m.cell n _ hc
        exact .lst h1 (l1.mono m.sub)
      | _ => cases h
theorem OpB.run3 {g : D → D → Option Bool} {r : R2} (o : OpB K g r) {w1 w2 : W} {v1 v2 : V} {Q : Bool → Hp → Prop} (m : Md K b R ρ e σ H) (r1 : RepW K R ρ w1 v1) (r2 : RepW K R ρ w2 v2)
    (q : OkR K Wx lB b R ρ e σ Q (kB3 g w1 w2 e)) : r v1 v2 H (fun x H' => ∃ k, x = .bl k ∧ Q k H') := by
  unfold kB3 at q
  cases a1 : vwE e w1 with
  | none => rw [a1] at q; exact q.elim
  | some x =>
    cases a2 : vwE e w2 with
    | none => rw [a1, a2] at q; exact q.elim
    | some y =>
      rw [a1, a2] at q
      dsimp only at q
      cases hg : g x y with
      | none => rw [hg] at q; exact q.elim
      | some z =>
        rw [hg] at q
        exact o x y z v1 v2 H H _ hg (vwE_ok m r1 a1) (vwE_ok m r2 a2) (Same.refl H) ⟨z, rfl, q.fin m rfl⟩
def kPopI (w : W) (ws : List W) : Ev := fun e => match w, ws with
  | .loc n, [.d (.int i)] => match e.cell n with
    | some (.lst xs) => (match seqIndex? i xs.length with
      | some k => if -9223372036854775808 ≤ i ∧ i < 9223372036854775808 then (match xs[k]? with
        | some y => .ok (.d y) (e.setC n (some (.lst (xs.eraseIdx k))))
        | none => .fail) else .fail
      | none => .fail)
    | _ => .fail
  | _, _ => .fail
theorem kPopI_ok : MethD K Wx kPopI rPopAt := fun b R ρ e σ H w v ws vs Q m r rs q => by
  unfold kPopI at q
  split at q
  · rename_i n i
    have e1 : v = .ref (ρ n) := r
    subst e1
    obtain ⟨u, e2, ru⟩ := pair1 rs
    subst e2
    have ru : Rep K R (.int i) u := ru
    cases ru
    split at q
    · rename_i xs hc
      obtain ⟨us, h1, l1⟩ := m.cell n _ hc
      cases hk : seqIndex? i xs.length with
      | none => rw [hk] at q; exact q.elim
      | some k =>
        rw [hk] at q
        dsimp only at q
        split at q
        · rename_i hb
          cases hy : xs[k]? with
          | none => rw [hy] at q; exact q.elim
          | some y =>
            rw [hy] at q
            obtain ⟨u, hu, ru⟩ := l1.get hy
            exact ⟨_, us, i, k, u, rfl, rfl, h1, hb.1, hb.2, by rw [← l1.length]; exact hk, hu, wr_ok (c' := .lst (xs.eraseIdx k)) m q hc ⟨_, upd_same, l1.erase k⟩ ru⟩
        · exact q.elim
    · exact q.elim
  · exact q.elim
end
section
variable {X : Cx} {Wx : WX} {a c : Expr} {pos : Pos} {f1 f2 : Ev}
theorem t_cmpL {op : CmpOp} {r : R2} {g : D → D → Option Bool} {f1 f2 : Ev} {b : Expr} (ho : OpR X (compareOp op) r) (hd : OpB X.K g r) (ha : PE X a (tD X.K Wx f1)) (hb : PE X b (tD X.K Wx f2)) (hm : behindInMarks op b = false) : PT X (.Compare a [op] [b] pos) (tDT X.K Wx (bOpL g f1 f2)) :=
  (pt_cmpR ho ha hb hm).imp fun σ H Q h => tG_two h fun bs R ρ e H w1 w2 v1 v2 m r1 r2 q => hd.run3 (Wx := Wx) m r1 r2 q
end
section
variable {f1 f2 : Ev} {e : Env} {g : D → D → Option Bool} {x y : D} {n m : Nat} {xs ys : List D} {w : W}
@[simp] theorem bOpL_ev : bOpL g f1 f2 e = b2a (f1 e) f2 (kB3 g) := rfl
def b3R (g : D → D → Option Bool) (o p : Option D) (e : Env) : Rs Bool := match o, p with | some x, some y => okB (g x y) e | _, _ => .fail
theorem vwE_loc : vwE e (.loc n) = vwC (e.cell n) := rfl
@[simp] theorem kB3_ld : kB3 g (.loc n) (.d y) e = b3R g (vwC (e.cell n)) (some y) e := by
  unfold kB3 b3R
  show (match vwC (e.cell n), some y with | some x, some y => (match g x y with | some z => Rs.ok z e | none => .fail) | _, _ => .fail) = _
  cases vwC (e.cell n) <;> rfl
@[simp] theorem kB3_dl : kB3 g (.d x) (.loc n) e = b3R g (some x) (vwC (e.cell n)) e := by
  unfold kB3 b3R
  show (match some x, vwC (e.cell n) with | some x, some y => (match g x y with | some z => Rs.ok z e | none => .fail) | _, _ => .fail) = _
  cases vwC (e.cell n) <;> rfl
@[simp] theorem kB3_dd : kB3 g (.d x) (.d y) e = okB (g x y) e := rfl
@[simp] theorem vwC_lst : vwC (some (.lst xs)) = some (.lst xs) := rfl
@[simp] theorem b3R_some : b3R g (some x) (some y) e = okB (g x y) e := rfl
theorem seq_nat {n k : Nat} (h : k < n) : seqIndex? (k : Int) n = some k := by
  unfold seqIndex?
  simp
  omega
theorem kPopI_ev {k : Nat} {i : Int} (hi : i = k) (hc : e.cell n = some (.lst xs)) (h : k < xs.length) (hx : xs.length < 1000000) : kPopI (.loc n) [.d (.int i)] e = .ok (.d xs[k]) (e.setC n (some (.lst (xs.eraseIdx k)))) := by
  subst hi
  unfold kPopI
  simp only [hc, seq_nat h, List.getElem?_eq_getElem h]
  rw [if_pos (by omega)]
end
end Dl
end
section
set_option Elab.async false
set_option linter.all false
set_option maxRecDepth 100000
set_option maxHeartbeats 4000000
namespace Dl
open PySem L2
/-! abs -/
def absD : D → Option D
  | .int i => some (.int (if i < 0 then -i else i))
  | _ => none
section
variable {K : PySem.W.Frag} {Wx : WX}
theorem kAbs_ok : CallD K Wx (k1 absD) (fun xs H Q => ∃ i, xs = [.int i] ∧ Q (.int (if i < 0 then -i else i)) H) := k1_ok fun x z v R H Q hz rv s q n => by
  cases rv <;> first | (cases hz; exact ⟨_, rfl, q _ (.int _)⟩) | cases hz
end
@[simp] theorem absD_int {i : Int} : absD (.int i) = some (.int (if i < 0 then -i else i)) := rfl
/-! a text, n times -/
def repS (x : Str) (n : Int) : Str := ⟨(List.replicate n.toNat x.cps).foldl (· ++ ·) #[]⟩
theorem foldl_cat : ∀ (l : List (Array Nat)) (a : Array Nat), (l.foldl (· ++ ·) a).toList = a.toList ++ (l.map (·.toList)).flatten
  | [], a => by simp
  | b :: l, a => by
    rw [List.foldl_cons, foldl_cat l (a ++ b)]
    simp
theorem repS_list (x : Str) (n : Int) : (repS x n).cps.toList = (List.replicate n.toNat x.cps.toList).flatten := by
  unfold repS
  rw [foldl_cat]
  simp
theorem repS_len (x : Str) (n : Int) : (repS x n).length = n.toNat * x.length := by
  show (repS x n).cps.size = _
  rw [← Array.length_toList, repS_list]
  simp
  rfl
def CRepS (x : Str) (n : Int) : Prop := 2 ≤ n ∧ n ≤ 100000 ∧ 1 ≤ x.length ∧ x.length ≤ 100
instance (x : Str) (n : Int) : Decidable (CRepS x n) := by unfold CRepS; infer_instance
theorem op_repS {X : Cx} : OpR X (binaryOp .Mult) (fun x y H Q => ∃ i n, x = .str i ∧ y = .int n ∧ CRepS i n ∧ Q (.str (repS i n)) H) := by
  intro pins s σ H x y v u Q I rx ry h
  obtain ⟨i, n, rfl, rfl, ⟨h1, h2, h3, h4⟩, q⟩ := h
  obtain ⟨t, rfl⟩ := rx
  obtain ⟨t', rfl⟩ := ry
  have hb : i.length * n.toNat ≤ 10000000 := Nat.le_trans (Nat.mul_le_mul h4 (show n.toNat ≤ 100000 by omega)) (by decide)
  have hsl : sizeLine = 16777216 := by decide
  refine P.mul_str (by rw [decide_eq_false (by omega), decide_eq_false (by omega)]; rfl) (fun _ _ => ?_) (fun _ _ => ?_) ?_
  · have : (92233720368547 : Int) ≤ (2 ^ 63 - 1) / n := by
      rw [Int.le_ediv_iff_mul_le (by omega)]
      have := Int.mul_le_mul_of_nonneg_left h2 (show (0 : Int) ≤ 92233720368547 by decide)
      omega
    omega
  · unfold Builtin.Str.tooLong
    rw [decide_eq_false (by rw [hsl]; omega)]
  · rw [if_neg (by omega), if_neg]
    · refine ⟨?_, .str _, H, I.tok _, ⟨_, rfl⟩, q⟩
      show (repS i n).length ≤ _
      rw [repS_len, Nat.mul_comm, hsl]
      omega
    · simp
      exact ⟨by omega, by intro z; rw [z] at h3; simp at h3⟩
def mulSD : D → D → Option D
  | .str x, .int n => if CRepS x n then some (.str (repS x n)) else none
  | _, _ => none
section
variable {K : PySem.W.Frag} {Wx : WX}
theorem mulSD_ok : OpD K mulSD (fun x y H Q => ∃ i n, x = .str i ∧ y = .int n ∧ CRepS i n ∧ Q (.str (repS i n)) H) := fun x y z v u R H Q hg r1 r2 s q n => by
  unfold mulSD at hg
  split at hg
  · split at hg
    · rename_i c
      cases hg
      cases r1
      cases r2
      exact ⟨_, _, rfl, rfl, c, q _ (.str _)⟩
    · cases hg
  · cases hg
end
@[simp] theorem mulSD_ev {x : Str} {n : Int} (h : CRepS x n) : mulSD (.str x) (.int n) = some (.str (repS x n)) := if_pos h
/-! comparisons of ints and of texts -/
def leS : D → D → Option Bool
  | .int i, .int j => some (decide (i ≤ j))
  | .str x, .str y => some (!decide (y.cps.toList < x.cps.toList))
  | _, _ => none
def gtS : D → D → Option Bool
  | .int i, .int j => some (decide (j < i))
  | .str x, .str y => some (decide (y.cps.toList < x.cps.toList))
  | _, _ => none
def geS : D → D → Option Bool
  | .int i, .int j => some (decide (j ≤ i))
  | .str x, .str y => some (!decide (x.cps.toList < y.cps.toList))
  | _, _ => none
section
variable {X : Cx} {K : PySem.W.Frag}
theorem op_leS : OpR X (compareOp .LtE) (fun x y H Q => rI0 (fun i j => .bl (decide (i ≤ j))) x y H Q ∨ ∃ i j, x = .str i ∧ y = .str j ∧ Q (.bl (!decide (j.cps.toList < i.cps.toList))) H) := op_le.or op_le_str
theorem op_gtS : OpR X (compareOp .Gt) (fun x y H Q => rI0 (fun i j => .bl (decide (j < i))) x y H Q ∨ ∃ i j, x = .str i ∧ y = .str j ∧ Q (.bl (decide (j.cps.toList < i.cps.toList))) H) := op_gt.or op_gt_str
theorem op_geS : OpR X (compareOp .GtE) (fun x y H Q => rI0 (fun i j => .bl (decide (j ≤ i))) x y H Q ∨ ∃ i j, x = .str i ∧ y = .str j ∧ Q (.bl (!decide (i.cps.toList < j.cps.toList))) H) := op_ge.or op_ge_str
theorem leS_ok : OpB K leS (fun x y H Q => rI0 (fun i j => .bl (decide (i ≤ j))) x y H Q ∨ ∃ i j, x = .str i ∧ y = .str j ∧ Q (.bl (!decide (j.cps.toList < i.cps.toList))) H) := fun x y z v u R H Q hg r1 r2 s q => by
  cases x <;> cases y <;> first | (cases hg; done) | skip
  · cases hg; cases r1; cases r2; exact .inl ⟨_, _, rfl, rfl, q⟩
  · cases hg; cases r1; cases r2; exact .inr ⟨_, _, rfl, rfl, q⟩
theorem gtS_ok : OpB K gtS (fun x y H Q => rI0 (fun i j => .bl (decide (j < i))) x y H Q ∨ ∃ i j, x = .str i ∧ y = .str j ∧ Q (.bl (decide (j.cps.toList < i.cps.toList))) H) := fun x y z v u R H Q hg r1 r2 s q => by
  cases x <;> cases y <;> first | (cases hg; done) | skip
  · cases hg; cases r1; cases r2; exact .inl ⟨_, _, rfl, rfl, q⟩
  · cases hg; cases r1; cases r2; exact .inr ⟨_, _, rfl, rfl, q⟩
theorem geS_ok : OpB K geS (fun x y H Q => rI0 (fun i j => .bl (decide (j ≤ i))) x y H Q ∨ ∃ i j, x = .str i ∧ y = .str j ∧ Q (.bl (!decide (i.cps.toList < j.cps.toList))) H) := fun x y z v u R H Q hg r1 r2 s q => by
  cases x <;> cases y <;> first | (cases hg; done) | skip
  · cases hg; cases r1; cases r2; exact .inl ⟨_, _, rfl, rfl, q⟩
  · cases hg; cases r1; cases r2; exact .inr ⟨_, _, rfl, rfl, q⟩
end
@[simp] theorem leS_int {i j : Int} : leS (.int i) (.int j) = some (decide (i ≤ j)) := rfl
@[simp] theorem leS_str {x y : Str} : leS (.str x) (.str y) = some (!decide (y.cps.toList < x.cps.toList)) := rfl
@[simp] theorem gtS_int {i j : Int} : gtS (.int i) (.int j) = some (decide (j < i)) := rfl
@[simp] theorem gtS_str {x y : Str} : gtS (.str x) (.str y) = some (decide (y.cps.toList < x.cps.toList)) := rfl
@[simp] theorem geS_int {i j : Int} : geS (.int i) (.int j) = some (decide (j ≤ i)) := rfl
@[simp] theorem geS_str {x y : Str} : geS (.str x) (.str y) = some (!decide (x.cps.toList < y.cps.toList)) := rfl
/-! a cell is frozen ahead of a block -/
section
variable {X : Cx} {Wx : WX} {sts : List Stmt}
theorem ss_frz {k : Nat} {f : Sv} (h : PSs X sts (tS X.K Wx f)) : PSs X sts (tS X.K Wx (sFrz k f)) := h.imp fun D σ H ⟨b, R, ρ, e, m, q⟩ => by
  unfold sFrz at q
  cases hf : frz k e with
  | none => simp only [hf] at q; exact q.elim
  | some e' =>
    simp only [hf] at q
    obtain ⟨R', s, m'⟩ := m.frz hf
    exact ⟨b, R', ρ, e', m', OkS.rebase s q⟩
end
/-! a chain of comparisons as a value -/
def eOfB (f : Env → Rs Bool) : Ev := fun e => (f e).bind fun k e1 => .ok (.d (.bl k)) e1
section
variable {X : Cx} {Wx : WX} {a b c : Expr} {pos : Pos}
theorem d_chain {op op' : CmpOp} {r r' : R2} {g g' : D → D → Option Bool} {f1 f2 f3 : Ev} (ho : OpR X (compareOp op) r) (ho' : OpR X (compareOp op') r') (hd : OpB X.K g r) (hd' : OpB X.K g' r') (ha : PE X a (tD X.K Wx f1)) (hb : PE X b (tD X.K Wx f2)) (hc : PE X c (tD X.K Wx f3))
    (hm : lastMarks [op, op'] [b, c] = false := by with_unfolding_all rfl) : PE X (.Compare a [op, op'] [b, c] pos) (tD X.K Wx (eOfB (bChain g g' f1 f2 f3))) := by
  refine d_test ((pe_chain ho ho' ha hb hc hm).imp fun σ H Q h => ?_)
  refine tG_two h fun bs R ρ e H2 w1 w2 v1 v2 m r1 r2 q => ?_
  cases w1 with
  | loc n => exact q.elim
  | d x =>
    cases w2 with
    | loc n => exact q.elim
    | d y =>
      unfold kB2 at q
      cases hg : g x y with
      | none => simp only [hg] at q; exact q.elim
      | some z =>
        simp only [hg, Rs.bind] at q
        refine hd x y z v1 v2 R H2 _ hg r1 r2 m.sub ⟨z, rfl, ?_⟩
        cases z with
        | false => exact q.fin m rfl
        | true =>
          rw [if_pos rfl] at q
          rw [if_pos rfl]
          have q : OkR X.K Wx lB bs R ρ e σ (fun k H1 => Q (.bl k) H1) ((f3 e).bind (kB2 g' (W.d y))) := q
          refine ⟨bs, R, ρ, e, m, (OkR.bind (L := lW X.K) q).imp fun v H4 h2 => ?_⟩
          obtain ⟨R2, ρ2, e2, w3, s2, l2, m2, r3, _, q2⟩ := h2
          cases w3 with
          | loc n => exact q2.elim
          | d z =>
            unfold kB2 at q2
            cases hg2 : g' y z with
            | none => simp only [hg2] at q2; exact q2.elim
            | some z2 =>
              simp only [hg2] at q2
              exact hd' y z z2 v2 v R2 H4 _ hg2 (Rep.mono s2 r2) r3 m2.sub (q2.fin m2 rfl)
end
def ofbK (r : Rs Bool) : Rs W := r.bind fun k e1 => .ok (.d (.bl k)) e1
section
variable {f : Env → Rs Bool} {e : Env} {k : Bool}
@[simp] theorem eOfB_ev : eOfB f e = ofbK (f e) := rfl
@[simp] theorem ofbK_ok : ofbK (.ok k e) = .ok (.d (.bl k)) e := rfl
end
end Dl
end
section
set_option Elab.async false
set_option linter.all false
set_option maxRecDepth 100000
set_option maxHeartbeats 4000000
namespace Dl
open PySem L2
@[simp] theorem kt1 : kitB "int" "int" = some true := rfl
@[simp] theorem kt2 : kitB "int" "bool" = some false := rfl
@[simp] theorem kt3 : kitB "int" "str" = some false := rfl
@[simp] theorem kt4 : kitB "int" "list" = some false := rfl
@[simp] theorem kt5 : kitB "int" "tuple" = some false := rfl
@[simp] theorem kt6 : kitB "int" "dict" = some false := rfl
@[simp] theorem kt7 : kitB "bool" "int" = some true := rfl
@[simp] theorem kt8 : kitB "bool" "bool" = some true := rfl
@[simp] theorem kt9 : kitB "bool" "str" = some false := rfl
@[simp] theorem kt10 : kitB "bool" "list" = some false := rfl
@[simp] theorem kt11 : kitB "bool" "tuple" = some false := rfl
@[simp] theorem kt12 : kitB "bool" "dict" = some false := rfl
@[simp] theorem kt13 : kitB "str" "int" = some false := rfl
@[simp] theorem kt14 : kitB "str" "bool" = some false := rfl
@[simp] theorem kt15 : kitB "str" "str" = some true := rfl
@[simp] theorem kt16 : kitB "str" "list" = some false := rfl
@[simp] theorem kt17 : kitB "str" "tuple" = some false := rfl
@[simp] theorem kt18 : kitB "str" "dict" = some false := rfl
@[simp] theorem kt19 : kitB "NoneType" "int" = some false := rfl
@[simp] theorem kt20 : kitB "NoneType" "bool" = some false := rfl
@[simp] theorem kt21 : kitB "NoneType" "str" = some false := rfl
@[simp] theorem kt22 : kitB "NoneType" "list" = some false := rfl
@[simp] theorem kt23 : kitB "NoneType" "tuple" = some false := rfl
@[simp] theorem kt24 : kitB "NoneType" "dict" = some false := rfl
@[simp] theorem kt25 : kitB "list" "int" = some false := rfl
@[simp] theorem kt26 : kitB "list" "bool" = some false := rfl
@[simp] theorem kt27 : kitB "list" "str" = some false := rfl
@[simp] theorem kt28 : kitB "list" "list" = some true := rfl
@[simp] theorem kt29 : kitB "list" "tuple" = some false := rfl
@[simp] theorem kt30 : kitB "list" "dict" = some false := rfl
@[simp] theorem kt31 : kitB "tuple" "int" = some false := rfl
@[simp] theorem kt32 : kitB "tuple" "bool" = some false := rfl
@[simp] theorem kt33 : kitB "tuple" "str" = some false := rfl
@[simp] theorem kt34 : kitB "tuple" "list" = some false := rfl
@[simp] theorem kt35 : kitB "tuple" "tuple" = some true := rfl
@[simp] theorem kt36 : kitB "tuple" "dict" = some false := rfl
@[simp] theorem kt37 : kitB "dict" "int" = some false := rfl
@[simp] theorem kt38 : kitB "dict" "bool" = some false := rfl
@[simp] theorem kt39 : kitB "dict" "str" = some false := rfl
@[simp] theorem kt40 : kitB "dict" "list" = some false := rfl
@[simp] theorem kt41 : kitB "dict" "tuple" = some false := rfl
@[simp] theorem kt42 : kitB "dict" "dict" = some true := rfl
@[simp] theorem bind_ok {α β : Type} {a : α} {e : Env} {k : α → Env → Rs β} : (Rs.ok a e).bind k = k a e := rfl
@[simp] theorem isn_non : isNoneD .non = true := rfl
@[simp] theorem isn_int {i : Int} : isNoneD (.int i) = false := rfl
@[simp] theorem isn_str {i : Str} : isNoneD (.str i) = false := rfl
@[simp] theorem isn_tup {i : List D} : isNoneD (.tup i) = false := rfl
@[simp] theorem isn_lst {i : List D} : isNoneD (.lst i) = false := rfl
@[simp] theorem isn_bl {i : Bool} : isNoneD (.bl i) = false := rfl
@[simp] theorem isn_dic {i} : isNoneD (.dic i) = false := rfl
@[simp] theorem isn_obj {C i} : isNoneD (.obj C i) = false := rfl
section
variable {α γ : Type} {x : Xn} {e : Env} {i k : Nat} {l kp : Bool} {w : W}
@[simp] theorem setK_exn : setK i (.exn x e) = .exn x e := rfl
@[simp] theorem retK_exn : retK (.exn x e) = .exn x e := rfl
@[simp] theorem expK_exn : expK (.exn x e) = .exn x e := rfl
@[simp] theorem asgK_exn {g : Tg} : asgK g (.exn x e) = .exn x e := rfl
@[simp] theorem ifK_exn {f g : Sv} : ifK (.exn x e) f g = .exn x e := rfl
@[simp] theorem mkK2_exn : mkK2 true (.exn x e) kp k = .exn x e := rfl
@[simp] theorem b2a_exn {f2 : Ev} {g : W → W → Env → Rs γ} : b2a (.exn x e) f2 g = .exn x e := rfl
@[simp] theorem b2b_exn {g : W → W → Env → Rs γ} : b2b true w (.exn x e) g = .exn x e := rfl
@[simp] theorem eaK_exn {fs : List Ev} : eaK (.exn x e) fs = .exn x e := rfl
@[simp] theorem ebK_exn : ebK true w (.exn x e) = .exn x e := rfl
@[simp] theorem cbK_exn {g : List W → Ev} : cbK (.exn x e) g = .exn x e := rfl
@[simp] theorem fldK_exn {C : Addr} {f : Str} : fldK C f (.exn x e) = .exn x e := rfl
@[simp] theorem notK_exn : notK (.exn x e) = .exn x e := rfl
@[simp] theorem truK_exn : truK (.exn x e) = .exn x e := rfl
@[simp] theorem andK_exn {g : Env → Rs Bool} : andK (.exn x e) g = .exn x e := rfl
@[simp] theorem orK_exn {g : Env → Rs Bool} : orK (.exn x e) g = .exn x e := rfl
@[simp] theorem callK_exn {P : Nat} {F : Fd} {L Ln : List Nat} {dvs : List D} : callK (.exn x e) P F L Ln dvs = .exn x e := rfl
@[simp] theorem mcK_exn {C : Addr} {mn : Str} {P : Nat} {F : Fd} {L Ln : List Nat} {dvs : List D} {fs : List Ev} : mcK (.exn x e) C mn P F L Ln dvs fs = .exn x e := rfl
@[simp] theorem mcK2_exn {P : Nat} {F : Fd} {L Ln : List Nat} {dvs : List D} : mcK2 true w (.exn x e) P F L Ln dvs = .exn x e := rfl
end
theorem cmulR (i j : Int) (h : -(2 ^ 64) < j ∧ j < 2 ^ 64) : CMul i j := .inr h
theorem cmulL (i j : Int) (h : -(2 ^ 64) < i ∧ i < 2 ^ 64) : CMul i j := .inl h
theorem rangeL_at {n i : Nat} {d : D} (h : (rangeL 0 n)[i]? = some d) : i < n ∧ d = .int (i : Int) := by
  unfold rangeL at h
  rw [List.getElem?_map] at h
  by_cases hi : i < n
  · rw [List.getElem?_range hi] at h
    have h := Option.some.inj h
    rw [← h]
    exact ⟨hi, by show D.int (0 + (i : Int)) = _; rw [Int.zero_add]⟩
  · rw [List.getElem?_eq_none (by simpa using hi)] at h
    cases h
theorem rangeL_at2 {n i : Nat} {a : Int} {d : D} (h : (rangeL a n)[i]? = some d) : i < n ∧ d = .int (a + i) := by
  unfold rangeL at h
  rw [List.getElem?_map] at h
  by_cases hi : i < n
  · rw [List.getElem?_range hi] at h
    have h := Option.some.inj h
    rw [← h]
    exact ⟨hi, rfl⟩
  · rw [List.getElem?_eq_none (by simpa using hi)] at h
    cases h
theorem rangeC_at {n i : Nat} {a c : Int} {d : D} (h : (rangeC a c n)[i]? = some d) : i < n ∧ d = .int (a + i * c) := by
  unfold rangeC at h
  rw [List.getElem?_map] at h
  by_cases hi : i < n
  · rw [List.getElem?_range hi] at h
    have h := Option.some.inj h
    rw [← h]
    exact ⟨hi, rfl⟩
  · rw [List.getElem?_eq_none (by simpa using hi)] at h
    cases h
theorem enumL_at {xs : List D} {i : Nat} {d : D} (h : (enumL xs)[i]? = some d) : ∃ x, xs[i]? = some x ∧ d = .tup [.int (i : Nat), x] := by
  unfold enumL at h
  rw [List.getElem?_mapIdx] at h
  cases hx : xs[i]? with
  | none => rw [hx] at h; cases h
  | some x => rw [hx] at h; exact ⟨x, rfl, (Option.some.inj h).symm⟩
theorem map_at {α : Type} {f : α → D} {xs : List α} {i : Nat} {d : D} (h : (xs.map f)[i]? = some d) : ∃ (hi : i < xs.length), d = f (xs[i]'hi) := by
  rw [List.getElem?_map] at h
  cases hx : xs[i]? with
  | none => rw [hx] at h; cases h
  | some x =>
    rw [hx] at h
    obtain ⟨hi, e⟩ := List.getElem?_eq_some_iff.mp hx
    exact ⟨hi, by rw [e]; exact (Option.some.inj h).symm⟩
theorem lt_of_at {α : Type} {xs : List α} {i : Nat} {x : α} (h : xs[i]? = some x) : i < xs.length := (List.getElem?_eq_some_iff.mp h).1
theorem atI_ints {xs : List Int} {i : Nat} (h : i < xs.length) : atI (xs.map D.int) (i : Int) = some (.int (xs[i]'h)) := by
  rw [Dl.atI_nat, List.getElem?_map, List.getElem?_eq_getElem h]
  rfl
theorem atI_get {xs : List D} {i : Nat} {x : D} (h : xs[i]? = some x) : atI xs (i : Int) = some x := by rw [Dl.atI_nat]; exact h
@[simp] theorem intsD_ints (l : List Int) : intsD (l.map D.int) = some l := by
  induction l with
  | nil => rfl
  | cons a l ih => rw [List.map_cons]; unfold intsD; rw [ih]
@[simp] theorem sumD_ints (l : List Int) : sumD (.lst (l.map D.int)) = some (.int l.sum) := by
  show (match intsD (l.map D.int) with | some ns => some (D.int ns.sum) | none => none) = _
  rw [intsD_ints]
@[simp] theorem cutL_map {α β : Type} (f : α → β) (l : List α) (a b : Option Int) : cutL (l.map f) a b = (cutL l a b).map f := by
  unfold cutL
  rw [List.length_map, ← List.map_drop, ← List.map_take]
theorem cutL_nat {α : Type} (l : List α) (a b : Nat) : cutL l (some (a : Int)) (some (b : Int)) = (l.drop a).take (b - a) := by
  unfold cutL
  rw [HT.sIx_nat, HT.sIx_nat]
  rcases Nat.le_total a l.length with ha | ha
  · rw [Nat.min_eq_left ha]
    rcases Nat.le_total b l.length with hb | hb
    · rw [Nat.min_eq_left hb]
    · rw [Nat.min_eq_right hb, List.take_of_length_le (by simp), List.take_of_length_le (by simp; omega)]
  · rw [Nat.min_eq_right ha]
    rw [List.drop_of_length_le (Nat.le_refl _), List.drop_of_length_le ha]
    simp
theorem cutL_to {α : Type} (l : List α) (b : Nat) : cutL l none (some (b : Int)) = l.take b := by
  unfold cutL
  rw [HT.sIx_none, HT.sIx_nat, List.drop_zero, Nat.sub_zero]
  rcases Nat.le_total b l.length with hb | hb
  · rw [Nat.min_eq_left hb]
  · rw [Nat.min_eq_right hb, List.take_of_length_le (Nat.le_refl _), List.take_of_length_le hb]
theorem cutL_from {α : Type} (l : List α) (a : Nat) : cutL l (some (a : Int)) none = l.drop a := by
  unfold cutL
  rw [HT.sIx_none, HT.sIx_nat]
  rcases Nat.le_total a l.length with hb | hb
  · rw [Nat.min_eq_left hb, List.take_of_length_le (by simp)]
  · rw [Nat.min_eq_right hb, List.drop_of_length_le (Nat.le_refl _), List.drop_of_length_le hb]
    simp
theorem cutL_all {α : Type} (l : List α) : cutL l none none = l := by
  unfold cutL
  rw [HT.sIx_none, HT.sIx_none, List.drop_zero, Nat.sub_zero, List.take_length]
/-! == of data -/
def okN (n : Nat) (x : D) : Bool := match toPy x with | some p => p.canLay0 && decide (p.depth ≤ n) | none => false
def okNs (n : Nat) (xs : List D) : Bool := match toPyL xs with | some p => PyData.canLayAll0 p && decide (PyData.depthAll p ≤ n) | none => false
def eqvD (x y : D) : Bool := match toPy x, toPy y with | some p, some q => PyData.eqv p q | _, _ => false
def eqvL (x y : List D) : Bool := match toPyL x, toPyL y with | some p, some q => PyData.eqvAll p q | _, _ => false
section
variable {n : Nat} {x y : D} {xs ys : List D} {i j : Int} {a b : Str} {p q : Bool}
theorem eqG_of : eqG x y = if (okN 64 x && okN 64 y) = true then some (eqvD x y) else none := by
  unfold eqG okN eqvD SeqAt.shaped
  cases toPy x with
  | none => cases toPy y <;> simp
  | some p =>
    cases toPy y with
    | none => simp
    | some q =>
      simp only [Bool.and_eq_true]
@[simp] theorem okN_non : okN n .non = true := by simp [okN, toPy, PyData.canLay0, PyData.depth]
@[simp] theorem okN_int : okN n (.int i) = true := by simp [okN, toPy, PyData.canLay0, PyData.depth]
@[simp] theorem okN_bl : okN n (.bl p) = true := by simp [okN, toPy, PyData.canLay0, PyData.depth]
@[simp] theorem okN_str : okN n (.str a) = PyData.strOk a := by simp [okN, toPy, PyData.canLay0, PyData.depth]
theorem okN_seq (f : List PyData → PyData) (hf : ∀ l, (f l).canLay0 = PyData.canLayAll0 l ∧ (f l).depth = PyData.depthAll l + 1) (h : toPy x = (toPyL xs).map f) : okN n x = (decide (0 < n) && okNs (n - 1) xs) := by
  unfold okN okNs
  rw [h]
  cases toPyL xs with
  | none => simp
  | some l =>
    simp only [Option.map]
    rw [(hf l).1, (hf l).2]
    by_cases h0 : 0 < n
    · have : (PyData.depthAll l + 1 ≤ n) = (PyData.depthAll l ≤ n - 1) := by apply propext; omega
      simp [h0, this]
    · simp [h0]; omega
@[simp] theorem okN_lst : okN n (.lst xs) = (decide (0 < n) && okNs (n - 1) xs) := okN_seq .list (fun l => by simp [PyData.canLay0, PyData.depth]) (by rw [toPy]; cases toPyL xs <;> rfl)
@[simp] theorem okN_rd : okN n (.rd xs) = (decide (0 < n) && okNs (n - 1) xs) := okN_seq .list (fun l => by simp [PyData.canLay0, PyData.depth]) (by rw [toPy]; cases toPyL xs <;> rfl)
@[simp] theorem okN_tup : okN n (.tup xs) = (decide (0 < n) && okNs (n - 1) xs) := okN_seq .tuple (fun l => by simp [PyData.canLay0, PyData.depth]) (by rw [toPy]; cases toPyL xs <;> rfl)
@[simp] theorem okNs_nil : okNs n [] = true := by simp [okNs, toPyL, PyData.canLayAll0, PyData.depthAll]
@[simp] theorem okNs_cons : okNs n (x :: xs) = (okN n x && okNs n xs) := by
  unfold okNs okN
  rw [toPyL]
  cases toPy x with
  | none => simp
  | some p =>
    cases toPyL xs with
    | none => simp
    | some l =>
      simp only [PyData.canLayAll0, PyData.depthAll, Nat.max_le, Bool.decide_and]
      cases p.canLay0 <;> cases PyData.canLayAll0 l <;> simp
@[simp] theorem okNs_ints {l : List Int} : okNs n (l.map D.int) = true := by
  induction l with
  | nil => simp
  | cons a l ih => rw [List.map_cons, okNs_cons, ih]; simp
theorem okNs_all (h : ∀ x ∈ xs, okN n x = true) : okNs n xs = true := by
  induction xs with
  | nil => simp
  | cons a l ih => rw [okNs_cons, h a List.mem_cons_self, ih fun x hx => h x (List.mem_cons_of_mem _ hx)]; rfl
@[simp] theorem eqvD_non : eqvD .non .non = true := by simp [eqvD, toPy, PyData.eqv]
@[simp] theorem eqvD_int : eqvD (.int i) (.int j) = (i == j) := by simp [eqvD, toPy, PyData.eqv]
@[simp] theorem eqvD_bl : eqvD (.bl p) (.bl q) = (p == q) := by simp [eqvD, toPy, PyData.eqv]
@[simp] theorem eqvD_str : eqvD (.str a) (.str b) = (a == b) := by simp [eqvD, toPy, PyData.eqv]
@[simp] theorem eqvD_ni : eqvD .non (.int j) = false := by simp [eqvD, toPy, PyData.eqv]
@[simp] theorem eqvD_in : eqvD (.int j) .non = false := by simp [eqvD, toPy, PyData.eqv]
@[simp] theorem eqvD_is : eqvD (.int j) (.str a) = false := by simp [eqvD, toPy, PyData.eqv]
@[simp] theorem eqvD_si : eqvD (.str a) (.int j) = false := by simp [eqvD, toPy, PyData.eqv]
theorem eqvD_seq (f : List PyData → PyData) (hf : ∀ l m, PyData.eqv (f l) (f m) = PyData.eqvAll l m) (h : toPy x = (toPyL xs).map f) (h2 : toPy y = (toPyL ys).map f) : eqvD x y = eqvL xs ys := by
  unfold eqvD eqvL
  rw [h, h2]
  cases toPyL xs <;> cases toPyL ys <;> simp [hf]
@[simp] theorem eqvD_lst : eqvD (.lst xs) (.lst ys) = eqvL xs ys := eqvD_seq .list (fun l m => by rw [PyData.eqv]) (by rw [toPy]; cases toPyL xs <;> rfl) (by rw [toPy]; cases toPyL ys <;> rfl)
@[simp] theorem eqvD_rl : eqvD (.rd xs) (.lst ys) = eqvL xs ys := eqvD_seq .list (fun l m => by rw [PyData.eqv]) (by rw [toPy]; cases toPyL xs <;> rfl) (by rw [toPy]; cases toPyL ys <;> rfl)
@[simp] theorem eqvD_lr : eqvD (.lst xs) (.rd ys) = eqvL xs ys := eqvD_seq .list (fun l m => by rw [PyData.eqv]) (by rw [toPy]; cases toPyL xs <;> rfl) (by rw [toPy]; cases toPyL ys <;> rfl)
@[simp] theorem eqvD_tup : eqvD (.tup xs) (.tup ys) = eqvL xs ys := eqvD_seq .tuple (fun l m => by rw [PyData.eqv]) (by rw [toPy]; cases toPyL xs <;> rfl) (by rw [toPy]; cases toPyL ys <;> rfl)
@[simp] theorem eqvD_nt : eqvD .non (.tup ys) = false := by unfold eqvD; rw [toPy, toPy]; cases toPyL ys <;> simp [PyData.eqv]
@[simp] theorem eqvD_tn : eqvD (.tup ys) .non = false := by unfold eqvD; rw [toPy, toPy]; cases toPyL ys <;> simp [PyData.eqv]
@[simp] theorem eqvD_nl : eqvD .non (.lst ys) = false := by unfold eqvD; rw [toPy, toPy]; cases toPyL ys <;> simp [PyData.eqv]
@[simp] theorem eqvD_ln : eqvD (.lst ys) .non = false := by unfold eqvD; rw [toPy, toPy]; cases toPyL ys <;> simp [PyData.eqv]
@[simp] theorem eqvL_nil : eqvL [] [] = true := by simp [eqvL, toPyL, PyData.eqvAll]
@[simp] theorem eqvL_nc : eqvL [] (y :: ys) = false := by
  unfold eqvL
  rw [toPyL, toPyL]
  cases toPy y <;> cases toPyL ys <;> simp [PyData.eqvAll]
@[simp] theorem eqvL_cn : eqvL (y :: ys) [] = false := by
  unfold eqvL
  rw [toPyL, toPyL]
  cases toPy y <;> cases toPyL ys <;> simp [PyData.eqvAll]
@[simp] theorem eqvL_cons : eqvL (x :: xs) (y :: ys) = (eqvD x y && eqvL xs ys) := by
  unfold eqvL eqvD
  rw [toPyL, toPyL]
  cases toPy y <;> cases toPyL ys <;> cases toPy x <;> cases toPyL xs <;> simp [PyData.eqvAll]
@[simp] theorem eqvL_ints {l m : List Int} : eqvL (l.map D.int) (m.map D.int) = decide (l = m) := by
  induction l generalizing m with
  | nil => cases m <;> simp
  | cons a l ih =>
    cases m with
    | nil => simp
    | cons b m =>
      rw [List.map_cons, List.map_cons, eqvL_cons, ih, eqvD_int]
      by_cases h : a = b <;> simp [h]
theorem eqvD_self (h : okN n x = true) : eqvD x x = true := by
  unfold okN at h
  unfold eqvD
  cases hx : toPy x with
  | none => rw [hx] at h; cases h
  | some p =>
    rw [hx] at h
    have h : (p.canLay0 && decide (p.depth ≤ n)) = true := h
    rw [Bool.and_eq_true] at h
    exact PySem.SeqAt.eqv_refl p h.1
@[simp] theorem eqB_lst : eqB (.lst xs) (.lst ys) = if (okN 64 (.lst xs) && okN 64 (.lst ys)) = true then some (eqvD (.lst xs) (.lst ys)) else none := eqG_of
@[simp] theorem eqB_tup : eqB (.tup xs) (.tup ys) = if (okN 64 (.tup xs) && okN 64 (.tup ys)) = true then some (eqvD (.tup xs) (.tup ys)) else none := eqG_of
@[simp] theorem eqB_rl : eqB (.rd xs) (.lst ys) = if (okN 64 (.rd xs) && okN 64 (.lst ys)) = true then some (eqvD (.rd xs) (.lst ys)) else none := eqG_of
@[simp] theorem eqB_lr : eqB (.lst xs) (.rd ys) = if (okN 64 (.lst xs) && okN 64 (.rd ys)) = true then some (eqvD (.lst xs) (.rd ys)) else none := eqG_of
@[simp] theorem eqB_nt : eqB .non (.tup ys) = if (okN 64 .non && okN 64 (.tup ys)) = true then some (eqvD .non (.tup ys)) else none := eqG_of
@[simp] theorem eqB_tn : eqB (.tup ys) .non = if (okN 64 (.tup ys) && okN 64 .non) = true then some (eqvD (.tup ys) .non) else none := eqG_of
@[simp] theorem eqB_nl : eqB .non (.lst ys) = if (okN 64 .non && okN 64 (.lst ys)) = true then some (eqvD .non (.lst ys)) else none := eqG_of
@[simp] theorem eqB_ln : eqB (.lst ys) .non = if (okN 64 (.lst ys) && okN 64 .non) = true then some (eqvD (.lst ys) .non) else none := eqG_of
@[simp] theorem eqB_nn : eqB .non .non = some true := rfl
@[simp] theorem eqB_ni : eqB .non (.int i) = some false := rfl
@[simp] theorem eqB_in : eqB (.int i) .non = some false := rfl
@[simp] theorem eqB_ns : eqB .non (.str a) = some false := rfl
@[simp] theorem eqB_sn : eqB (.str a) .non = some false := rfl
@[simp] theorem eqB_is : eqB (.int i) (.str a) = some false := rfl
@[simp] theorem eqB_si : eqB (.str a) (.int i) = some false := rfl
end
end Dl
end
section
set_option Elab.async false
set_option linter.all false
set_option maxRecDepth 100000
set_option maxHeartbeats 4000000
namespace Dl
open PySem L2
theorem filterMap_all {α β : Type} (h : α → β) : ∀ l : List α, l.filterMap (fun x => some (h x)) = l.map h
  | [] => rfl
  | a :: l => by rw [List.filterMap_cons, filterMap_all h l]; rfl
section
variable {it : Env → Rs Itr} {g : Tg} {t : Env → Rs Bool} {f : Ev} {k : Nat} {keep : Bool} {vs : List Nat} {items : List D} {chk : Env → Prop}
/-- a comprehension without a test that reads alone: its list is told item by item -/
theorem comp_m (out : List D) {e0 e1 : Env} {n : Nat} (hit : it e0 = .ok ⟨items, chk⟩ e1) (ho : e1.open k = true) (hl : items.length ≤ n) (hn : n ≤ sizeLine) (hv : e1.clr vs = e1) (hlen : out.length = items.length)
    (hs : ∀ (i : Nat) d y (acc : List D), items[i]? = some d → out[i]? = some y → acc.length < n → chk (e1.setC k (some (.lst acc))) ∧ lcT g t f k vs d (e1.setC k (some (.lst acc))) = .ok () (e1.setC k (some (.lst (acc ++ [y]))))) (hc : ∀ acc, chk (e1.setC k (some (.lst acc)))) :
    eLc it g t f k keep vs e0 = endL keep k (e1.setC k (some (.lst out))) := by
  obtain ⟨s, h1, h2⟩ := comp_i (keep := keep) (items := items) (chk := chk) (fun acc : List D => e1.setC k (some (.lst acc))) (fun i acc => acc = out.take i) [] hit ho rfl rfl (fun i d acc hd hi => by
    have hlt : i < items.length := (List.getElem?_eq_some_iff.mp hd).1
    have hy : out[i]? = some (out[i]'(by omega)) := List.getElem?_eq_getElem (by omega)
    have hal : acc.length ≤ i := by
      rw [hi, List.length_take]
      omega
    obtain ⟨q1, q2⟩ := hs i d _ acc hd hy (by omega)
    refine ⟨q1, _, q2, ?_⟩
    rw [List.take_add_one, ← hi, hy]
    rfl) (fun acc _ => hc acc)
  rw [h1, h2, ← hlen, List.take_length]
/-- a comprehension without a test that changes a state: as many items, all of a kind -/
theorem comp_s {S : Type} (E : S → List D → Env) (I : S → Prop) (P : D → Prop) (s0 : S) {e0 e1 : Env} (hit : it e0 = .ok ⟨items, chk⟩ e1) (ho : e1.open k = true) (hE : e1.setC k (some (.lst [])) = E s0 []) (h0 : I s0)
    (hs : ∀ (i : Nat) d s (acc : List D), items[i]? = some d → I s → acc.length = i → (∀ x ∈ acc, P x) → chk (E s acc) ∧ ∃ s' y, lcT g t f k vs d (E s acc) = .ok () (E s' (acc ++ [y])) ∧ I s' ∧ P y) (hc : ∀ s acc, chk (E s acc)) :
    ∃ s out, eLc it g t f k keep vs e0 = endL keep k (E s out) ∧ I s ∧ out.length = items.length ∧ ∀ x ∈ out, P x := by
  obtain ⟨⟨s, out⟩, h1, h2, h3, h4⟩ := comp_i (keep := keep) (items := items) (chk := chk) (fun z : S × List D => E z.1 z.2) (fun i z => I z.1 ∧ z.2.length = i ∧ ∀ x ∈ z.2, P x) (s0, []) hit ho hE ⟨h0, rfl, fun x h => nomatch h⟩ (fun i d z hd hi => by
    obtain ⟨s, acc⟩ := z
    obtain ⟨i1, i2, i3⟩ := hi
    obtain ⟨q1, s', y, q2, q3, q4⟩ := hs i d s acc hd i1 i2 i3
    refine ⟨q1, (s', acc ++ [y]), q2, q3, by simp at i2 ⊢; omega, fun x hx => ?_⟩
    rcases List.mem_append.mp hx with h | h
    · exact i3 x h
    · rw [List.mem_singleton.mp h]; exact q4) (fun z _ => hc z.1 z.2)
  exact ⟨s, out, h1, h2, h3, h4⟩
end
end Dl
end
section
set_option Elab.async false
set_option linter.all false
set_option maxRecDepth 100000
set_option maxHeartbeats 4000000
namespace Dl
open PySem L2
/-- the ints that pass -/
def ifI (P : Int → Bool) : D → Option D
  | .int i => if P i = true then some (.int i) else none
  | _ => none
theorem ifI_ints (P : Int → Bool) : ∀ l : List Int, (l.map D.int).filterMap (ifI P) = (l.filter P).map D.int
  | [] => rfl
  | a :: l => by
    rw [List.map_cons, List.filterMap_cons, ifI_ints P l, List.filter_cons]
    cases h : P a with
    | true => simp [ifI, h]
    | false => simp [ifI, h]
theorem rangeL_ints (n : Nat) : rangeL 0 n = ((List.range n).map fun i : Nat => (i : Int)).map D.int := by
  unfold rangeL
  rw [List.map_map]
  apply List.map_congr_left
  intro a _
  show D.int (0 + (a : Int)) = _
  rw [Int.zero_add]
  rfl
section
variable {it : Env → Rs Itr} {g : Tg} {t : Env → Rs Bool} {f : Ev} {k : Nat} {keep : Bool} {vs : List Nat} {chk : Env → Prop}
/-- [x for x in ints if P x] -/
theorem comp_ints (P : Int → Bool) (xs : List Int) {e0 e1 : Env} (hit : it e0 = .ok ⟨xs.map .int, chk⟩ e1) (ho : e1.open k = true) (hn : xs.length ≤ 16777216) (hv : e1.clr vs = e1)
    (hs : ∀ (i : Nat) (x : Int) (acc : List D), xs[i]? = some x → acc.length < 16777216 → chk (e1.setC k (some (.lst acc))) ∧ lcT g t f k vs (.int x) (e1.setC k (some (.lst acc))) = .ok () (e1.setC k (some (.lst (if P x = true then acc ++ [.int x] else acc))))) (hc : ∀ acc, chk (e1.setC k (some (.lst acc)))) :
    eLc it g t f k keep vs e0 = endL keep k (e1.setC k (some (.lst ((xs.filter P).map .int)))) := by
  rw [comp_e (n := xs.length) (items := xs.map .int) (chk := chk) (ifI P) hit ho (by simp) (by rw [sizeL]; exact hn) hv (fun i d acc hd ha => by
    obtain ⟨hi, rfl⟩ := map_at hd
    obtain ⟨q1, q2⟩ := hs i _ acc (List.getElem?_eq_getElem hi) (by omega)
    refine ⟨q1, ?_⟩
    rw [q2]
    cases h : P (xs[i]'hi) with
    | true => simp [ifI, h]
    | false => simp [ifI, h]) hc, ifI_ints]
end
end Dl
end
section
set_option Elab.async false
set_option linter.all false
set_option maxRecDepth 100000
set_option maxHeartbeats 4000000
namespace Dl
open PySem L2
@[simp] theorem kItT_tup {l : List D} {e : Env} : kItT (.d (.tup l)) e = .ok ⟨l, fun _ => True⟩ e := rfl
end Dl
end
section
set_option Elab.async false
set_option linter.all false
set_option maxRecDepth 100000
set_option maxHeartbeats 4000000
namespace Dl
open PySem L2
/-! evaluation of several clauses -/
theorem xne {K : PySem.W.Frag} {a b : Addr} (h : PySem.W.exmOne K (.ref a) (.ref b) = some false) (g : PySem.W.exmOne K (.ref b) (.ref b) = some true) : a ≠ b := fun e => by
  subst e
  rw [h] at g
  cases g
def tmR (o : Option D) (e : Env) : SR := match o with
  | some y => .rt (.d y) e
  | none => .fail
section
variable {e : Env} {n : Nat} {C : Addr} {i : Nat} {k : List (Str × D) → Option D} {kk : List (Str × D) → Option D} {ks : List (Str × D) → Option (List D)} {r : List Hd} {x : Xn} {fs : List (Str × D)} {f : Str} {d y : D} {ys : List D} {hs : List Hd}
@[simp] theorem tmK_x : tmK hs (.exn x e) = tmR (pickH e.ws.length hs x) e := rfl
@[simp] theorem tmR_some : tmR (some y) e = .rt (.d y) e := rfl
@[simp] theorem pickH_some : pickH n ((C, some i, k) :: r) x = if x.C = C then (if i < n then k (x.fs.getD []) else none) else pickH n r x := by
  show (if x.C = C then (if decide (i < n) = true then k (x.fs.getD []) else none) else pickH n r x) = _
  by_cases h : i < n <;> simp [h]
@[simp] theorem pickH_none : pickH n ((C, none, k) :: r) x = if x.C = C then k (x.fs.getD []) else pickH n r x := by
  show (if x.C = C then (if true = true then k (x.fs.getD []) else none) else pickH n r x) = _
  simp
@[simp] theorem kC_ev : kC d fs = some d := rfl
@[simp] theorem kFld_ev : kFld f fs = fs.lookup f := rfl
@[simp] theorem kNil_ev : kNil fs = some [] := rfl
def kCo (a : Option D) (b : Option (List D)) : Option (List D) := match a, b with | some x, some xs => some (x :: xs) | _, _ => none
@[simp] theorem kCons_ev : kCons kk ks fs = kCo (kk fs) (ks fs) := rfl
@[simp] theorem kCo_ev : kCo (some y) (some ys) = some (y :: ys) := rfl
@[simp] theorem kTupF_ev : kTupF ks fs = upTo .tup (ks fs) := rfl
@[simp] theorem kLstF_ev : kLstF ks fs = upTo .lst (ks fs) := rfl
@[simp] theorem upTo_ev {g : List D → D} : upTo g (some ys) = if ys.length ≤ 1000 then some (g ys) else none := rfl
end
end Dl
end
section
set_option Elab.async false
set_option linter.all false
set_option maxRecDepth 100000
set_option maxHeartbeats 4000000
namespace Dl
open PySem L2
/-! evaluation of pop and extend -/
def popK (o : Option Cell) (n : Nat) (e : Env) : Rs W := match o with
    | some (.lst xs) => match xs[xs.length - 1]? with
      | some y => .ok (.d y) (e.setC n (some (.lst xs.dropLast)))
      | none => .fail
    | some (.lw xs) => match xs[xs.length - 1]? with
      | some (.d y) => .ok (.d y) (e.setC n (some (.lw xs.dropLast)))
      | _ => .fail
    | _ => .fail
section
variable {n : Nat} {e : Env} {xs ys : List D} {y : D}
@[simp] theorem kPop_ev : kPop (.loc n) [] e = popK (e.cell n) n e := by
  unfold kPop popK
  rfl
@[simp] theorem popK_snoc : popK (some (.lst (xs ++ [y]))) n e = .ok (.d y) (e.setC n (some (.lst xs))) := by
  unfold popK
  simp
@[simp] theorem popK_one : popK (some (.lst [y])) n e = .ok (.d y) (e.setC n (some (.lst []))) := rfl
def extK (o : Option Cell) (ys : List D) (n : Nat) (e : Env) : Rs W := match o with
    | some (.lst xs) => if xs.length + ys.length ≤ sizeLine then .ok (.d .non) (e.setC n (some (.lst (xs ++ ys)))) else .fail
    | _ => .fail
@[simp] theorem kExtend_ev : kExtend (.loc n) [.d (.lst ys)] e = extK (e.cell n) ys n e := rfl
@[simp] theorem extK_lst : extK (some (.lst xs)) ys n e = if xs.length + ys.length ≤ sizeLine then .ok (.d .non) (e.setC n (some (.lst (xs ++ ys)))) else .fail := rfl
end
end Dl
end
section
set_option Elab.async false
set_option linter.all false
set_option maxRecDepth 100000
set_option maxHeartbeats 8000000
namespace Tp
open PySem L2 Dl
section
variable {it : Dl.Env → Rs Itr} {g : Tg} {fg : List Nat} {body : Sv} {items : List D} {chk : Dl.Env → Prop} {S : Type}
/-- a for that may break off: an invariant, and what holds where it breaks off -/
theorem forD_ib (E : S → Dl.Env) (I : Nat → S → Prop) (B : Dl.Env → Prop) : ∀ (items : List D) (j : Nat) (s : S), I j s →
    (∀ i d s, items[i]? = some d → I (j + i) s → chk (E s) ∧ ((∃ s', turn g body fg d (E s) = .nx (E s') ∧ I (j + i + 1) s') ∨ ∃ e', turn g body fg d (E s) = .bk e' ∧ B e')) →
    (∀ s, I (j + items.length) s → chk (E s)) → ∃ e', forD g chk body fg items (E s) = .nx e' ∧ (B e' ∨ ∃ s, e' = E s ∧ I (j + items.length) s)
  | [], j, s, h, _, hc => by
    refine ⟨E s, ?_, .inr ⟨s, rfl, h⟩⟩
    unfold forD
    rw [if_pos (hc s h)]
  | a :: l, j, s, h, hs, hc => by
    obtain ⟨h1, h2⟩ := hs 0 a s rfl h
    rcases h2 with ⟨s', h2, h3⟩ | ⟨e', h2, hB⟩
    · obtain ⟨e1, e2, q1, q2, q3⟩ := turn_nx h2
      obtain ⟨e', r1, r2⟩ := forD_ib E I B l (j + 1) s' h3 (fun i d s hd hi => by
        have := hs (i + 1) d s (by simpa using hd) (by rwa [show j + (i + 1) = j + 1 + i by omega])
        rwa [show j + (i + 1) = j + 1 + i by omega] at this) (fun s hi => hc s (by rw [List.length_cons]; rwa [show j + (l.length + 1) = j + 1 + l.length by omega]))
      refine ⟨e', ?_, ?_⟩
      · unfold forD
        rw [if_pos h1]
        simp only [q1]
        rcases q2 with q2 | q2 <;>
        · simp only [q2]
          rw [q3]
          exact r1
      · rw [List.length_cons, show j + (l.length + 1) = j + 1 + l.length by omega]
        exact r2
    · refine ⟨e', ?_, .inl hB⟩
      unfold forD
      rw [if_pos h1]
      unfold turn turnO at h2
      cases hg : g a (E s) with
      | none => rw [hg] at h2; cases h2
      | some e1 =>
        rw [hg] at h2
        dsimp only at h2 ⊢
        cases hb : body e1 with
        | bk e2 => rw [hb] at h2; cases h2; rfl
        | _ => rw [hb] at h2; cases h2
theorem for_ib (E : S → Dl.Env) (I : Nat → S → Prop) (B : Dl.Env → Prop) (s0 : S) {e0 : Dl.Env} (hit : it e0 = .ok ⟨items, chk⟩ (E s0)) (h0 : I 0 s0)
    (hs : ∀ i d s, items[i]? = some d → I i s → chk (E s) ∧ ((∃ s', turn g body fg d (E s) = .nx (E s') ∧ I (i + 1) s') ∨ ∃ e', turn g body fg d (E s) = .bk e' ∧ B e')) (hc : ∀ s, I items.length s → chk (E s)) :
    ∃ e', sFor it g fg body e0 = .nx e' ∧ (B e' ∨ ∃ s, e' = E s ∧ I items.length s) := by
  unfold sFor
  rw [hit]
  obtain ⟨e', h1, h2⟩ := forD_ib (g := g) (fg := fg) (body := body) (chk := chk) E I B items 0 s0 h0 (fun i d s hd hi => by
    rw [Nat.zero_add] at hi ⊢
    exact hs i d s hd hi) (fun s hi => hc s (by rwa [Nat.zero_add] at hi))
  rw [Nat.zero_add] at h2
  exact ⟨e', h1, h2⟩
end
def truC (o : Option Cell) (e : Dl.Env) : Rs Bool := match o with
    | some (.lst xs) => .ok (!xs.isEmpty) e
    | _ => .fail
@[simp] theorem kTru_loc {n : Nat} {e : Dl.Env} : kTru (.loc n) e = truC (e.cell n) e := rfl
@[simp] theorem truC_lst {xs : List D} {e : Dl.Env} : truC (some (.lst xs)) e = .ok (!xs.isEmpty) e := rfl
/-- a deck of numbers, the next one last -/
def dk (ds : List Int) : Cell := .lst (ds.map .int)
def dkD (ds : List Int) : D := .lst (ds.map .int)
@[simp] theorem mapCell_dk {g : W → Option W} {ds : List Int} : mapCell g (dk ds) = some (dk ds) := rfl
@[simp] theorem refs_dk {n : Nat} {ds : List Int} : Cell.refs n (dk ds) = false := rfl
@[simp] theorem subst_dk {n : Nat} {x : D} {ds : List Int} : Cell.subst n x (dk ds) = dk ds := rfl
@[simp] theorem toD_dk {ds : List Int} : Cell.toD (dk ds) = some (dkD ds) := rfl
/-- the next number by its remainder -/
def tv (ds : List Int) (n : Int) : Int := match ds.reverse with
  | [] => 0
  | x :: _ => x.fmod n
def tn (ds : List Int) : List Int := ds.dropLast
theorem tv_nat (ds : List Int) {n : Nat} (h : 0 < n) : ∃ k : Nat, k < n ∧ tv ds n = k := by
  unfold tv
  split
  · exact ⟨0, h, rfl⟩
  · rename_i x _ _
    have h1 := Int.fmod_nonneg_of_pos x (show (0 : Int) < n by omega)
    have h2 := Int.fmod_lt_of_pos x (show (0 : Int) < n by omega)
    exact ⟨(x.fmod n).toNat, by omega, by omega⟩
theorem take35_ok (C : Cs) (ds : List Int) {n : Nat} (h : 0 < n) : F_law_take_k35 C [.loc 0, .d (.int n)] [dk ds] = .ok (.d (.int (tv ds n))) [dk (tn ds)] := by
  have h1 : (n : Int) ≠ 0 := by omega
  have h2 : n ≠ 0 := by omega
  unfold tv tn dk
  rcases List.eq_nil_or_concat ds with rfl | ⟨r, x, rfl⟩
  · simp -implicitDefEqProofs [F_law_take_k35, fb_law_take_k35, env0]
  · rw [List.concat_eq_append]
    have hp : ¬ ((r.length : Int) + 1 = 0) := by omega
    have hb : ((r.length : Int) + 1 == 0) = false := beq_false_of_ne hp
    simp -implicitDefEqProofs [F_law_take_k35, fb_law_take_k35, env0, hb, h1, h2]
theorem mix_ok (C : Cs) (n k : Int) : ∃ m : Int, F_law_mix C [.d (.int n), .d (.int k)] [] = .ok (.d (.int m)) [] := by
  have m1 : ∀ i : Int, CMul 7919 i := fun i => cmulL _ _ (by decide)
  have m2 : ∀ i : Int, CMul i 48271 := fun i => cmulR _ _ (by decide)
  have m3 : ∀ i : Int, CMul i 16807 := fun i => cmulR _ _ (by decide)
  refine ⟨((((n.fmod 1000003 + 7919 * k + 1) * 48271).fmod 1000033) * 16807).fmod 998244353, ?_⟩
  simp -implicitDefEqProofs [F_law_mix, fb_law_mix, env0, m1, m2, m3]
@[simp] abbrev Enm (ns : List Int) (n : Int) (ds : List Int) (base cell rest k : Option W := none) : Dl.Env := E_law_numbers_k36 (x_script := some (.d (.rd (ns.map .int)))) (x_count := some (.d (.int n))) (x_row := some (.loc 0)) (x_base := base) (x_cell := cell) (x_rest := rest) (x_k := k) (c0 := some (dk ds))
theorem num_l2 (C : Cs) (ns ds : List Int) (hl : ds.length < 100000) (n : Int) (b : W) (c : W) (r : Int) :
    ∃ ds' r' k', fb_law_numbers_k36_l2 C (Enm ns n ds (base := some b) (cell := some c) (rest := some (.d (.int r)))) = .nx (Enm ns n ds' (base := some b) (cell := some c) (rest := r') (k := k')) ∧ ds'.length ≤ ds.length + 60 := by
  unfold fb_law_numbers_k36_l2
  have d8 : ∀ i : Int, CDivN i 840 := fun i => ⟨by decide, by decide⟩
  obtain ⟨e', h1, h2⟩ := for_ib (it := iRg1 (eC (.int 60))) (g := tgName 6) (fg := [6]) (body := fb_law_numbers_k36_l2b C) (items := rangeL 0 60) (chk := fun _ => True) (S := List Int × Int)
    (e0 := Enm ns n ds (base := some b) (cell := some c) (rest := some (.d (.int r))))
    (fun s => Enm ns n s.1 (base := some b) (cell := some c) (rest := some (.d (.int s.2)))) (fun i s => s.1.length ≤ ds.length + i ∧ i ≤ 60)
    (fun e' => ∃ ds' r' k', e' = Enm ns n ds' (base := some b) (cell := some c) (rest := r') (k := k') ∧ ds'.length ≤ ds.length + 60) (ds, r) (by simp -implicitDefEqProofs [Enm, E_law_numbers_k36]) ⟨Nat.le_refl _, by omega⟩ (fun i d ⟨s1, s2⟩ hd hi => ⟨trivial, by
      obtain ⟨hi2, rfl⟩ := rangeL_at hd
      obtain ⟨hi, hi3⟩ := hi
      dsimp only at hi hi3 ⊢
      have hs : s1.length < 16777216 := by omega
      by_cases hz : s2.fdiv 840 = 0
      · right
        refine ⟨Enm ns n (s1 ++ [s2.fmod 840]) (base := some b) (cell := some c) (rest := some (.d (.int (s2.fdiv 840)))) (k := some (.d (.int i))), ?_, _, _, _, rfl, by simp; omega⟩
        simp -implicitDefEqProofs [Enm, E_law_numbers_k36, fb_law_numbers_k36_l2b, dk, d8, sizeL, hs, hz]
      · left
        refine ⟨(s1 ++ [s2.fmod 840], s2.fdiv 840), ?_, by simp; omega⟩
        have hzb : (s2.fdiv 840 == 0) = false := beq_false_of_ne hz
        simp -implicitDefEqProofs [Enm, E_law_numbers_k36, fb_law_numbers_k36_l2b, dk, d8, sizeL, hs, hzb]⟩) (fun _ _ => trivial)
  rcases h2 with ⟨ds', r', k', rfl, hl'⟩ | ⟨s, rfl, hs⟩
  · exact ⟨ds', r', k', h1, hl'⟩
  · exact ⟨_, _, _, h1, by have := hs.1; rw [rangeL_len] at this; exact this⟩
theorem num_l1 (C : Cs) (ns : List Int) (hn : ns.length ≤ 63) (n : Int) : ∃ ds b, fb_law_numbers_k36_l1 C (Enm ns n [] (base := some (.d (.int 0)))) = .nx (Enm ns n ds (base := some (.d (.int b)))) ∧ ds.length ≤ 62 * ns.length := by
  unfold fb_law_numbers_k36_l1
  have hc : cutL (ns.map D.int) none (some 63) = ns.map D.int := by
    have := cutL_to (ns.map D.int) 63
    rw [List.take_of_length_le (by rw [List.length_map]; exact hn)] at this
    exact this
  obtain ⟨⟨d1, b⟩, h1, h2⟩ := for_i (it := iL (eSl (eVar 0) oNone (oSome (eC (.int 63))))) (g := tgName 4) (fg := [4, 5, 6]) (body := fb_law_numbers_k36_l1b C) (items := ns.map .int) (chk := fun _ => True) (S := List Int × Int) (e0 := Enm ns n [] (base := some (.d (.int 0))))
    (fun s => Enm ns n s.1 (base := some (.d (.int s.2)))) (fun i s => s.1.length ≤ 62 * i) ([], 0) (by simp -implicitDefEqProofs [Enm, E_law_numbers_k36, hc, -cutL_map]) (by simp) (fun i d ⟨s1, s2⟩ hd hi => ⟨trivial, by
      obtain ⟨hi2, rfl⟩ := map_at hd
      dsimp only at hi ⊢
      generalize (ns[i]'hi2) = c
      have hs : s1.length < 16777216 := by omega
      by_cases hb : ¬ (1000000000000000000 ≤ c)
      · obtain ⟨m1, e1⟩ := mix_ok C c 3
        obtain ⟨m2, e2⟩ := mix_ok C m1 5
        refine ⟨(s1 ++ [m2], s2 + c), ?_, by simp; omega⟩
        simp -implicitDefEqProofs [Enm, E_law_numbers_k36, fb_law_numbers_k36_l1b, dk, hb, e1, e2, sizeL, hs]
      · have hb := Classical.not_not.mp hb
        obtain ⟨ds', r', k', e1, e2⟩ := num_l2 C ns s1 (by omega) n (.d (.int (s2 + c))) (.d (.int c)) c
        simp -implicitDefEqProofs [Enm, E_law_numbers_k36, dk] at e1
        refine ⟨(ds', s2 + c), ?_, by show ds'.length ≤ _; omega⟩
        simp -implicitDefEqProofs [Enm, E_law_numbers_k36, fb_law_numbers_k36_l1b, dk, hb, e1]⟩) (fun _ _ => trivial)
  rw [List.length_map] at h2
  exact ⟨d1, b, h1, h2⟩
theorem num_l3 (C : Cs) (ns ds : List Int) (hl : ds.length < 100000) (n : Nat) (hn : n < 1000) (b : Int) : ∃ ds', fb_law_numbers_k36_l3 C (Enm ns n ds (base := some (.d (.int b)))) = .nx (Enm ns n ds' (base := some (.d (.int b)))) ∧ ds'.length = ds.length + n := by
  unfold fb_law_numbers_k36_l3
  have hz : -4611686018427387904 ≤ (n : Int) ∧ (n : Int) < 4611686018427387904 := by omega
  obtain ⟨d1, h1, h2⟩ := for_i (it := iRg1 (eVar 1)) (g := tgName 6) (fg := [6]) (body := fb_law_numbers_k36_l3b C) (items := rangeL 0 n) (chk := fun _ => True) (S := List Int) (e0 := Enm ns n ds (base := some (.d (.int b))))
    (fun s => Enm ns n s (base := some (.d (.int b)))) (fun i s => s.length = ds.length + i ∧ i ≤ n) ds (by simp -implicitDefEqProofs [Enm, E_law_numbers_k36, hz]) ⟨rfl, by omega⟩ (fun i d s1 hd hi => ⟨trivial, by
      obtain ⟨hi2, rfl⟩ := rangeL_at hd
      obtain ⟨hi, hi3⟩ := hi
      have hs : s1.length < 16777216 := by omega
      have m1 : ∀ i : Int, CMul 31 i := fun i => cmulL _ _ (by decide)
      obtain ⟨m2, e1⟩ := mix_ok C (b + 31 * (i : Int)) (11 + (i : Int))
      obtain ⟨m3, e2⟩ := mix_ok C m2 17
      refine ⟨s1 ++ [m3], ?_, by simp; omega⟩
      simp -implicitDefEqProofs [Enm, E_law_numbers_k36, fb_law_numbers_k36_l3b, dk, e1, e2, m1, sizeL, hs]⟩) (fun _ _ => trivial)
  rw [rangeL_len] at h2
  exact ⟨d1, h1, h2.1⟩
theorem numbers_ok (C : Cs) (ns : List Int) (hn : ns.length ≤ 63) (n : Nat) (hk : n < 1000) : ∃ ds, F_law_numbers_k36 C [.d (.rd (ns.map .int)), .d (.int n)] [] = .ok (.loc 0) [dk ds] := by
  obtain ⟨d1, b, e1, l1⟩ := num_l1 C ns hn n
  obtain ⟨d2, e2, l2⟩ := num_l3 C ns d1 (by omega) n hk b
  refine ⟨d2.reverse, ?_⟩
  simp -implicitDefEqProofs [Enm, E_law_numbers_k36, dk] at e1 e2
  simp -implicitDefEqProofs [F_law_numbers_k36, fb_law_numbers_k36, env0, sizeL, dk, e1, e2]
end Tp
end
section
set_option Elab.async false
set_option linter.all false
set_option maxRecDepth 100000
set_option maxHeartbeats 8000000
namespace Tp
open PySem L2 Dl
theorem law_two_ok (C : Cs) (t : Nat) (ht : t ≤ 64) : F_law_two C [.d (.int (t : Nat))] [] = .ok (.d (.int ((2 ^ t : Nat) : Int))) [] := by
  have hz : -4611686018427387904 ≤ (t : Int) ∧ (t : Int) < 4611686018427387904 := by omega
  have m1 : ∀ i : Int, CMul i 2 := fun i => cmulR _ _ (by decide)
  have e : fb_law_two_l1 C (E_law_two (x_times := some (.d (.int (t : Nat)))) (x_number := some (.d (.int 1)))) = .nx (E_law_two (x_times := some (.d (.int (t : Nat)))) (x_number := some (.d (.int ((2 ^ t : Nat) : Int))))) := by
    unfold fb_law_two_l1
    refine for_e (items := rangeL 0 t) (chk := fun _ => True) (fun i => E_law_two (x_times := some (.d (.int (t : Nat)))) (x_number := some (.d (.int ((2 ^ i : Nat) : Int))))) (by simp -implicitDefEqProofs [E_law_two, hz]) (fun i d hd => ⟨trivial, ?_⟩) trivial (by rw [rangeL_len])
    obtain ⟨hi, rfl⟩ := rangeL_at hd
    have hp : ((2 ^ (i + 1) : Nat) : Int) = ((2 ^ i : Nat) : Int) * 2 := by rw [Nat.pow_succ]; omega
    rw [hp]
    generalize ((2 ^ i : Nat) : Int) = y
    simp -implicitDefEqProofs [E_law_two, fb_law_two_l1b, m1]
  generalize ((2 ^ t : Nat) : Int) = y at *
  simp -implicitDefEqProofs [E_law_two] at e
  simp -implicitDefEqProofs [F_law_two, fb_law_two, env0, e]
def natsI (l : List Nat) : List D := l.map fun n : Nat => .int (n : Nat)
theorem bitAnd_one (n : Nat) : Builtin.bitAnd (n : Int) 1 = ((n % 2 : Nat) : Int) := by
  have : Builtin.bitAnd (n : Int) 1 = ((n &&& 1 : Nat) : Int) := rfl
  rw [this, Nat.and_one_is_mod]
theorem digits_of_ok (C : Cs) (m l : Nat) (hl : l ≤ 64) : F_digits_of C [.d (.int (m : Nat)), .d (.int (l : Nat))] [] = .ok (.d (.lst (natsI (digitsN m l)))) [] := by
  have hz : -4611686018427387904 ≤ (l : Int) ∧ (l : Int) < 4611686018427387904 := by omega
  have c1 : fb_digits_of_c1 C (E_digits_of (x_number := some (.d (.int (m : Nat)))) (x_size := some (.d (.int (l : Nat))))) = .ok (.d (.lst (natsI (digitsN m l)))) (E_digits_of (x_number := some (.d (.int (m : Nat)))) (x_size := some (.d (.int (l : Nat))))) := by
    unfold fb_digits_of_c1
    rw [comp_m (n := 100) (items := rangeL 0 l) (chk := fun _ => True) (natsI (digitsN m l)) (e1 := E_digits_of (x_number := some (.d (.int (m : Nat)))) (x_size := some (.d (.int (l : Nat))))) (by simp -implicitDefEqProofs [E_digits_of, hz]) (by simp [Env.open]) (by rw [rangeL_len]; omega) (by rw [sizeL]; omega) rfl (by unfold natsI; rw [List.length_map, digits_len, rangeL_len]) (fun i d y acc hd hy ha => ⟨trivial, by
      obtain ⟨hi, rfl⟩ := rangeL_at hd
      unfold natsI digitsN at hy
      rw [List.getElem?_map, List.getElem?_map, List.getElem?_range hi] at hy
      cases hy
      have hs : acc.length < 16777216 := by omega
      have h0 : (0 : Int) ≤ (l : Int) - 1 - i := by omega
      have h0' : (i : Int) ≤ (l : Int) - 1 := by omega
      have h1 : ((l : Int) - 1 - i).toNat = l - 1 - i := by omega
      have h2 : (m : Int) / 2 ^ (l - 1 - i) = ((m / 2 ^ (l - 1 - i) : Nat) : Int) := by
        rw [Int.natCast_ediv, Int.natCast_pow]; rfl
      have h3 := bitAnd_one (m / 2 ^ (l - 1 - i))
      rw [← h2] at h3
      generalize hx : (m : Int) / 2 ^ (l - 1 - i) = x at *
      simp -implicitDefEqProofs [E_digits_of, sizeL, hs, h0, h0', h1, hx, h3]⟩) (fun _ => trivial)]
    simp -implicitDefEqProofs
  simp -implicitDefEqProofs [E_digits_of] at c1
  simp -implicitDefEqProofs [F_digits_of, fb_digits_of, env0, c1]
@[simp] abbrev Elb (m l : Nat) (acc : List D) : Dl.Env := E_law_bits_k56 (x_number := some (.d (.int (m : Nat)))) (x_size := some (.d (.int (l : Nat)))) (x_bits_here := some (.loc 0)) (c0 := some (.lst acc))
theorem law_bits_ok (C : Cs) (m l : Nat) (hl : l ≤ 30) : F_law_bits_k56 C [.d (.int (m : Nat)), .d (.int (l : Nat))] [] = .ok (.d (.lst (natsI (digitsN m l)))) [] := by
  have hz : -4611686018427387904 ≤ (l : Int) ∧ (l : Int) < 4611686018427387904 := by omega
  have e : fb_law_bits_k56_l1 C (Elb m l []) = .nx (Elb m l (natsI (digitsN m l))) := by
    unfold fb_law_bits_k56_l1
    refine for_e (items := rangeL 0 l) (chk := fun _ => True) (fun i => Elb m l ((natsI (digitsN m l)).take i)) (by simp -implicitDefEqProofs [Elb, E_law_bits_k56, hz]) (fun i d hd => ⟨trivial, ?_⟩) trivial (by rw [rangeL_len, List.take_of_length_le]; unfold natsI; rw [List.length_map, digits_len]; exact Nat.le_refl _)
    obtain ⟨hi, rfl⟩ := rangeL_at hd
    have hy : (natsI (digitsN m l))[i]? = some (.int ((m / 2 ^ (l - 1 - i) % 2 : Nat) : Int)) := by
      unfold natsI digitsN
      rw [List.getElem?_map, List.getElem?_map, List.getElem?_range hi]
      rfl
    rw [List.take_add_one, hy]
    have hn : ((natsI (digitsN m l)).take i).length < 16777216 := by rw [List.length_take]; omega
    have h1 : (l : Int) - 1 - i = ((l - 1 - i : Nat) : Int) := by omega
    have h2 := law_two_ok C (l - 1 - i) (by omega)
    have h3 : (2 ^ (l - 1 - i) : Nat) < 2 ^ 30 := Nat.pow_lt_pow_right (by omega) (by omega)
    have h4 : 0 < 2 ^ (l - 1 - i) := Nat.pow_pos (by omega)
    generalize 2 ^ (l - 1 - i) = y at *
    have h5 : ((m : Int).fdiv (y : Int)) = ((m / y : Nat) : Int) := by
      rw [Int.fdiv_eq_ediv_of_nonneg _ (by omega), Int.natCast_ediv]
    have h6 : (((m / y : Nat) : Int).fmod 2) = ((m / y % 2 : Nat) : Int) := by
      rw [Int.fmod_eq_emod_of_nonneg _ (by decide), Int.natCast_emod]; rfl
    have hd : CDivN (m : Int) (y : Int) := by
      constructor <;> omega
    generalize (natsI (digitsN m l)).take i = A at *
    generalize hq : m / y = q at *
    simp -implicitDefEqProofs only [Option.toList_some] 
    simp -implicitDefEqProofs [Elb, E_law_bits_k56, fb_law_bits_k56_l1b, h1, h2, hd, h5, h6, sizeL, hn]
  simp -implicitDefEqProofs [Elb, E_law_bits_k56] at e
  simp -implicitDefEqProofs [F_law_bits_k56, fb_law_bits_k56, env0, sizeL, e]
def stepsN (m : Nat) : List Nat := List.replicate (m + 1).log2 0 ++ digitsN (m + 1) ((m + 1).log2 + 1)
theorem log2_le {m : Nat} (h : m ≤ 4000000) : (m + 1).log2 < 23 := (Nat.log2_lt (by omega)).mpr (by omega)
theorem steps_of_ok (C : Cs) (m : Nat) (h : m ≤ 4000000) : F_steps_of C [.d (.int (m : Nat))] [] = .ok (.d (.lst (natsI (stepsN m)))) [] := by
  have hb := log2_le h
  have e1 : Builtin.Int.intBits ((m : Int) + 1) = (m + 1).log2 + 1 := by
    unfold Builtin.Int.intBits
    rw [show (m : Int) + 1 = ((m + 1 : Nat) : Int) by omega, Int.natAbs_natCast]
    simp
    omega
  have hd := digits_of_ok C (m + 1) ((m + 1).log2 + 1) (by omega)
  rw [show ((m + 1 : Nat) : Int) = (m : Int) + 1 by omega, show (((m + 1).log2 + 1 : Nat) : Int) = ((m + 1).log2 : Int) + 1 by omega] at hd
  have hs : natsI (stepsN m) = List.replicate (m + 1).log2 (.int 0) ++ natsI (digitsN (m + 1) ((m + 1).log2 + 1)) := by
    unfold natsI stepsN
    rw [List.map_append, List.map_replicate]
    rfl
  rw [hs]
  have hdl : (natsI (digitsN (m + 1) ((m + 1).log2 + 1))).length = (m + 1).log2 + 1 := by unfold natsI; rw [List.length_map, digits_len]
  generalize natsI (digitsN (m + 1) ((m + 1).log2 + 1)) = Dd at *
  generalize (m + 1).log2 = b at *
  have k1 : b + (b + 1) ≤ 16777216 := by omega
  have k2 : (b : Int) < 9223372036854775808 := by omega
  have k3 : b ≤ 16777216 := by omega
  simp -implicitDefEqProofs [F_steps_of, fb_steps_of, env0, e1, hd, sizeL, hdl, k1, k2, k3]
theorem law_steps_of_ok (C : Cs) (m : Nat) (h : m ≤ 4000000) : F_law_steps_of C [.d (.int (m : Nat))] [] = .ok (.d (.lst (natsI (stepsN m)))) [] := by
  have hb := log2_le h
  have hlo : 2 ^ (m + 1).log2 ≤ m + 1 := Nat.log2_self_le (by omega)
  have hhi : m + 1 < 2 ^ ((m + 1).log2 + 1) := Nat.lt_log2_self
  have e0 : fb_law_steps_of_w1 C (E_law_steps_of (x_number := some (.d (.int (m : Nat)))) (x_size := some (.d (.int 0)))) = .nx (E_law_steps_of (x_number := some (.d (.int (m : Nat)))) (x_size := some (.d (.int (((m + 1).log2 + 1 : Nat) : Int))))) := by
    unfold fb_law_steps_of_w1
    refine while_i (S := Nat) (fun k => E_law_steps_of (x_number := some (.d (.int (m : Nat)))) (x_size := some (.d (.int (k : Nat))))) (fun k => k ≤ (m + 1).log2 + 1) (fun k => (m + 1).log2 + 1 - k)
      (fun r => r = .nx (E_law_steps_of (x_number := some (.d (.int (m : Nat)))) (x_size := some (.d (.int (((m + 1).log2 + 1 : Nat) : Int)))))) 0 (Nat.zero_le _) (by show (m + 1).log2 + 1 - 0 < 1000000; omega) ?_
    intro k hk
    have ht := law_two_ok C k (by omega)
    by_cases hlt : k < (m + 1).log2 + 1
    · left
      have hp : 2 ^ k ≤ 2 ^ (m + 1).log2 := Nat.pow_le_pow_right (by omega) (by omega)
      refine ⟨k + 1, ?_, hlt, by omega⟩
      generalize 2 ^ k = y at *
      have hc : (y : Int) ≤ (m : Int) + 1 := by omega
      simp -implicitDefEqProofs [E_law_steps_of, fb_law_steps_of_w1b, ht, hc]
    · right; left
      have : k = (m + 1).log2 + 1 := by omega
      subst this
      refine ⟨_, ?_, rfl⟩
      generalize 2 ^ ((m + 1).log2 + 1) = y at *
      rw [show (((m + 1).log2 + 1 : Nat) : Int) = ((m + 1).log2 : Int) + 1 by omega] at ht
      have hc : ¬ (y : Int) ≤ (m : Int) + 1 := by omega
      simp -implicitDefEqProofs [E_law_steps_of, ht, hc]
  have hd := law_bits_ok C (m + 1) ((m + 1).log2 + 1) (by omega)
  rw [show ((m + 1 : Nat) : Int) = (m : Int) + 1 by omega, show (((m + 1).log2 + 1 : Nat) : Int) = ((m + 1).log2 : Int) + 1 by omega] at hd
  rw [show (((m + 1).log2 + 1 : Nat) : Int) = ((m + 1).log2 : Int) + 1 by omega] at e0
  have hs : natsI (stepsN m) = List.replicate (m + 1).log2 (.int 0) ++ natsI (digitsN (m + 1) ((m + 1).log2 + 1)) := by
    unfold natsI stepsN
    rw [List.map_append, List.map_replicate]
    rfl
  rw [hs]
  have hdl : (natsI (digitsN (m + 1) ((m + 1).log2 + 1))).length = (m + 1).log2 + 1 := by unfold natsI; rw [List.length_map, digits_len]
  generalize natsI (digitsN (m + 1) ((m + 1).log2 + 1)) = Dd at *
  generalize (m + 1).log2 = b at *
  have k1 : b + (b + 1) ≤ 16777216 := by omega
  have k2 : (b : Int) < 9223372036854775808 := by omega
  have k3 : b ≤ 16777216 := by omega
  simp -implicitDefEqProofs [E_law_steps_of] at e0
  simp -implicitDefEqProofs [F_law_steps_of, fb_law_steps_of, env0, e0, hd, sizeL, hdl, k1, k2, k3]
end Tp
end
section
set_option Elab.async false
set_option linter.all false
set_option maxRecDepth 100000
set_option maxHeartbeats 8000000
namespace Tp
open PySem L2 Dl
/-! is_full on a list of ints -/
@[simp] abbrev Eif (l : List Int) (u : Option W := none) (lg : Option W := none) : Dl.Env := E_is_full (x_lengths := some (.d (.lst (l.map .int)))) (x_used := u) (x_longest := lg)
theorem full_c1 (C : Cs) (l : List Int) (hl : l.length ≤ 1000) : fb_is_full_c1 C (Eif l) = .ok (.d (.lst ((usedL l).map .int))) (Eif l) := by
  unfold fb_is_full_c1
  rw [comp_ints (chk := fun _ => True) (e1 := Eif l) (fun x => x != 0) l (by simp -implicitDefEqProofs [Eif, E_is_full]) (by simp [Env.open]) (by omega) rfl (fun i x acc hx ha => ⟨trivial, by
    by_cases h : x = 0
    · simp -implicitDefEqProofs [Eif, E_is_full, sizeL, ha, h]
    · have hb : (x == 0) = false := beq_false_of_ne h
      simp -implicitDefEqProofs [Eif, E_is_full, sizeL, ha, h, hb]⟩) (fun _ => trivial)]
  simp -implicitDefEqProofs [endL, Eif, E_is_full, usedL]
theorem full_c2 (C : Cs) (l u : List Int) (hl : u.length ≤ 1000) : fb_is_full_c2 C (Eif l (some (.d (.lst (u.map .int))))) = .ok (.d (.lst ((u.map fun x => decide (x < 0)).map .bl))) (Eif l (some (.d (.lst (u.map .int))))) := by
  unfold fb_is_full_c2
  rw [comp_m (n := 1000) (items := u.map .int) (chk := fun _ => True) ((u.map fun x => decide (x < 0)).map .bl) (e1 := Eif l (some (.d (.lst (u.map .int))))) (by simp -implicitDefEqProofs [Eif, E_is_full]) (by simp [Env.open]) (by rw [List.length_map]; exact hl) (by rw [sizeL]; omega) rfl (by simp) (fun i d y acc hd hy ha => ⟨trivial, by
    obtain ⟨hi, rfl⟩ := map_at hd
    rw [List.getElem?_map, List.getElem?_map, List.getElem?_eq_getElem hi] at hy
    cases hy
    have hs : acc.length < 16777216 := by omega
    simp -implicitDefEqProofs [Eif, E_is_full, sizeL, hs]⟩) (fun _ => trivial)]
  simp -implicitDefEqProofs [endL, Eif, E_is_full]
theorem full_c3 (C : Cs) (l u : List Int) (lg : Int) (hl : u.length ≤ 1000) (hg : lg ≤ 60) (hx : ∀ x ∈ u, 0 ≤ x ∧ x ≤ lg) : fb_is_full_c3 C (Eif l (some (.d (.lst (u.map .int)))) (some (.d (.int lg)))) = .ok (.d (.lst ((u.map fun x => (2 : Int) ^ (lg - x).toNat).map .int))) (Eif l (some (.d (.lst (u.map .int)))) (some (.d (.int lg)))) := by
  unfold fb_is_full_c3
  rw [comp_m (n := 1000) (items := u.map .int) (chk := fun _ => True) ((u.map fun x => (2 : Int) ^ (lg - x).toNat).map .int) (e1 := Eif l (some (.d (.lst (u.map .int)))) (some (.d (.int lg)))) (by simp -implicitDefEqProofs [Eif, E_is_full]) (by simp [Env.open]) (by rw [List.length_map]; exact hl) (by rw [sizeL]; omega) rfl (by simp) (fun i d y acc hd hy ha => ⟨trivial, by
    obtain ⟨hi, rfl⟩ := map_at hd
    have hm := hx _ (List.getElem_mem hi)
    rw [List.getElem?_map, List.getElem?_map, List.getElem?_eq_getElem hi] at hy
    cases hy
    generalize u[i] = x at hm ⊢
    have hs : acc.length < 16777216 := by omega
    have hc : CPow 1 (lg - x) := by
      obtain ⟨k, hk⟩ : ∃ k : Nat, lg - x = k := ⟨(lg - x).toNat, by omega⟩
      rw [hk]
      have : k ≤ 60 := by omega
      unfold CPow
      refine ⟨by omega, ?_⟩
      first | omega | (simp; omega)
    have hp : (1 : Int) * 2 ^ (lg - x).toNat = 2 ^ (lg - x).toNat := Int.one_mul _
    simp -implicitDefEqProofs [Eif, E_is_full, sizeL, hs, hc, hp]⟩) (fun _ => trivial)]
  simp -implicitDefEqProofs [endL, Eif, E_is_full]
theorem inT_nil : inT (.lst []) (.tup [.lst [], .lst [.int 1]]) = some true := by
  unfold inT
  simp [toPy, toPyL, SeqAt.shaped, PyData.canLay0, PyData.canLayAll0, PyData.depth, PyData.depthAll, PyData.eqv, PyData.eqvAll]
theorem inT_one (x : Int) : inT (.lst [.int x]) (.tup [.lst [], .lst [.int 1]]) = some (x == 1) := by
  unfold inT
  simp [toPy, toPyL, SeqAt.shaped, PyData.canLay0, PyData.canLayAll0, PyData.depth, PyData.depthAll, PyData.eqv, PyData.eqvAll]
  rw [Bool.eq_iff_iff, beq_iff_eq, beq_iff_eq]
  exact eq_comm
/-- the program's look -/
def fullI (l : List Int) : Bool :=
  if (usedL l).any (fun x => decide (x < 0)) = true then false
  else if (usedL l).length ≤ 1 then (usedL l == [] || usedL l == [1])
  else if ((usedL l).length : Int) ≤ maxI (usedL l) then false
  else ((usedL l).map fun x => (2 : Int) ^ (maxI (usedL l) - x).toNat).sum == 2 ^ (maxI (usedL l)).toNat
theorem maxI_ge : ∀ {l : List Int} {x : Int}, x ∈ l → x ≤ maxI l
  | [y], x, h => by rw [List.mem_singleton.mp h]; exact Int.le_refl _
  | y :: z :: r, x, h => by
    rw [maxI]
    rcases List.mem_cons.mp h with rfl | h
    · exact Int.le_max_left _ _
    · exact Int.le_trans (maxI_ge h) (Int.le_max_right _ _)
theorem is_full_ok (C : Cs) (l : List Int) (hl : l.length ≤ 60) : F_is_full C [.d (.lst (l.map .int))] [] = .ok (.d (.bl (fullI l))) [] := by
  have c1 := full_c1 C l (by omega)
  have hu : (usedL l).length ≤ l.length := List.length_filter_le _ _
  unfold fullI
  generalize usedL l = u at *
  obtain ⟨bs, c2, hany⟩ : ∃ bs : List Bool, fb_is_full_c2 C (Eif l (some (.d (.lst (u.map .int))))) = .ok (.d (.lst (bs.map .bl))) (Eif l (some (.d (.lst (u.map .int))))) ∧ bs.any id = u.any fun x => decide (x < 0) := ⟨_, full_c2 C l u (by omega), by rw [List.any_map]; rfl⟩
  have hul : u.length ≤ 16777216 := by omega
  simp -implicitDefEqProofs [Eif, E_is_full] at c1 c2
  by_cases h1 : (u.any fun x => decide (x < 0)) = true
  · rw [if_pos h1]
    rw [h1] at hany
    simp -implicitDefEqProofs [F_is_full, fb_is_full, env0, c1, c2, hany]
  · have h1f : (u.any fun x => decide (x < 0)) = false := by simpa using h1
    rw [if_neg h1]
    rw [h1f] at hany
    by_cases h2 : u.length ≤ 1
    · rw [if_pos h2]
      match u, h2 with
      | [], _ =>
        have it := inT_nil
        simp -implicitDefEqProofs at c1 c2 hany
        simp -implicitDefEqProofs [F_is_full, fb_is_full, env0, sizeL, c1, c2, hany, it]
      | [x], _ =>
        have it := inT_one x
        simp -implicitDefEqProofs at c1 c2 hany
        simp -implicitDefEqProofs [F_is_full, fb_is_full, env0, sizeL, c1, c2, hany, it]
    · rw [if_neg h2]
      have hne : u ≠ [] := by intro e; subst e; simp at h2
      have h2' : ¬ (u.length : Int) ≤ 1 := by omega
      by_cases h3 : (u.length : Int) ≤ maxI u
      · rw [if_pos h3]
        simp -implicitDefEqProofs [F_is_full, fb_is_full, env0, sizeL, c1, c2, hany, hul, h2, h2', hne, h3]
      · rw [if_neg h3]
        have h0 : 0 ≤ maxI u := by
          have hm := maxI_mem hne
          have := List.any_eq_false.mp h1f _ hm
          simpa using this
        have hx0 : ∀ x ∈ u, 0 ≤ x ∧ x ≤ maxI u := fun x hx => ⟨by have := List.any_eq_false.mp h1f _ hx; simpa using this, maxI_ge hx⟩
        obtain ⟨ns, c3, hns⟩ : ∃ ns : List Int, fb_is_full_c3 C (Eif l (some (.d (.lst (u.map .int)))) (some (.d (.int (maxI u))))) = .ok (.d (.lst (ns.map .int))) (Eif l (some (.d (.lst (u.map .int)))) (some (.d (.int (maxI u))))) ∧ ns = u.map fun x => (2 : Int) ^ (maxI u - x).toNat := ⟨_, full_c3 C l u (maxI u) (by omega) (by omega) hx0, rfl⟩
        rw [← hns]
        have hc : CPow 1 (maxI u) := ⟨h0, by omega, by decide⟩
        have hp : (1 : Int) * 2 ^ (maxI u).toNat = 2 ^ (maxI u).toNat := Int.one_mul _
        simp -implicitDefEqProofs [Eif, E_is_full] at c3
        simp -implicitDefEqProofs [F_is_full, fb_is_full, env0, sizeL, c1, c2, hany, hul, h2, h2', hne, h3, c3, hc, hp]
end Tp
end
section
set_option Elab.async false
set_option linter.all false
set_option maxRecDepth 100000
set_option maxHeartbeats 8000000
namespace Tp
open PySem L2 Dl
@[simp] abbrev Elf5 (l : List Int) (u : Option W := none) : Dl.Env := E_law_full (x_lengths_here := some (.d (.lst (l.map .int)))) (x_used := u)
theorem lfull_c1 (C : Cs) (l : List Int) (hl : l.length ≤ 1000) : fb_law_full_c1 C (Elf5 l) = .ok (.d (.lst ((usedL l).map .int))) (Elf5 l) := by
  unfold fb_law_full_c1
  rw [comp_ints (chk := fun _ => True) (e1 := Elf5 l) (fun x => x != 0) l (by simp -implicitDefEqProofs [Elf5, E_law_full]) (by simp [Env.open]) (by omega) rfl (fun i x acc hx ha => ⟨trivial, by
    by_cases h : x = 0
    · simp -implicitDefEqProofs [Elf5, E_law_full, sizeL, ha, h]
    · have hb : (x == 0) = false := beq_false_of_ne h
      simp -implicitDefEqProofs [Elf5, E_law_full, sizeL, ha, h, hb]⟩) (fun _ => trivial)]
  simp -implicitDefEqProofs [endL, Elf5, E_law_full, usedL]
theorem lfull_c2 (C : Cs) (l u : List Int) (hl : u.length ≤ 1000) : fb_law_full_c2 C (Elf5 l (some (.d (.lst (u.map .int))))) = .ok (.d (.lst ((u.map fun x => (decide (x < 0) || decide (60 < x))).map .bl))) (Elf5 l (some (.d (.lst (u.map .int))))) := by
  unfold fb_law_full_c2
  rw [comp_m (n := 1000) (items := u.map .int) (chk := fun _ => True) ((u.map fun x => (decide (x < 0) || decide (60 < x))).map .bl) (e1 := Elf5 l (some (.d (.lst (u.map .int))))) (by simp -implicitDefEqProofs [Elf5, E_law_full]) (by simp [Env.open]) (by rw [List.length_map]; exact hl) (by rw [sizeL]; omega) rfl (by simp) (fun i d y acc hd hy ha => ⟨trivial, by
    obtain ⟨hi, rfl⟩ := map_at hd
    rw [List.getElem?_map, List.getElem?_map, List.getElem?_eq_getElem hi] at hy
    cases hy
    generalize u[i] = x
    have hs : acc.length < 16777216 := by omega
    by_cases h : x < 0
    · simp -implicitDefEqProofs [Elf5, E_law_full, sizeL, hs, h]
    · simp -implicitDefEqProofs [Elf5, E_law_full, sizeL, hs, h]⟩) (fun _ => trivial)]
  simp -implicitDefEqProofs [endL, Elf5, E_law_full]
theorem two_int (C : Cs) {i : Int} (h0 : 0 ≤ i) (h1 : i ≤ 60) : F_law_two C [.d (.int i)] [] = .ok (.d (.int ((2 : Int) ^ i.toNat))) [] := by
  have := law_two_ok C i.toNat (by omega)
  rw [Int.toNat_of_nonneg h0, Int.natCast_pow] at this
  exact this
theorem lfull_c3 (C : Cs) (l u : List Int) (hl : u.length ≤ 1000) (hx : ∀ x ∈ u, 0 ≤ x ∧ x ≤ 60) : fb_law_full_c3 C (Elf5 l (some (.d (.lst (u.map .int))))) = .ok (.d (.lst ((u.map fun x => (2 : Int) ^ (60 - x).toNat).map .int))) (Elf5 l (some (.d (.lst (u.map .int))))) := by
  unfold fb_law_full_c3
  rw [comp_m (n := 1000) (items := u.map .int) (chk := fun _ => True) ((u.map fun x => (2 : Int) ^ (60 - x).toNat).map .int) (e1 := Elf5 l (some (.d (.lst (u.map .int))))) (by simp -implicitDefEqProofs [Elf5, E_law_full]) (by simp [Env.open]) (by rw [List.length_map]; exact hl) (by rw [sizeL]; omega) rfl (by simp) (fun i d y acc hd hy ha => ⟨trivial, by
    obtain ⟨hi, rfl⟩ := map_at hd
    have hm := hx _ (List.getElem_mem hi)
    rw [List.getElem?_map, List.getElem?_map, List.getElem?_eq_getElem hi] at hy
    cases hy
    generalize u[i] = x at hm ⊢
    have hs : acc.length < 16777216 := by omega
    have h2 := two_int C (i := 60 - x) (by omega) (by omega)
    simp -implicitDefEqProofs [Elf5, E_law_full, sizeL, hs, h2]⟩) (fun _ => trivial)]
  simp -implicitDefEqProofs [endL, Elf5, E_law_full]
theorem okNs_int (n : Nat) : ∀ u : List Int, okNs n (u.map .int) = true
  | [] => okNs_nil
  | x :: u => by rw [List.map_cons, okNs_cons, okN_int, okNs_int n u]; rfl
theorem eqB_intl (u v : List Int) : eqB (.lst (u.map .int)) (.lst (v.map .int)) = some (decide (u = v)) := by
  rw [eqB_lst, okN_lst, okN_lst, okNs_int, okNs_int, eqvD_lst, eqvL_ints]
  rfl
/-- the law's look -/
def fullJ (l : List Int) : Bool :=
  if usedL l = [] ∨ usedL l = [1] then true
  else if (usedL l).length = 1 ∨ (usedL l).any (fun x => (decide (x < 0) || decide (60 < x))) = true then false
  else ((usedL l).map fun x => (2 : Int) ^ (60 - x).toNat).sum == 2 ^ 60
theorem law_full_ok (C : Cs) (l : List Int) (hl : l.length ≤ 60) : F_law_full C [.d (.lst (l.map .int))] [] = .ok (.d (.bl (fullJ l))) [] := by
  have c1 := lfull_c1 C l (by omega)
  have hu : (usedL l).length ≤ l.length := List.length_filter_le _ _
  unfold fullJ
  generalize usedL l = u at *
  obtain ⟨bs, c2, hany⟩ : ∃ bs : List Bool, fb_law_full_c2 C (Elf5 l (some (.d (.lst (u.map .int))))) = .ok (.d (.lst (bs.map .bl))) (Elf5 l (some (.d (.lst (u.map .int))))) ∧ bs.any id = u.any fun x => (decide (x < 0) || decide (60 < x)) := ⟨_, lfull_c2 C l u (by omega), by rw [List.any_map]; rfl⟩
  have hul : u.length ≤ 16777216 := by omega
  have q0 : eqB (.lst (u.map .int)) (.lst []) = some (decide (u = [])) := eqB_intl u []
  have q1 : eqB (.lst (u.map .int)) (.lst [.int 1]) = some (decide (u = [1])) := eqB_intl u [1]
  generalize hA : u.map D.int = A at *
  have hAl : A.length = u.length := by rw [← hA, List.length_map]
  simp -implicitDefEqProofs [Elf5, E_law_full] at c1 c2
  by_cases h1 : u = []
  · rw [if_pos (.inl h1)]
    rw [decide_eq_true h1] at q0
    simp -implicitDefEqProofs [F_law_full, fb_law_full, env0, c1, q0, -eqB_lst]
  · rw [decide_eq_false h1] at q0
    by_cases h2 : u = [1]
    · rw [if_pos (.inr h2)]
      rw [decide_eq_true h2] at q1
      simp -implicitDefEqProofs [F_law_full, fb_law_full, env0, sizeL, c1, q0, q1, -eqB_lst]
    · rw [decide_eq_false h2] at q1
      rw [if_neg (by rintro (z | z) <;> contradiction)]
      by_cases h3 : u.length = 1
      · rw [if_pos (.inl h3)]
        simp -implicitDefEqProofs [F_law_full, fb_law_full, env0, sizeL, c1, q0, q1, -eqB_lst, hAl, h3]
      · have h3b : ((u.length : Int) == 1) = false := beq_false_of_ne (by omega)
        cases h4 : u.any fun x => (decide (x < 0) || decide (60 < x)) with
        | true =>
          rw [if_pos (.inr rfl)]
          rw [h4] at hany
          simp -implicitDefEqProofs [F_law_full, fb_law_full, env0, sizeL, c1, q0, q1, -eqB_lst, hAl, hul, h3, h3b, c2, hany]
        | false =>
          rw [if_neg (by rintro (z | z) <;> first | exact h3 z | cases z)]
          rw [h4] at hany
          have hx : ∀ x ∈ u, 0 ≤ x ∧ x ≤ 60 := fun x hx => by
            have := List.any_eq_false.mp h4 x hx
            simp at this
            omega
          have c3' := lfull_c3 C l u (by omega) hx
          rw [hA] at c3'
          obtain ⟨ns, c3, hns⟩ : ∃ ns : List Int, fb_law_full_c3 C (Elf5 l (some (.d (.lst A)))) = .ok (.d (.lst (ns.map .int))) (Elf5 l (some (.d (.lst A)))) ∧ ns = u.map fun x => (2 : Int) ^ (60 - x).toNat := ⟨_, c3', rfl⟩
          rw [← hns]
          have h60 := two_int C (i := 60) (by omega) (by omega)
          simp -implicitDefEqProofs at h60
          simp -implicitDefEqProofs [Elf5, E_law_full] at c3
          simp -implicitDefEqProofs [F_law_full, fb_law_full, env0, sizeL, c1, q0, q1, -eqB_lst, hAl, hul, h3, h3b, c2, hany, c3, h60]
end Tp
end
section
set_option Elab.async false
set_option linter.all false
set_option maxRecDepth 100000
set_option maxHeartbeats 0
namespace Tp
open PySem L2 Dl
theorem looks_same : [0, 1, 2, 3, 4, 5].all (fun n => (lists n).all fun l => fullI l == fullJ l) = true := by decide +kernel
end Tp
end
section
set_option Elab.async false
set_option linter.all false
set_option maxRecDepth 100000
set_option maxHeartbeats 8000000
namespace Tp
open PySem L2 Dl
/-! sorted pairs and sorted groups -/
def pD (p : Nat × Nat) : D := .tup [.int (p.1 : Nat), .int (p.2 : Nat)]
def leP (p q : Nat × Nat) : Bool := decide (p.1 < q.1) || (decide (p.1 = q.1) && decide (p.2 ≤ q.2))
def sortP (ps : List (Nat × Nat)) : List (Nat × Nat) := ps.mergeSort leP
theorem key_pD (p : Nat × Nat) : keyPy (pD p) = .tuple [.int (p.1 : Nat), .int (p.2 : Nat)] := by
  unfold keyPy pD
  simp [toPy, toPyL]
theorem sortD_pairs (ps : List (Nat × Nat)) : sortD (ps.map pD) = (sortP ps).map pD := by
  unfold sortD sortP
  refine (List.map_mergeSort fun a _ b _ => ?_).symm
  show leP a b = (!PySem.W.dataLt (keyPy (pD b)) (keyPy (pD a)))
  rw [key_pD, key_pD, PySem.W.dataLt_ii]
  unfold leP
  rw [Bool.eq_iff_iff]
  simp
  omega
theorem toPyL_all {α : Type} (f : α → D) (g : α → PyData) (h : ∀ a, toPy (f a) = some (g a)) : ∀ l : List α, toPyL (l.map f) = some (l.map g)
  | [] => rfl
  | a :: l => by rw [List.map_cons, toPyL, h a, toPyL_all f g h l]; rfl
theorem okSort_all {α : Type} (f : α → D) (g : α → PyData) (h : ∀ a, toPy (f a) = some (g a)) (ha : ∀ a b, PySem.W.alike (g a) (g b) = true) (ht : ∀ a, ∃ x xs, g a = .tuple (x :: xs)) (hd : ∀ a, (g a).depth ≤ 60) (l : List α) (hl : l.length ≤ 16777216) : okSort (l.map f) = true := by
  unfold okSort
  rw [toPyL_all f g h]
  dsimp only
  unfold srtOk
  simp only [List.all_map, Bool.and_eq_true, Bool.or_eq_true, List.length_map, decide_eq_true_eq]
  refine ⟨⟨⟨?_, .inl ?_⟩, ?_⟩, by rw [sizeL]; exact hl⟩
  · rw [List.all_eq_true]
    intro a _
    rw [Function.comp_apply, List.all_eq_true]
    intro b _
    exact ha (a) b
  · rw [List.all_eq_true]
    intro a _
    obtain ⟨x, xs, e⟩ := ht a
    show (match g a with | .tuple (_ :: _) => true | _ => false) = true
    rw [e]
  · rw [List.all_eq_true]
    intro a _
    exact decide_eq_true (hd a)
theorem okSort_pairs (ps : List (Nat × Nat)) (hl : ps.length ≤ 16777216) : okSort (ps.map pD) = true := by
  refine okSort_all pD (fun p => .tuple [.int (p.1 : Nat), .int (p.2 : Nat)]) (fun a => by unfold pD; simp [toPy, toPyL]) (fun a b => by simp [PySem.W.alike, PySem.W.alikeAll]) (fun a => ⟨_, _, rfl⟩) (fun a => by simp [PyData.depth, PyData.depthAll]) ps hl
/-! groups -/
def gPy (g : Gp) : PyData := .tuple [.int (g.w : Nat), .int (g.s : Nat), .list ((g.ss.map fun n : Nat => (n : Int)).map .int)]
theorem toPy_gp (g : Gp) : toPy g.d = some (gPy g) := by
  unfold Gp.d gPy
  have e : (g.ss.map fun n : Nat => D.int (n : Nat)) = (g.ss.map fun n : Nat => (n : Int)).map .int := by rw [List.map_map]; rfl
  rw [e]
  simp only [toPy, toPyL, toPyL_ints]
theorem key_gp (g : Gp) : keyPy g.d = gPy g := by
  unfold keyPy
  rw [toPy_gp]
  rfl
theorem lt_gp {a b : Gp} (h : a.s = b.s → a = b) : PySem.W.dataLt (gPy a) (gPy b) = (decide (a.w < b.w) || (decide (a.w = b.w) && decide (a.s < b.s))) := by
  by_cases e : a = b
  · subst e
    rw [show PySem.W.dataLt (gPy a) (gPy a) = false from PyProof.Rows.lex_irrefl _]
    simp
  · have hs : a.s ≠ b.s := fun z => e (h z)
    unfold gPy
    rw [PySem.W.dataLt_tuple, PySem.W.dataLt_cons (by simp [PySem.W.alike]), PySem.W.dataLt_cons (by simp [PySem.W.alike]), PySem.W.dataLt_int, PySem.W.dataLt_int]
    have e2 : PyData.eqv (.int (a.s : Nat)) (.int (b.s : Nat)) = false := by
      simp [PyData.eqv]
      omega
    rw [e2]
    by_cases hw : a.w = b.w
    · have e1 : PyData.eqv (.int (a.w : Nat)) (.int (b.w : Nat)) = true := by simp [PyData.eqv, hw]
      rw [e1, if_pos rfl, if_neg (by simp)]
      rw [Bool.eq_iff_iff]
      simp
      omega
    · have e1 : PyData.eqv (.int (a.w : Nat)) (.int (b.w : Nat)) = false := by
        simp [PyData.eqv]
        omega
      rw [e1, if_neg (by simp)]
      rw [Bool.eq_iff_iff]
      simp
      omega
theorem sortD_gps (gs : List Gp) (h : ∀ a ∈ gs, ∀ b ∈ gs, a.s = b.s → a = b) : sortD (gs.map Gp.d) = (sortG gs).map Gp.d := by
  unfold sortD sortG
  refine (List.map_mergeSort fun a ha b hb => ?_).symm
  show leG a b = (!PySem.W.dataLt (keyPy b.d) (keyPy a.d))
  rw [key_gp, key_gp, lt_gp (h b hb a ha)]
  unfold leG
  rw [Bool.eq_iff_iff]
  simp
  by_cases e : a.s = b.s
  · have := h a ha b hb e
    subst this
    omega
  · omega
theorem okSort_gps (gs : List Gp) (hl : gs.length ≤ 16777216) : okSort (gs.map Gp.d) = true := by
  refine okSort_all Gp.d gPy toPy_gp (fun a b => ?_) (fun a => ⟨_, _, rfl⟩) (fun a => ?_) gs hl
  · unfold gPy
    simp only [PySem.W.alike, PySem.W.alikeAll, PySem.W.alike_ints, Bool.and_self, Bool.and_true]
  · unfold gPy
    simp only [PyData.depth, PyData.depthAll, PySem.W.depth_ints]
    omega
end Tp
end
section
set_option Elab.async false
set_option linter.all false
set_option maxRecDepth 100000
set_option maxHeartbeats 8000000
namespace Tp
open PySem L2 Dl
theorem ixN_h {n k : Nat} (h : k < n) : ixN n (k : Int) = some k := by
  unfold ixN
  rw [if_pos (by omega)]
  simp
  omega
theorem fm_if {α β : Type} (p : α → Bool) (f : α → β) : ∀ l : List α, l.filterMap (fun a => if p a = true then some (f a) else none) = (l.filter p).map f
  | [] => rfl
  | a :: l => by
    rw [List.filterMap_cons, fm_if p f l, List.filter_cons]
    cases h : p a <;> simp [h]
theorem natsI_len (l : List Nat) : (natsI l).length = l.length := by unfold natsI; rw [List.length_map]
theorem natsI_at (l : List Nat) (i : Nat) : (natsI l)[i]? = (l[i]?).map fun n : Nat => D.int (n : Nat) := by unfold natsI; rw [List.getElem?_map]
theorem natsI_app (a b : List Nat) : natsI (a ++ b) = natsI a ++ natsI b := by unfold natsI; rw [List.map_append]
theorem natsI_getD {l : List Nat} {i : Nat} (h : i < l.length) : (natsI l)[i]? = some (.int (l.getD i 0 : Nat)) := by
  rw [natsI_at, List.getD_eq_getElem?_getD, List.getElem?_eq_getElem h]
  rfl
theorem enum_nats (cs : List Nat) : enumL (natsI cs) = (List.range cs.length).map fun i : Nat => D.tup [.int (i : Nat), .int (cs.getD i 0 : Nat)] := by
  apply List.ext_getElem?
  intro i
  unfold enumL
  rw [List.getElem?_mapIdx, List.getElem?_map]
  by_cases h : i < cs.length
  · rw [natsI_getD h, List.getElem?_range h]
    rfl
  · rw [List.getElem?_eq_none (by rw [natsI_len]; omega), List.getElem?_eq_none (by rw [List.length_range]; omega)]
    rfl
/-! the first groups -/
def hG : D → Option D
  | .tup [.int i, .int x] => if 0 < x then some (.tup [.int x, .int i, .lst [.int i]]) else none
  | _ => none
theorem hG_ev (i x : Int) : hG (.tup [.int i, .int x]) = if 0 < x then some (.tup [.int x, .int i, .lst [.int i]]) else none := rfl
theorem hG_all (cs : List Nat) : (enumL (natsI cs)).filterMap hG = (firstG cs).map Gp.d := by
  rw [enum_nats, firstG_eq, List.filterMap_map, List.map_map]
  unfold usedS
  rw [← fm_if]
  congr 1
  funext i
  show hG (.tup [.int (i : Nat), .int (cs.getD i 0 : Nat)]) = _
  rw [hG_ev]
  by_cases h : 0 < cs.getD i 0
  · rw [if_pos (by omega), if_pos (by simpa using h)]
    rfl
  · rw [if_neg (by omega), if_neg (by simpa using h)]
theorem lo_c1 (C : Cs) (l : List Int) (hl : l.length ≤ 1000) : fb_lengths_of_c1 C (E_lengths_of (x_counts := some (.d (.lst (l.map .int))))) = .ok (.d (.lst ((l.map fun x => decide (x < 0)).map .bl))) (E_lengths_of (x_counts := some (.d (.lst (l.map .int))))) := by
  unfold fb_lengths_of_c1
  rw [comp_m (n := 1000) (items := l.map .int) (chk := fun _ => True) ((l.map fun x => decide (x < 0)).map .bl) (e1 := E_lengths_of (x_counts := some (.d (.lst (l.map .int))))) (by simp -implicitDefEqProofs [E_lengths_of]) (by simp [Env.open]) (by rw [List.length_map]; exact hl) (by rw [sizeL]; omega) rfl (by simp) (fun i d y acc hd hy ha => ⟨trivial, by
    obtain ⟨hi, rfl⟩ := map_at hd
    rw [List.getElem?_map, List.getElem?_map, List.getElem?_eq_getElem hi] at hy
    cases hy
    have hs : acc.length < 16777216 := by omega
    simp -implicitDefEqProofs [E_lengths_of, sizeL, hs]⟩) (fun _ => trivial)]
  simp -implicitDefEqProofs [endL, E_lengths_of]
theorem lo_c2 (C : Cs) (cs : List Nat) (hl : cs.length ≤ 1000) : fb_lengths_of_c2 C (E_lengths_of (x_counts := some (.d (.lst (natsI cs))))) = .ok (.d (.lst ((firstG cs).map Gp.d))) (E_lengths_of (x_counts := some (.d (.lst (natsI cs))))) := by
  unfold fb_lengths_of_c2
  have hel : (enumL (natsI cs)).length = cs.length := by unfold enumL; rw [List.length_mapIdx, natsI_len]
  rw [comp_e (n := 1000) (items := enumL (natsI cs)) (chk := fun _ => True) hG (e1 := E_lengths_of (x_counts := some (.d (.lst (natsI cs))))) (by simp -implicitDefEqProofs [E_lengths_of]) (by simp [Env.open]) (by omega) (by rw [sizeL]; omega) rfl (fun i d acc hd ha => ⟨trivial, by
    have hs : acc.length < 16777216 := by omega
    rw [enum_nats] at hd
    obtain ⟨hi, rfl⟩ := map_at hd
    generalize (List.range cs.length)[i] = j
    by_cases h : 0 < cs.getD j 0
    · have h' : (0 : Int) < (cs.getD j 0 : Nat) := by omega
      have hg : hG (.tup [.int (j : Nat), .int (cs.getD j 0 : Nat)]) = some (.tup [.int (cs.getD j 0 : Nat), .int (j : Nat), .lst [.int (j : Nat)]]) := if_pos h'
      rw [hg]
      generalize ((cs.getD j 0 : Nat) : Int) = x at *
      simp -implicitDefEqProofs [E_lengths_of, sizeL, hs, h']
    · have h' : ¬ (0 : Int) < (cs.getD j 0 : Nat) := by omega
      have hg : hG (.tup [.int (j : Nat), .int (cs.getD j 0 : Nat)]) = none := if_neg h'
      rw [hg]
      generalize ((cs.getD j 0 : Nat) : Int) = x at *
      simp -implicitDefEqProofs [E_lengths_of, sizeL, hs, h']⟩) (fun _ => trivial), hG_all]
  simp -implicitDefEqProofs [endL, E_lengths_of]
/-- one more for each symbol -/
theorem lo_l1 (C : Cs) (cs gr fi se : D) (ss L : List Nat) (h : ∀ s ∈ ss, s < L.length) (hL : L.length ≤ 1000) :
    fb_lengths_of_l1 C (E_lengths_of (x_counts := some (.d cs)) (x_groups := some (.d gr)) (x_lengths := some (.loc 0)) (x_first := some (.d fi)) (x_second := some (.d se)) (x_symbols := some (.d (.lst (natsI ss)))) (c0 := some (.lst (natsI L)))) =
    .nx (E_lengths_of (x_counts := some (.d cs)) (x_groups := some (.d gr)) (x_lengths := some (.loc 0)) (x_first := some (.d fi)) (x_second := some (.d se)) (x_symbols := some (.d (.lst (natsI ss)))) (c0 := some (.lst (natsI (bump ss L))))) := by
  unfold fb_lengths_of_l1
  refine for_e (items := natsI ss) (chk := fun _ => True) (fun i => E_lengths_of (x_counts := some (.d cs)) (x_groups := some (.d gr)) (x_lengths := some (.loc 0)) (x_first := some (.d fi)) (x_second := some (.d se)) (x_symbols := some (.d (.lst (natsI ss)))) (c0 := some (.lst (natsI (bump (ss.take i) L))))) (by simp -implicitDefEqProofs [E_lengths_of]; rfl) (fun i d hd => ⟨trivial, ?_⟩) trivial (by rw [natsI_len, List.take_length])
  unfold natsI at hd
  obtain ⟨hi, rfl⟩ := map_at hd
  have hm := h _ (List.getElem_mem hi)
  have e1 : bump (ss.take (i + 1)) L = (bump (ss.take i) L).set ss[i] ((bump (ss.take i) L).getD ss[i] 0 + 1) := by
    unfold bump
    rw [List.take_add_one, List.getElem?_eq_getElem hi, List.foldl_append]
    rfl
  have hl := bump_len (ss.take i) L
  rw [e1]
  generalize bump (ss.take i) L = B at *
  generalize ss[i] = s at *
  have hs : (natsI B)[s]? = some (.int (B.getD s 0 : Nat)) := natsI_getD (by omega)
  have hx : natsI (B.set s (B.getD s 0 + 1)) = (natsI B).set s (.int ((B.getD s 0 : Nat) + 1 : Int)) := by unfold natsI; rw [List.map_set]; rfl
  have hn : s < (natsI B).length := by rw [natsI_len]; omega
  rw [hx]
  generalize natsI ss = S at *
  generalize natsI B = NB at *
  generalize ((B.getD s 0 : Nat) : Int) = y at *
  have hs2 : NB[s] = .int y := by
    rw [List.getElem?_eq_getElem hn] at hs
    exact Option.some.inj hs
  simp -implicitDefEqProofs [E_lengths_of, fb_lengths_of_l1b, hs2, hn]
theorem cut2 {α : Type} (x y : α) (t : List α) : cutL (x :: y :: t) none (some 2) = [x, y] := by
  have := cutL_to (x :: y :: t) 2
  simpa using this
theorem cut2b {α : Type} (x y : α) (t : List α) : cutL (x :: y :: t) (some 2) none = t := by
  have := cutL_from (x :: y :: t) 2
  simpa using this
theorem gp_d (g : Gp) : g.d = .tup [.int (g.w : Nat), .int (g.s : Nat), .lst (natsI g.ss)] := rfl
theorem merge_d (a b : Gp) : (mergeG a b).d = .tup [.int ((a.w : Int) + (b.w : Int)), .int (if (b.s : Int) < (a.s : Int) then (b.s : Int) else (a.s : Int)), .lst (natsI a.ss ++ natsI b.ss)] := by
  rw [gp_d]
  have e1 : (((mergeG a b).w : Nat) : Int) = (a.w : Int) + (b.w : Int) := by show ((a.w + b.w : Nat) : Int) = _; omega
  have e2 : (((mergeG a b).s : Nat) : Int) = if (b.s : Int) < (a.s : Int) then (b.s : Int) else (a.s : Int) := by
    show ((min a.s b.s : Nat) : Int) = _
    split <;> omega
  rw [e1, e2, ← natsI_app]
  rfl
theorem GsOk.uniq {cs L : List Nat} {gs : List Gp} (h : GsOk cs L gs) : ∀ a ∈ gs, ∀ b ∈ gs, a.s = b.s → a = b := by
  have : ∀ gs : List Gp, (∀ g ∈ gs, GOk cs L g) → gs.Pairwise Disj → ∀ a ∈ gs, ∀ b ∈ gs, a.s = b.s → a = b := by
    intro gs
    induction gs with
    | nil => intro _ _ a ha; cases ha
    | cons g gs ih =>
      intro h1 h2 a ha b hb e
      rw [List.pairwise_cons] at h2
      rcases List.mem_cons.mp ha with ha' | ha'
      · rcases List.mem_cons.mp hb with hb' | hb'
        · rw [ha', hb']
        · exact absurd (show a.s ∈ b.ss from e ▸ (h1 b hb).mem) (h2.1 b hb' a.s (ha' ▸ (h1 a ha).mem))
      · rcases List.mem_cons.mp hb with hb' | hb'
        · exact absurd (show b.s ∈ a.ss from e ▸ (h1 a ha).mem) (h2.1 a ha' b.s (hb' ▸ (h1 b hb).mem))
        · exact ih (fun g hg => h1 g (List.mem_cons_of_mem _ hg)) h2.2 a ha' b hb' e
  exact this gs h.ok h.dj
structure SH where
  n : Nat
  gs : List Gp
  L : List Nat
@[simp] abbrev Elw (cs : D) (g : List Gp) (L : List Nat) : Dl.Env := E_lengths_of (x_counts := some (.d cs)) (x_groups := some (.d (.lst (g.map Gp.d)))) (x_lengths := some (.loc 0)) (c0 := some (.lst (natsI L)))
theorem lo_w1 (C : Cs) (cs : List Nat) (hm : cs.length ≤ 64) (gs : List Gp) (L : List Nat) (n : Nat) (h : GsOk cs L gs) (hn : gs.length ≤ n + 1) (hL : L.length = cs.length) (hg : gs.length ≤ 64) :
    ∃ g, fb_lengths_of_w1 C (Elw (.lst (natsI cs)) (sortG gs) L) = .nx (Elw (.lst (natsI cs)) g (runG n gs L)) := by
  unfold fb_lengths_of_w1
  refine while_i (S := SH) (fun z => Elw (.lst (natsI cs)) (sortG z.gs) z.L) (fun z => GsOk cs z.L z.gs ∧ z.gs.length ≤ z.n + 1 ∧ z.L.length = cs.length ∧ runG z.n z.gs z.L = runG n gs L ∧ z.gs.length ≤ 64) (fun z => z.gs.length)
    (fun r => ∃ g, r = .nx (Elw (.lst (natsI cs)) g (runG n gs L))) ⟨n, gs, L⟩ ⟨h, hn, hL, rfl, hg⟩ (by show gs.length < 1000000; omega) ?_
  rintro ⟨n', gs', L'⟩ ⟨i1, i2, i3, i4, i5⟩
  dsimp only at i1 i2 i3 i4 i5 ⊢
  have hlen := sortG_len gs'
  have hp := sortG_perm gs'
  have hs := i1.perm hp.symm
  cases hq : sortG gs' with
  | nil =>
    right; left
    refine ⟨Elw (.lst (natsI cs)) [] L', ?_, [], ?_⟩
    · generalize natsI L' = NL
      simp -implicitDefEqProofs [E_lengths_of]
    · have e : runG n' gs' L' = L' := by
        cases n' with
        | zero => rfl
        | succ k => rw [runG, hq]
      rw [← i4, e]
  | cons a t =>
    cases t with
    | nil =>
      right; left
      refine ⟨Elw (.lst (natsI cs)) [a] L', ?_, [a], ?_⟩
      · generalize natsI L' = NL
        simp -implicitDefEqProofs [E_lengths_of]
      · have e : runG n' gs' L' = L' := by
          cases n' with
          | zero => rfl
          | succ k => rw [runG, hq]
        rw [← i4, e]
    | cons b r =>
      left
      rw [hq] at hs hlen
      rw [List.length_cons, List.length_cons] at hlen
      obtain ⟨k, rfl⟩ : ∃ k, n' = k + 1 := ⟨n' - 1, by omega⟩
      have hst := hs.step
      have e1 : runG (k + 1) gs' L' = runG k (r ++ [mergeG a b]) (bump (a.ss ++ b.ss) L') := by rw [runG, hq]
      have hrl : (r ++ [mergeG a b]).length = r.length + 1 := by simp
      refine ⟨⟨k, r ++ [mergeG a b], bump (a.ss ++ b.ss) L'⟩, ?_, ⟨hst, by dsimp only; omega, by dsimp only; rw [bump_len]; exact i3, by dsimp only; rw [← e1]; exact i4, by dsimp only; omega⟩, by dsimp only; omega⟩
      have s1 := okSort_gps (r ++ [mergeG a b]) (by omega)
      have s2 := sortD_gps (r ++ [mergeG a b]) hst.uniq
      rw [List.map_append, List.map_cons, List.map_nil, merge_d] at s1 s2
      have hf : ∀ s ∈ a.ss ++ b.ss, s < L'.length := fun s hs' => (List.mem_append.mp hs').elim ((hs.ok a (List.mem_cons_self ..)).lt s) ((hs.ok b (List.mem_cons_of_mem _ (List.mem_cons_self ..))).lt s)
      have l1 := lo_l1 C (.lst (natsI cs)) (.lst ((a :: b :: r).map Gp.d)) a.d b.d (a.ss ++ b.ss) L' hf (by omega)
      have hla := (hs.few)
      rw [allS_cons, allS_cons, List.length_append, List.length_append] at hla
      have k1 : (natsI a.ss).length + (natsI b.ss).length ≤ 16777216 := by rw [natsI_len, natsI_len]; omega
      rw [natsI_app, List.map_cons, List.map_cons, gp_d, gp_d] at l1
      simp only [Elw, List.map_cons, gp_d]
      rw [← s2]
      clear s2
      have hrd : (r.map Gp.d).length = r.length := List.length_map _
      have k2 : r.length + 1 ≤ 16777216 := by omega
      have k3 : (0 : Int) < (r.length : Int) + 1 := by omega
      have k4 : (1 : Int) < (r.length : Int) + 1 + 1 := by omega
      generalize natsI (bump (a.ss ++ b.ss) L') = BL at *
      generalize natsI a.ss = sa at *
      generalize natsI b.ss = sb at *
      generalize r.map Gp.d = rd at *
      generalize natsI L' = NL at *
      generalize natsI cs = NC at *
      generalize (a.w : Int) = aw at *
      generalize (b.w : Int) = bw at *
      generalize (a.s : Int) = as at *
      generalize (b.s : Int) = bs at *
      generalize hmm : (if bs < as then bs else as) = m at *
      simp -implicitDefEqProofs [E_lengths_of] at l1
      simp -implicitDefEqProofs [E_lengths_of, fb_lengths_of_w1b, cut2, cut2b, l1, sizeL, k1, hrd, k2, k3, k4, hmm, s1]
end Tp
end
section
set_option Elab.async false
set_option linter.all false
set_option maxRecDepth 100000
set_option maxHeartbeats 8000000
namespace Tp
open PySem L2 Dl
theorem lo_w0 (C : Cs) (cs : D) (g : List Gp) (L : List Nat) (h : g.length ≤ 1) : fb_lengths_of_w1 C (Elw cs g L) = .nx (Elw cs g L) := by
  unfold fb_lengths_of_w1
  refine while_i (S := Unit) (fun _ => Elw cs g L) (fun _ => True) (fun _ => 0) (fun r => r = .nx (Elw cs g L)) () trivial (by decide) (fun _ _ => ?_)
  right; left
  refine ⟨_, ?_, rfl⟩
  have hg : (g.map Gp.d).length = g.length := List.length_map _
  have h1 : ¬ (1 : Int) < (g.length : Int) := by omega
  generalize g.map Gp.d = G at *
  simp -implicitDefEqProofs [E_lengths_of, hg, h1]
theorem sort_one (g : Gp) : sortG [g] = [g] := by unfold sortG; exact List.mergeSort_singleton g
theorem any_neg_false (cs : List Nat) : ((cs.map fun n : Nat => (n : Int)).map fun x => decide (x < 0)).any id = false := by
  rw [List.map_map, List.any_map, List.any_eq_false]
  intro n _
  simp
theorem natsI_map (cs : List Nat) : natsI cs = (cs.map fun n : Nat => (n : Int)).map .int := by unfold natsI; rw [List.map_map]; rfl
theorem rep_flat (n : Nat) : (List.replicate n [D.int 0]).flatten = natsI (List.replicate n 0) := by
  induction n with
  | zero => rfl
  | succ n ih => rw [List.replicate_succ, List.flatten_cons, ih]; rfl
theorem firstG_le (cs : List Nat) : (firstG cs).length ≤ cs.length := by
  rw [firstG_eq, List.length_map]
  exact usedS_len cs
theorem lengths_of_ok (C : Cs) (cs : List Nat) (hm : cs.length ≤ 64) : F_lengths_of C [.d (.lst (natsI cs))] [] = .ok (.d (.lst (natsI (lensP cs)))) [] := by
  obtain ⟨bs, c1, hany⟩ : ∃ bs : List Bool, fb_lengths_of_c1 C (E_lengths_of (x_counts := some (.d (.lst (natsI cs))))) = .ok (.d (.lst (bs.map .bl))) (E_lengths_of (x_counts := some (.d (.lst (natsI cs))))) ∧ bs.any id = false :=
    ⟨_, by rw [natsI_map]; exact lo_c1 C _ (by rw [List.length_map]; omega), any_neg_false cs⟩
  have c2 := lo_c2 C cs (by omega)
  have hgl := firstG_le cs
  have hfo := first_ok cs hm
  have s1 := okSort_gps (firstG cs) (by omega)
  have s2 := sortD_gps (firstG cs) hfo.uniq
  have hsl : (sortG (firstG cs)).length = (firstG cs).length := sortG_len _
  have hz : cs.length ≤ 16777216 := by omega
  have hz3 : (cs.length : Int) < 9223372036854775808 := by omega
  have hrep := rep_flat cs.length
  by_cases h1 : (firstG cs).length = 1
  · obtain ⟨g, hg⟩ : ∃ g, firstG cs = [g] := List.length_eq_one_iff.mp h1
    have hsx : g.s < cs.length := by
      have := (hfo.ok g (by rw [hg]; simp)).lt g.s (hfo.ok g (by rw [hg]; simp)).mem
      rwa [List.length_replicate] at this
    have hlp : lensP cs = (List.replicate cs.length 0).set g.s 1 := by
      unfold lensP
      rw [hg]
    have w := lo_w0 C (.lst (natsI cs)) [g] ((List.replicate cs.length 0).set g.s 1) (by simp)
    rw [hlp]
    rw [hg] at c2 s1 s2
    rw [sort_one] at s2
    have e1 : natsI ((List.replicate cs.length 0).set g.s 1) = (natsI (List.replicate cs.length 0)).set g.s (.int 1) := by unfold natsI; rw [List.map_set]; rfl
    simp only [Elw, e1] at w
    rw [e1]
    have hln : (natsI (List.replicate cs.length 0)).length = cs.length := by rw [natsI_len, List.length_replicate]
    have hix : ixN cs.length ((g.s : Nat) : Int) = some g.s := ixN_h hsx
    simp only [List.map_cons, List.map_nil, gp_d] at c2 s1 s2 w
    have hcl : (natsI cs).length = cs.length := natsI_len cs
    generalize natsI (List.replicate cs.length 0) = Z at *
    generalize natsI cs = NC at *
    generalize natsI g.ss = sa at *
    simp -implicitDefEqProofs [E_lengths_of] at c1 c2 w
    simp -implicitDefEqProofs [F_lengths_of, fb_lengths_of, env0, c1, hany, c2, s1, s2, hcl, sizeL, hz, hz3, hrep, hln, hix, w]
  · have hlp : lensP cs = runG cs.length (firstG cs) (List.replicate cs.length 0) := by
      unfold lensP
      dsimp only
      split
      · rename_i x hx
        rw [hx] at h1
        simp at h1
      · rfl
    obtain ⟨g, w⟩ := lo_w1 C cs hm (firstG cs) (List.replicate cs.length 0) cs.length hfo (by omega) (by rw [List.length_replicate]) (by omega)
    rw [hlp]
    simp only [Elw] at w
    have hcl : (natsI cs).length = cs.length := natsI_len cs
    have hsd : ((sortG (firstG cs)).map Gp.d).length = (firstG cs).length := by rw [List.length_map, hsl]
    have h1b : (((firstG cs).length : Int) == 1) = false := beq_false_of_ne (by omega)
    generalize natsI (List.replicate cs.length 0) = Z at *
    generalize natsI (runG cs.length (firstG cs) (List.replicate cs.length 0)) = RR at *
    generalize natsI cs = NC at *
    generalize (sortG (firstG cs)).map Gp.d = SG at *
    generalize (firstG cs).map Gp.d = FG at *
    generalize g.map Gp.d = GG at *
    simp -implicitDefEqProofs [E_lengths_of] at c1 c2 w
    simp -implicitDefEqProofs [F_lengths_of, fb_lengths_of, env0, c1, hany, c2, s1, s2, hcl, sizeL, hz, hz3, hrep, hsd, h1, h1b, w]
/-- a negative count -/
theorem lengths_of_bad (C : Cs) (l : List Int) (hl : l.length ≤ 100) (hb : ∃ x ∈ l, x < 0) : F_lengths_of C [.d (.lst (l.map .int))] [] = .exn ⟨C.InvalidCounts, none⟩ [] := by
  obtain ⟨bs, c1, hany⟩ : ∃ bs : List Bool, fb_lengths_of_c1 C (E_lengths_of (x_counts := some (.d (.lst (l.map .int))))) = .ok (.d (.lst (bs.map .bl))) (E_lengths_of (x_counts := some (.d (.lst (l.map .int))))) ∧ bs.any id = true :=
    ⟨_, lo_c1 C l (by omega), by
      obtain ⟨x, hx, h0⟩ := hb
      rw [List.any_map, List.any_eq_true]
      exact ⟨x, hx, by simpa using h0⟩⟩
  generalize l.map D.int = A at *
  simp -implicitDefEqProofs [E_lengths_of] at c1
  simp -implicitDefEqProofs [F_lengths_of, fb_lengths_of, env0, c1, hany]
end Tp
end
section
set_option Elab.async false
set_option linter.all false
set_option maxRecDepth 100000
set_option maxHeartbeats 8000000
namespace Tp
open PySem L2 Dl
/-! the law's own lengths -/
def hL (cs : List Nat) : D → Option D
  | .int i => if 0 < cs.getD i.toNat 0 then some (.tup [.int (cs.getD i.toNat 0 : Nat), .int i, .lst [.int i]]) else none
  | _ => none
theorem hL_ev (cs : List Nat) (i : Nat) : hL cs (.int (i : Nat)) = if 0 < cs.getD i 0 then some (.tup [.int (cs.getD i 0 : Nat), .int (i : Nat), .lst [.int (i : Nat)]]) else none := rfl
theorem hL_all (cs : List Nat) : (rangeL 0 cs.length).filterMap (hL cs) = (firstG cs).map Gp.d := by
  rw [rangeL_ints, List.map_map, firstG_eq, List.filterMap_map, List.map_map]
  unfold usedS
  rw [← fm_if]
  congr 1
  funext i
  show hL cs (.int (i : Nat)) = _
  rw [hL_ev]
  by_cases h : 0 < cs.getD i 0
  · rw [if_pos h, if_pos (by simpa using h)]
    rfl
  · rw [if_neg h, if_neg (by simpa using h)]
theorem ll_c1 (C : Cs) (cs : List Nat) (hl : cs.length ≤ 1000) : fb_law_lengths_c1 C (E_law_lengths (x_counts := some (.d (.lst (natsI cs))))) = .ok (.d (.lst ((firstG cs).map Gp.d))) (E_law_lengths (x_counts := some (.d (.lst (natsI cs))))) := by
  unfold fb_law_lengths_c1
  have hz : (cs.length : Int) < 4611686018427387904 := by omega
  have hz2 : (-4611686018427387904 : Int) ≤ (cs.length : Int) := by omega
  have hnl := natsI_len cs
  rw [comp_e (n := 1000) (items := rangeL 0 cs.length) (chk := fun _ => True) (hL cs) (e1 := E_law_lengths (x_counts := some (.d (.lst (natsI cs))))) (by simp -implicitDefEqProofs [E_law_lengths, hnl, hz, hz2]) (by simp [Env.open]) (by rw [rangeL_len]; exact hl) (by rw [sizeL]; omega) rfl (fun i d acc hd ha => ⟨trivial, by
    have hs : acc.length < 16777216 := by omega
    obtain ⟨hi, rfl⟩ := rangeL_at hd
    have hat : atI (natsI cs) (i : Int) = some (.int (cs.getD i 0 : Nat)) := by rw [Dl.atI_nat, natsI_getD hi]
    rw [hL_ev]
    by_cases h : 0 < cs.getD i 0
    · rw [if_pos h]
      have h' : (0 : Int) < (cs.getD i 0 : Nat) := by omega
      generalize ((cs.getD i 0 : Nat) : Int) = x at *
      simp -implicitDefEqProofs [E_law_lengths, sizeL, hs, hat, h']
    · rw [if_neg h]
      have h' : ¬ (0 : Int) < (cs.getD i 0 : Nat) := by omega
      generalize ((cs.getD i 0 : Nat) : Int) = x at *
      simp -implicitDefEqProofs [E_law_lengths, sizeL, hs, hat, h']⟩) (fun _ => trivial), hL_all]
  simp -implicitDefEqProofs [endL, E_law_lengths]
theorem ll_l2 (C : Cs) (cs gr tu x0 x1 y0 y1 : D) (sa sb L : List Nat) (h : ∀ s ∈ sa ++ sb, s < L.length) (hL : L.length ≤ 1000) (hz : (sa ++ sb).length ≤ 1000) :
    fb_law_lengths_l2 C (E_law_lengths (x_counts := some (.d cs)) (x_groups := some (.d gr)) (x_lengths_here := some (.loc 0)) (x_turn := some (.d tu)) (x_first := some (.d (.tup [x0, x1, .lst (natsI sa)]))) (x_second := some (.d (.tup [y0, y1, .lst (natsI sb)]))) (c0 := some (.lst (natsI L)))) =
    .nx (E_law_lengths (x_counts := some (.d cs)) (x_groups := some (.d gr)) (x_lengths_here := some (.loc 0)) (x_turn := some (.d tu)) (x_first := some (.d (.tup [x0, x1, .lst (natsI sa)]))) (x_second := some (.d (.tup [y0, y1, .lst (natsI sb)]))) (c0 := some (.lst (natsI (bump (sa ++ sb) L))))) := by
  unfold fb_law_lengths_l2
  have k1 : (natsI sa).length + (natsI sb).length ≤ 16777216 := by rw [natsI_len, natsI_len, ← List.length_append]; omega
  refine for_e (items := natsI (sa ++ sb)) (chk := fun _ => True) (fun i => E_law_lengths (x_counts := some (.d cs)) (x_groups := some (.d gr)) (x_lengths_here := some (.loc 0)) (x_turn := some (.d tu)) (x_first := some (.d (.tup [x0, x1, .lst (natsI sa)]))) (x_second := some (.d (.tup [y0, y1, .lst (natsI sb)]))) (c0 := some (.lst (natsI (bump ((sa ++ sb).take i) L))))) (by rw [natsI_app]; simp -implicitDefEqProofs [E_law_lengths, sizeL, k1]; rfl) (fun i d hd => ⟨trivial, ?_⟩) trivial (by rw [natsI_len, List.take_length])
  clear k1
  generalize natsI sa = A at *
  generalize natsI sb = B' at *
  generalize sa ++ sb = ss at *
  unfold natsI at hd
  obtain ⟨hi, rfl⟩ := map_at hd
  have hm := h _ (List.getElem_mem hi)
  have e1 : bump (ss.take (i + 1)) L = (bump (ss.take i) L).set ss[i] ((bump (ss.take i) L).getD ss[i] 0 + 1) := by
    unfold bump
    rw [List.take_add_one, List.getElem?_eq_getElem hi, List.foldl_append]
    rfl
  have hl := bump_len (ss.take i) L
  rw [e1]
  generalize bump (ss.take i) L = B at *
  generalize ss[i] = s at *
  have hs : atI (natsI B) (s : Int) = some (.int (B.getD s 0 : Nat)) := by rw [Dl.atI_nat, natsI_getD (by omega)]
  have hx : natsI (B.set s (B.getD s 0 + 1)) = (natsI B).set s (.int ((B.getD s 0 : Nat) + 1 : Int)) := by unfold natsI; rw [List.map_set]; rfl
  have hix : ixN (natsI B).length ((s : Nat) : Int) = some s := by
    rw [natsI_len]
    exact ixN_h (by omega)
  rw [hx]
  generalize natsI B = NB at *
  generalize ((B.getD s 0 : Nat) : Int) = y at *
  simp -implicitDefEqProofs [E_law_lengths, fb_law_lengths_l2b, hs, hix]
@[simp] abbrev Ell (cs : D) (g : List Gp) (t : Option W) (L : List Nat) : Dl.Env := E_law_lengths (x_counts := some (.d cs)) (x_groups := some (.d (.lst (g.map Gp.d)))) (x_turn := t) (x_lengths_here := some (.loc 0)) (c0 := some (.lst (natsI L)))
/-- one turn with two groups or more -/
theorem ll_turn (C : Cs) (cs : List Nat) (i : Nat) {gs r : List Gp} {a b : Gp} {L : List Nat} (hq : sortG gs = a :: b :: r) (h : GsOk cs L gs) (hL : L.length ≤ 64) (hg : gs.length ≤ 64) :
    turn (tgName 4) (fb_law_lengths_l1b C) [4, 5, 6, 7] (.int (i : Nat)) (Ell (.lst (natsI cs)) gs none L) = .nx (Ell (.lst (natsI cs)) (r ++ [mergeG a b]) none (bump (a.ss ++ b.ss) L)) := by
  have hlen := sortG_len gs
  have hs := h.perm (sortG_perm gs).symm
  have s1 := okSort_gps gs (by omega)
  have s2 := sortD_gps gs h.uniq
  rw [hq] at hs hlen s2
  rw [List.length_cons, List.length_cons] at hlen
  have hf : ∀ s ∈ a.ss ++ b.ss, s < L.length := fun s hs' => (List.mem_append.mp hs').elim ((hs.ok a (List.mem_cons_self ..)).lt s) ((hs.ok b (List.mem_cons_of_mem _ (List.mem_cons_self ..))).lt s)
  have hla := (hs.few)
  rw [allS_cons, allS_cons, List.length_append, List.length_append] at hla
  have k1 : (natsI a.ss).length + (natsI b.ss).length ≤ 16777216 := by rw [natsI_len, natsI_len]; omega
  have l1 := ll_l2 C (.lst (natsI cs)) (.lst ((a :: b :: r).map Gp.d)) (.int (i : Nat)) (.int (a.w : Nat)) (.int (a.s : Nat)) (.int (b.w : Nat)) (.int (b.s : Nat)) a.ss b.ss L hf (by omega) (by rw [List.length_append]; omega)
  have hgl : (gs.map Gp.d).length = gs.length := List.length_map _
  have k3 : ¬ (gs.length : Int) < 2 := by omega
  have hrd : (r.map Gp.d).length = r.length := List.length_map _
  have k2 : r.length + 1 ≤ 16777216 := by omega
  have k4 : (0 : Int) < (r.length : Int) + 1 := by omega
  simp only [Ell]
  rw [List.map_append, List.map_cons, List.map_nil, merge_d]
  rw [List.map_cons, List.map_cons, gp_d, gp_d] at s2 l1
  generalize natsI (bump (a.ss ++ b.ss) L) = BL at *
  generalize natsI a.ss = sa at *
  generalize natsI b.ss = sb at *
  generalize r.map Gp.d = rd at *
  generalize gs.map Gp.d = gd at *
  generalize natsI L = NL at *
  generalize natsI cs = NC at *
  generalize (a.w : Int) = aw at *
  generalize (b.w : Int) = bw at *
  generalize (a.s : Int) = as at *
  generalize (b.s : Int) = bs at *
  generalize hmm : (if bs < as then bs else as) = m at *
  simp -implicitDefEqProofs [E_law_lengths] at l1
  simp -implicitDefEqProofs [E_law_lengths, fb_law_lengths_l1b, hgl, k3, s1, s2, cut2b, l1, sizeL, k1, hrd, k2, k4, hmm]
/-- a turn with less than two groups -/
theorem ll_stop (C : Cs) (cs : D) (i : Nat) {gs : List Gp} {L : List Nat} (h : gs.length < 2) :
    turn (tgName 4) (fb_law_lengths_l1b C) [4, 5, 6, 7] (.int (i : Nat)) (Ell cs gs none L) = .bk (Ell cs gs (some (.d (.int (i : Nat)))) L) := by
  have hgl : (gs.map Gp.d).length = gs.length := List.length_map _
  have k3 : (gs.length : Int) < 2 := by omega
  simp only [Ell]
  generalize natsI L = NL at *
  generalize gs.map Gp.d = gd at *
  simp -implicitDefEqProofs [E_law_lengths, fb_law_lengths_l1b, hgl, k3]
theorem run_few : ∀ (n : Nat) {gs : List Gp} (L : List Nat), gs.length < 2 → runG n gs L = L
  | 0, _, _, _ => rfl
  | n + 1, gs, L, h => by
    have := sortG_len gs
    rw [runG]
    split
    · rename_i a b r hq
      rw [hq] at this
      simp at this
      omega
    · rfl
theorem ll_l1 (C : Cs) (cs : List Nat) (hm : cs.length ≤ 64) (gs : List Gp) (L : List Nat) (h : GsOk cs L gs ∨ gs.length < 2) (hL : L.length = cs.length) (hg : gs.length ≤ cs.length) :
    ∃ g t, fb_law_lengths_l1 C (Ell (.lst (natsI cs)) gs none L) = .nx (Ell (.lst (natsI cs)) g t (runG cs.length gs L)) := by
  unfold fb_law_lengths_l1
  have hz : (cs.length : Int) < 4611686018427387904 := by omega
  have hz2 : (-4611686018427387904 : Int) ≤ (cs.length : Int) := by omega
  have hnl := natsI_len cs
  obtain ⟨e', h1, h2⟩ := for_ib (S := SH) (items := rangeL 0 cs.length) (chk := fun _ => True) (it := iRg1 (eCB kLen [(eVar 0)])) (g := tgName 4) (fg := [4, 5, 6, 7]) (body := fb_law_lengths_l1b C) (e0 := Ell (.lst (natsI cs)) gs none L)
    (fun z => Ell (.lst (natsI cs)) z.gs none z.L) (fun i z => (GsOk cs z.L z.gs ∨ z.gs.length < 2) ∧ z.L.length = cs.length ∧ z.gs.length ≤ 64 ∧ z.n + i = cs.length ∧ runG z.n z.gs z.L = runG cs.length gs L ∧ (i = cs.length → z.gs.length < 2 ∨ z.n = 0))
    (fun e' => ∃ g t, e' = Ell (.lst (natsI cs)) g t (runG cs.length gs L)) ⟨cs.length, gs, L⟩ (by
      generalize natsI L = NL
      generalize gs.map Gp.d = gd
      simp -implicitDefEqProofs [E_law_lengths, hnl, hz, hz2]) ⟨h, hL, by dsimp only; omega, rfl, rfl, fun e => by dsimp only; right; omega⟩ (fun i d z hd hi => ⟨trivial, by
      obtain ⟨i1, i2, i3, i4, i5, i6⟩ := hi
      obtain ⟨hi, rfl⟩ := rangeL_at hd
      by_cases hlt : z.gs.length < 2
      · right
        refine ⟨_, ll_stop C _ i hlt, z.gs, some (.d (.int (i : Nat))), ?_⟩
        rw [← i5, run_few _ _ hlt]
      · left
        have hgo := i1.resolve_right hlt
        have hlen := sortG_len z.gs
        match hq : sortG z.gs, hlen with
        | [], hlen => rw [List.length_nil] at hlen; omega
        | [a], hlen => rw [List.length_singleton] at hlen; omega
        | a :: b :: r, hlen =>
          rw [List.length_cons, List.length_cons] at hlen
          have hst := (hgo.perm (sortG_perm z.gs).symm)
          rw [hq] at hst
          obtain ⟨k, hk⟩ : ∃ k, z.n = k + 1 := ⟨z.n - 1, by omega⟩
          refine ⟨⟨k, r ++ [mergeG a b], bump (a.ss ++ b.ss) z.L⟩, ll_turn C cs i hq hgo (by omega) i3, .inl hst.step, ?_, ?_, ?_, ?_, ?_⟩
          · dsimp only; rw [bump_len]; exact i2
          · dsimp only; simp; omega
          · dsimp only; omega
          · dsimp only; rw [← i5, hk, runG, hq]
          · intro e; right; dsimp only; omega⟩) (fun _ _ => trivial)
  rw [rangeL_len] at h2
  rcases h2 with ⟨g, t, rfl⟩ | ⟨z, rfl, i1, i2, i3, i4, i5, i6⟩
  · exact ⟨g, t, h1⟩
  · have : z.n = 0 := by omega
    rw [this, runG] at i5
    exact ⟨z.gs, none, by rw [h1, i5]⟩
theorem law_lengths_ok (C : Cs) (cs : List Nat) (hm : cs.length ≤ 64) : F_law_lengths C [.d (.lst (natsI cs))] [] = .ok (.d (.lst (natsI (lensP cs)))) [] := by
  have c1 := ll_c1 C cs (by omega)
  have hgl := firstG_le cs
  have hfo := first_ok cs hm
  have hz : cs.length ≤ 16777216 := by omega
  have hz3 : (cs.length : Int) < 9223372036854775808 := by omega
  have hrep := rep_flat cs.length
  by_cases h1 : (firstG cs).length = 1
  · obtain ⟨g, hg⟩ : ∃ g, firstG cs = [g] := List.length_eq_one_iff.mp h1
    have hsx : g.s < cs.length := by
      have := (hfo.ok g (by rw [hg]; simp)).lt g.s (hfo.ok g (by rw [hg]; simp)).mem
      rwa [List.length_replicate] at this
    have hlp : lensP cs = (List.replicate cs.length 0).set g.s 1 := by
      unfold lensP
      rw [hg]
    obtain ⟨g', t, w⟩ := ll_l1 C cs hm [g] ((List.replicate cs.length 0).set g.s 1) (.inr (by simp)) (by simp) (by rw [← hg]; exact hgl)
    rw [run_few _ _ (by simp)] at w
    rw [hlp]
    rw [hg] at c1
    have e1 : natsI ((List.replicate cs.length 0).set g.s 1) = (natsI (List.replicate cs.length 0)).set g.s (.int 1) := by unfold natsI; rw [List.map_set]; rfl
    rw [e1]
    simp only [Ell, e1] at w
    have hln : (natsI (List.replicate cs.length 0)).length = cs.length := by rw [natsI_len, List.length_replicate]
    have hix : ixN cs.length ((g.s : Nat) : Int) = some g.s := ixN_h hsx
    simp only [List.map_cons, List.map_nil, gp_d] at c1 w
    have hcl : (natsI cs).length = cs.length := natsI_len cs
    generalize natsI (List.replicate cs.length 0) = Z at *
    generalize natsI cs = NC at *
    generalize natsI g.ss = sa at *
    generalize g'.map Gp.d = GG at *
    simp -implicitDefEqProofs [E_law_lengths] at c1 w
    cases t <;> simp -implicitDefEqProofs [F_law_lengths, fb_law_lengths, env0, c1, hcl, sizeL, hz, hz3, hrep, hln, hix, w]
  · have hlp : lensP cs = runG cs.length (firstG cs) (List.replicate cs.length 0) := by
      unfold lensP
      dsimp only
      split
      · rename_i x hx
        rw [hx] at h1
        simp at h1
      · rfl
    obtain ⟨g, t, w⟩ := ll_l1 C cs hm (firstG cs) (List.replicate cs.length 0) (.inl hfo) (by rw [List.length_replicate]) hgl
    rw [hlp]
    have hcl : (natsI cs).length = cs.length := natsI_len cs
    have hsd : ((firstG cs).map Gp.d).length = (firstG cs).length := by rw [List.length_map]
    have h1b : (((firstG cs).length : Int) == 1) = false := beq_false_of_ne (by omega)
    simp only [Ell] at w
    generalize natsI (List.replicate cs.length 0) = Z at *
    generalize natsI (runG cs.length (firstG cs) (List.replicate cs.length 0)) = RR at *
    generalize natsI cs = NC at *
    generalize (firstG cs).map Gp.d = FG at *
    generalize g.map Gp.d = GG at *
    simp -implicitDefEqProofs [E_law_lengths] at c1 w
    cases t <;> simp -implicitDefEqProofs [F_law_lengths, fb_law_lengths, env0, c1, hcl, sizeL, hz, hz3, hrep, hsd, h1, h1b, w]
end Tp
end
section
set_option Elab.async false
set_option linter.all false
set_option maxRecDepth 100000
set_option maxHeartbeats 8000000
namespace Tp
open PySem L2 Dl
/-! the rows of the code -/
def prsOf (ls : List Nat) : List (Nat × Nat) := ls.zipIdx.filter fun p => decide (0 < p.1)
def codeR : List (Nat × Nat) → Nat → Nat → List (List Nat) → List (List Nat)
  | [], _, _, R => R
  | (l, s) :: r, n, z, R => codeR r (n * 2 ^ (l - z) + 1) l (R.set s (digitsN (n * 2 ^ (l - z)) l))
/-- the rows of bits of the symbols -/
def codeP (ls : List Nat) : List (List Nat) := codeR (sortP (prsOf ls)) 0 0 (ls.map fun _ => [])
def sumH (ls : List Nat) : Nat := ((ls.filter fun x => decide (0 < x)).map fun x => 2 ^ (64 - x)).sum
theorem zip_range (cs : List Nat) : cs.zipIdx = (List.range cs.length).map fun i => (cs.getD i 0, i) := by
  apply List.ext_getElem?
  intro i
  rw [List.getElem?_map, List.getElem?_zipIdx]
  by_cases h : i < cs.length
  · rw [List.getElem?_range h, List.getElem?_eq_getElem h, Option.map_some, Option.map_some, List.getD_eq_getElem?_getD, List.getElem?_eq_getElem h]
    simp
  · rw [List.getElem?_eq_none (by omega), List.getElem?_eq_none (by simp; omega)]
    rfl
theorem prs_fst (ls : List Nat) : (prsOf ls).map (·.1) = ls.filter fun x => decide (0 < x) := by
  have e : ls = ls.zipIdx.map (·.1) := (List.zipIdx_map_fst 0 ls).symm
  conv => rhs; rw [e]
  rw [List.filter_map]
  rfl
theorem prs_snd {ls : List Nat} {p : Nat × Nat} (h : p ∈ prsOf ls) : p.2 < ls.length ∧ 0 < p.1 := by
  unfold prsOf at h
  rw [List.mem_filter, decide_eq_true_iff, zip_range] at h
  obtain ⟨h1, h2⟩ := h
  obtain ⟨i, hi, rfl⟩ := List.mem_map.mp h1
  exact ⟨List.mem_range.mp hi, h2⟩
theorem prs_len (ls : List Nat) : (prsOf ls).length ≤ ls.length := by
  have := List.length_filter_le (fun p : Nat × Nat => decide (0 < p.1)) ls.zipIdx
  rw [List.length_zipIdx] at this
  exact this
theorem leP_total (a b : Nat × Nat) : (leP a b || leP b a) = true := by
  unfold leP
  simp
  omega
theorem leP_trans (a b c : Nat × Nat) (h1 : leP a b = true) (h2 : leP b c = true) : leP a c = true := by
  unfold leP at *
  simp at *
  omega
theorem sortP_perm (ps : List (Nat × Nat)) : (sortP ps).Perm ps := List.mergeSort_perm _ _
theorem sortP_asc (ps : List (Nat × Nat)) : ((sortP ps).map (·.1)).Pairwise (· ≤ ·) := by
  rw [List.pairwise_map]
  refine (List.pairwise_mergeSort (le := leP) leP_trans leP_total ps).imp fun {a b} h => ?_
  unfold leP at h
  simp at h
  omega
theorem asc0 {l : List Nat} (h : l.Pairwise (· ≤ ·)) : (0 :: l).Pairwise (· ≤ ·) := List.pairwise_cons.mpr ⟨fun _ _ => Nat.zero_le _, h⟩
theorem sumH_sorted (ls : List Nat) : (((sortP (prsOf ls)).map (·.1)).map fun x => 2 ^ (64 - x)).sum = sumH ls := by
  unfold sumH
  rw [← prs_fst]
  exact (((sortP_perm (prsOf ls)).map _).map _).sum_nat
structure SC where
  n : Nat
  z : Nat
  R : List (List Nat)
/-- what holds ahead of the pairs that are left -/
structure CI (N : Nat) (fin : List (List Nat)) (ps : List (Nat × Nat)) (t : SC) : Prop where
  asc : (t.z :: ps.map (·.1)).Pairwise (· ≤ ·)
  fit : t.n * 2 ^ (64 - t.z) + ((ps.map (·.1)).map fun x => 2 ^ (64 - x)).sum ≤ 2 ^ 64
  bd : ∀ p ∈ ps, p.1 ≤ 30 ∧ p.2 < N
  zb : t.z ≤ 30
  len : t.R.length = N
  out : codeR ps t.n t.z t.R = fin
theorem CI.num {N : Nat} {fin : List (List Nat)} {l s : Nat} {ps : List (Nat × Nat)} {t : SC} (h : CI N fin ((l, s) :: ps) t) : t.z ≤ l ∧ t.n * 2 ^ (l - t.z) < 2 ^ l ∧ l ≤ 30 ∧ s < N ∧ t.n < 2 ^ 64 := by
  have h1 := h.asc
  rw [List.map_cons, List.pairwise_cons] at h1
  have hz : t.z ≤ l := h1.1 l (by simp)
  obtain ⟨b1, b2⟩ := h.bd (l, s) (List.mem_cons_self ..)
  have b1 : l ≤ 30 := b1
  have hf := h.fit
  rw [List.map_cons, List.map_cons, List.sum_cons] at hf
  have e : t.n * 2 ^ (64 - t.z) = t.n * 2 ^ (l - t.z) * 2 ^ (64 - l) := by
    rw [Nat.mul_assoc, ← Nat.pow_add, show l - t.z + (64 - l) = 64 - t.z by omega]
  have hf2 : t.n * 2 ^ (64 - t.z) + 2 ^ (64 - l) ≤ 2 ^ 64 := by
    have : t.n * 2 ^ (64 - t.z) + (2 ^ (64 - l) + ((ps.map (·.1)).map fun x => 2 ^ (64 - x)).sum) ≤ 2 ^ 64 := hf
    omega
  have h3 : t.n * 2 ^ (l - t.z) < 2 ^ l := by
    rw [e] at hf2
    have h1 : (t.n * 2 ^ (l - t.z) + 1) * 2 ^ (64 - l) ≤ 2 ^ l * 2 ^ (64 - l) := by
      rw [← Nat.pow_add, show l + (64 - l) = 64 by omega, Nat.add_mul, Nat.one_mul]
      omega
    have := Nat.le_of_mul_le_mul_right h1 (Nat.pow_pos (by omega))
    omega
  refine ⟨hz, h3, b1, b2, ?_⟩
  have h4 : t.n * 1 ≤ t.n * 2 ^ (l - t.z) := Nat.mul_le_mul_left _ (Nat.pow_pos (by omega))
  have h5 : (2 : Nat) ^ l < 2 ^ 64 := Nat.pow_lt_pow_right (by omega) (by omega)
  omega
theorem CI.step {N : Nat} {fin : List (List Nat)} {l s : Nat} {ps : List (Nat × Nat)} {t : SC} (h : CI N fin ((l, s) :: ps) t) :
    CI N fin ps ⟨t.n * 2 ^ (l - t.z) + 1, l, t.R.set s (digitsN (t.n * 2 ^ (l - t.z)) l)⟩ := by
  obtain ⟨hz, _, hl, _, _⟩ := h.num
  have h1 := h.asc
  rw [List.map_cons, List.pairwise_cons] at h1
  refine ⟨h1.2, ?_, fun p hp => h.bd p (List.mem_cons_of_mem _ hp), hl, by rw [List.length_set]; exact h.len, h.out⟩
  have hf := h.fit
  rw [List.map_cons, List.map_cons, List.sum_cons] at hf
  have e : t.n * 2 ^ (64 - t.z) = t.n * 2 ^ (l - t.z) * 2 ^ (64 - l) := by
    rw [Nat.mul_assoc, ← Nat.pow_add, show l - t.z + (64 - l) = 64 - t.z by omega]
  show (t.n * 2 ^ (l - t.z) + 1) * 2 ^ (64 - l) + _ ≤ _
  rw [Nat.add_mul, Nat.one_mul, ← e]
  have : t.n * 2 ^ (64 - t.z) + (2 ^ (64 - l) + ((ps.map (·.1)).map fun x => 2 ^ (64 - x)).sum) ≤ 2 ^ 64 := hf
  omega
theorem CI.start (ls : List Nat) (hs : sumH ls ≤ 2 ^ 64) (hb : ∀ x ∈ ls, x ≤ 30) : CI ls.length (codeP ls) (sortP (prsOf ls)) ⟨0, 0, ls.map fun _ => []⟩ := by
  refine ⟨asc0 (sortP_asc _), ?_, fun p hp => ?_, Nat.zero_le _, List.length_map _, rfl⟩
  · rw [sumH_sorted]
    dsimp only
    omega
  · have hp := (sortP_perm _).mem_iff.mp hp
    refine ⟨hb _ ?_, (prs_snd hp).1⟩
    have : p.1 ∈ (prsOf ls).map (·.1) := List.mem_map_of_mem hp
    rw [prs_fst] at this
    exact (List.mem_filter.mp this).1
def rowsD (R : List (List Nat)) : List D := R.map fun r => .lst (natsI r)
theorem rowsD_len (R : List (List Nat)) : (rowsD R).length = R.length := List.length_map _
theorem rowsD_set (R : List (List Nat)) (s : Nat) (r : List Nat) : rowsD (R.set s r) = (rowsD R).set s (.lst (natsI r)) := by unfold rowsD; rw [List.map_set]
def hC : D → Option D
  | .tup [.int i, .int x] => if 0 < x then some (.tup [.int x, .int i]) else none
  | _ => none
theorem hC_ev (i x : Int) : hC (.tup [.int i, .int x]) = if 0 < x then some (.tup [.int x, .int i]) else none := rfl
theorem hC_all (ls : List Nat) : (enumL (natsI ls)).filterMap hC = (prsOf ls).map pD := by
  rw [enum_nats]
  unfold prsOf
  rw [zip_range, List.filterMap_map, List.filter_map, List.map_map, ← fm_if]
  congr 1
  funext i
  show hC (.tup [.int (i : Nat), .int (ls.getD i 0 : Nat)]) = _
  rw [hC_ev]
  by_cases h : 0 < ls.getD i 0
  · rw [if_pos (by omega), if_pos (by simpa using h)]
    rfl
  · rw [if_neg (by omega), if_neg (by simpa using h)]
theorem co_c1 (C : Cs) (ls : List Nat) (hl : ls.length ≤ 1000) : fb_code_of_c1 C (E_code_of (x_lengths := some (.d (.lst (natsI ls))))) = .ok (.loc 0) (E_code_of (x_lengths := some (.d (.lst (natsI ls)))) (x_rows := none) (c0 := some (.lst (rowsD (ls.map fun _ => []))))) := by
  unfold fb_code_of_c1
  rw [comp_m (n := 1000) (items := natsI ls) (chk := fun _ => True) (rowsD (ls.map fun _ => [])) (e1 := E_code_of (x_lengths := some (.d (.lst (natsI ls))))) (by simp -implicitDefEqProofs [E_code_of]) (by simp [Env.open]) (by rw [natsI_len]; exact hl) (by rw [sizeL]; omega) rfl (by rw [rowsD_len, natsI_len, List.length_map]) (fun i d y acc hd hy ha => ⟨trivial, by
    unfold natsI at hd
    obtain ⟨hi, rfl⟩ := map_at hd
    unfold rowsD at hy
    rw [List.map_map, List.getElem?_map, List.getElem?_eq_getElem hi] at hy
    cases hy
    have hs : acc.length < 16777216 := by omega
    simp -implicitDefEqProofs [E_code_of, sizeL, hs]
    rfl⟩) (fun _ => trivial)]
  simp -implicitDefEqProofs [endL, E_code_of]
@[simp] abbrev Eco (ls : D) (t : SC) : Dl.Env := E_code_of (x_lengths := some (.d ls)) (x_rows := some (.loc 0)) (x_number := some (.d (.int (t.n : Nat)))) (x_size := some (.d (.int (t.z : Nat)))) (c0 := some (.lst (rowsD t.R)))
theorem co_c2 (C : Cs) (ls : List Nat) (t : SC) (hl : ls.length ≤ 1000) : fb_code_of_c2 C (Eco (.lst (natsI ls)) t) = .ok (.d (.lst ((prsOf ls).map pD))) (Eco (.lst (natsI ls)) t) := by
  unfold fb_code_of_c2
  have hel : (enumL (natsI ls)).length = ls.length := by unfold enumL; rw [List.length_mapIdx, natsI_len]
  simp only [Eco]
  generalize rowsD t.R = RR
  rw [comp_e (n := 1000) (items := enumL (natsI ls)) (chk := fun _ => True) hC (e1 := E_code_of (x_lengths := some (.d (.lst (natsI ls)))) (x_rows := some (.loc 0)) (x_number := some (.d (.int (t.n : Nat)))) (x_size := some (.d (.int (t.z : Nat)))) (c0 := some (.lst RR))) (by simp -implicitDefEqProofs [E_code_of]) (by simp [Env.open]) (by omega) (by rw [sizeL]; omega) rfl (fun i d acc hd ha => ⟨trivial, by
    have hs : acc.length < 16777216 := by omega
    rw [enum_nats] at hd
    obtain ⟨hi, rfl⟩ := map_at hd
    generalize (List.range ls.length)[i] = j
    by_cases h : 0 < ls.getD j 0
    · have h' : (0 : Int) < (ls.getD j 0 : Nat) := by omega
      have hg : hC (.tup [.int (j : Nat), .int (ls.getD j 0 : Nat)]) = some (.tup [.int (ls.getD j 0 : Nat), .int (j : Nat)]) := if_pos h'
      rw [hg]
      generalize ((ls.getD j 0 : Nat) : Int) = x at *
      simp -implicitDefEqProofs [E_code_of, sizeL, hs, h']
    · have h' : ¬ (0 : Int) < (ls.getD j 0 : Nat) := by omega
      have hg : hC (.tup [.int (j : Nat), .int (ls.getD j 0 : Nat)]) = none := if_neg h'
      rw [hg]
      generalize ((ls.getD j 0 : Nat) : Int) = x at *
      simp -implicitDefEqProofs [E_code_of, sizeL, hs, h']⟩) (fun _ => trivial), hC_all]
  simp -implicitDefEqProofs [endL, E_code_of]
theorem co_turn (C : Cs) (ls : D) {N : Nat} {fin : List (List Nat)} {l s : Nat} {ps : List (Nat × Nat)} {t : SC} (h : CI N fin ((l, s) :: ps) t) (hN : N ≤ 1000) :
    turn (tgTup [(tgName 5), (tgName 6)]) (fb_code_of_l1b C) [5, 6] (pD (l, s)) (Eco ls t) = .nx (Eco ls ⟨t.n * 2 ^ (l - t.z) + 1, l, t.R.set s (digitsN (t.n * 2 ^ (l - t.z)) l)⟩) := by
  obtain ⟨h1, h2, h3, h4, h5⟩ := h.num
  have hR := h.len
  have d1 := digits_of_ok C (t.n * 2 ^ (l - t.z)) l (by omega)
  have e1 : (t.n : Int) * 2 ^ (l - t.z) = ((t.n * 2 ^ (l - t.z) : Nat) : Int) := by
    rw [Int.natCast_mul, Int.natCast_pow]
    rfl
  have cp : CPow (t.n : Int) ((l : Int) - (t.z : Int)) := ⟨by omega, by omega, by rw [Int.natAbs_natCast]; exact h5⟩
  have hix : ixN t.R.length ((s : Nat) : Int) = some s := ixN_h (by omega)
  have hrl := rowsD_len t.R
  have e2 : ((t.n * 2 ^ (l - t.z) + 1 : Nat) : Int) = ((t.n * 2 ^ (l - t.z) : Nat) : Int) + 1 := by omega
  simp only [Eco]
  rw [rowsD_set, e2]
  unfold pD
  generalize digitsN (t.n * 2 ^ (l - t.z)) l = dg at *
  generalize natsI dg = DG at *
  generalize rowsD t.R = RR at *
  generalize ((t.n * 2 ^ (l - t.z) : Nat) : Int) = m at *
  generalize (t.n : Int) = tn at *
  simp -implicitDefEqProofs [E_code_of, fb_code_of_l1b, cp, e1, d1, hrl, hix]
theorem co_l1 (C : Cs) (ls : List Nat) (hl : ls.length ≤ 60) (hs : sumH ls ≤ 2 ^ 64) (hb : ∀ x ∈ ls, x ≤ 30) :
    ∃ t : SC, fb_code_of_l1 C (Eco (.lst (natsI ls)) ⟨0, 0, ls.map fun _ => []⟩) = .nx (Eco (.lst (natsI ls)) t) ∧ t.R = codeP ls := by
  unfold fb_code_of_l1
  have hpl := prs_len ls
  have s1 := okSort_pairs (prsOf ls) (by omega)
  have s2 := sortD_pairs (prsOf ls)
  have c2 := co_c2 C ls ⟨0, 0, ls.map fun _ => []⟩ (by omega)
  obtain ⟨t, h1, h2⟩ := for_i (S := SC) (items := (sortP (prsOf ls)).map pD) (chk := fun _ => True) (it := iL (eCB kSortD [(fb_code_of_c2 C)])) (g := tgTup [(tgName 5), (tgName 6)]) (fg := [5, 6]) (body := fb_code_of_l1b C) (e0 := Eco (.lst (natsI ls)) ⟨0, 0, ls.map fun _ => []⟩)
    (fun t => Eco (.lst (natsI ls)) t) (fun i t => CI ls.length (codeP ls) ((sortP (prsOf ls)).drop i) t) ⟨0, 0, ls.map fun _ => []⟩ (by
      rw [← s2]
      generalize (prsOf ls).map pD = A at *
      simp only [Eco] at c2 ⊢
      generalize rowsD (ls.map fun _ => []) = RR at *
      simp -implicitDefEqProofs [E_code_of] at c2
      simp -implicitDefEqProofs [E_code_of, c2, s1]) (CI.start ls hs hb) (fun i d t hd hi => ⟨trivial, by
      obtain ⟨hi', rfl⟩ := map_at hd
      rw [List.drop_eq_getElem_cons hi'] at hi
      generalize (sortP (prsOf ls))[i] = p at *
      obtain ⟨l, s⟩ := p
      exact ⟨_, co_turn C _ hi (by omega), hi.step⟩⟩) (fun _ _ => trivial)
  rw [List.length_map, List.drop_length] at h2
  exact ⟨t, h1, h2.out⟩
theorem code_of_ok (C : Cs) (ls : List Nat) (hl : ls.length ≤ 60) (hs : sumH ls ≤ 2 ^ 64) (hb : ∀ x ∈ ls, x ≤ 30) (hf : fullI (ls.map fun n : Nat => (n : Int)) = true) :
    F_code_of C [.d (.lst (natsI ls))] [] = .ok (.d (.lst (rowsD (codeP ls)))) [] := by
  have fo := is_full_ok C (ls.map fun n : Nat => (n : Int)) (by rw [List.length_map]; exact hl)
  rw [hf, ← natsI_map] at fo
  have c1 := co_c1 C ls (by omega)
  obtain ⟨t, l1, ht⟩ := co_l1 C ls hl hs hb
  simp only [Eco] at l1
  rw [ht] at l1
  generalize natsI ls = NL at *
  generalize rowsD (codeP ls) = RR at *
  generalize rowsD (ls.map fun _ => []) = R0 at *
  simp -implicitDefEqProofs [E_code_of] at c1 l1
  simp -implicitDefEqProofs [F_code_of, fb_code_of, env0, fo, c1, l1]
/-- lengths that are not full -/
theorem code_of_bad (C : Cs) (l : List Int) (hl : l.length ≤ 60) (hf : fullI l = false) : F_code_of C [.d (.lst (l.map .int))] [] = .exn ⟨C.InvalidLengths, none⟩ [] := by
  have fo := is_full_ok C l hl
  rw [hf] at fo
  generalize l.map D.int = A at *
  simp -implicitDefEqProofs [F_code_of, fb_code_of, env0, fo]
end Tp
end
section
set_option Elab.async false
set_option linter.all false
set_option maxRecDepth 100000
set_option maxHeartbeats 8000000
namespace Tp
open PySem L2 Dl
/-! the law's own code -/
def hC2 (ls : List Nat) : D → Option D
  | .int i => if 0 < ls.getD i.toNat 0 then some (.tup [.int (ls.getD i.toNat 0 : Nat), .int i]) else none
  | _ => none
theorem hC2_ev (ls : List Nat) (i : Nat) : hC2 ls (.int (i : Nat)) = if 0 < ls.getD i 0 then some (.tup [.int (ls.getD i 0 : Nat), .int (i : Nat)]) else none := rfl
theorem hC2_all (ls : List Nat) : (rangeL 0 ls.length).filterMap (hC2 ls) = (prsOf ls).map pD := by
  rw [rangeL_ints, List.map_map, List.filterMap_map]
  unfold prsOf
  rw [zip_range, List.filter_map, List.map_map, ← fm_if]
  congr 1
  funext i
  show hC2 ls (.int (i : Nat)) = _
  rw [hC2_ev]
  by_cases h : 0 < ls.getD i 0
  · rw [if_pos h, if_pos (by simpa using h)]
    rfl
  · rw [if_neg h, if_neg (by simpa using h)]
theorem lc_c1 (C : Cs) (ls : List Nat) (hl : ls.length ≤ 1000) : fb_law_code_c1 C (E_law_code (x_lengths_here := some (.d (.lst (natsI ls))))) = .ok (.loc 0) (E_law_code (x_lengths_here := some (.d (.lst (natsI ls)))) (x_rows := none) (c0 := some (.lst (rowsD (ls.map fun _ => []))))) := by
  unfold fb_law_code_c1
  rw [comp_m (n := 1000) (items := natsI ls) (chk := fun _ => True) (rowsD (ls.map fun _ => [])) (e1 := E_law_code (x_lengths_here := some (.d (.lst (natsI ls))))) (by simp -implicitDefEqProofs [E_law_code]) (by simp [Env.open]) (by rw [natsI_len]; exact hl) (by rw [sizeL]; omega) rfl (by rw [rowsD_len, natsI_len, List.length_map]) (fun i d y acc hd hy ha => ⟨trivial, by
    unfold natsI at hd
    obtain ⟨hi, rfl⟩ := map_at hd
    unfold rowsD at hy
    rw [List.map_map, List.getElem?_map, List.getElem?_eq_getElem hi] at hy
    cases hy
    have hs : acc.length < 16777216 := by omega
    simp -implicitDefEqProofs [E_law_code, sizeL, hs]
    rfl⟩) (fun _ => trivial)]
  simp -implicitDefEqProofs [endL, E_law_code]
@[simp] abbrev Elc (ls : D) (t : SC) : Dl.Env := E_law_code (x_lengths_here := some (.d ls)) (x_rows := some (.loc 0)) (x_number := some (.d (.int (t.n : Nat)))) (x_size := some (.d (.int (t.z : Nat)))) (c0 := some (.lst (rowsD t.R)))
theorem lc_c2 (C : Cs) (ls : List Nat) (t : SC) (hl : ls.length ≤ 1000) : fb_law_code_c2 C (Elc (.lst (natsI ls)) t) = .ok (.d (.lst ((prsOf ls).map pD))) (Elc (.lst (natsI ls)) t) := by
  unfold fb_law_code_c2
  have hz : (ls.length : Int) < 4611686018427387904 := by omega
  have hz2 : (-4611686018427387904 : Int) ≤ (ls.length : Int) := by omega
  have hnl := natsI_len ls
  simp only [Elc]
  generalize rowsD t.R = RR
  rw [comp_e (n := 1000) (items := rangeL 0 ls.length) (chk := fun _ => True) (hC2 ls) (e1 := E_law_code (x_lengths_here := some (.d (.lst (natsI ls)))) (x_rows := some (.loc 0)) (x_number := some (.d (.int (t.n : Nat)))) (x_size := some (.d (.int (t.z : Nat)))) (c0 := some (.lst RR))) (by simp -implicitDefEqProofs [E_law_code, hnl, hz, hz2]) (by simp [Env.open]) (by rw [rangeL_len]; exact hl) (by rw [sizeL]; omega) rfl (fun i d acc hd ha => ⟨trivial, by
    have hs : acc.length < 16777216 := by omega
    obtain ⟨hi, rfl⟩ := rangeL_at hd
    have hat : atI (natsI ls) (i : Int) = some (.int (ls.getD i 0 : Nat)) := by rw [Dl.atI_nat, natsI_getD hi]
    rw [hC2_ev]
    by_cases h : 0 < ls.getD i 0
    · rw [if_pos h]
      have h' : (0 : Int) < (ls.getD i 0 : Nat) := by omega
      generalize ((ls.getD i 0 : Nat) : Int) = x at *
      simp -implicitDefEqProofs [E_law_code, sizeL, hs, hat, h']
    · rw [if_neg h]
      have h' : ¬ (0 : Int) < (ls.getD i 0 : Nat) := by omega
      generalize ((ls.getD i 0 : Nat) : Int) = x at *
      simp -implicitDefEqProofs [E_law_code, sizeL, hs, hat, h']⟩) (fun _ => trivial), hC2_all]
  simp -implicitDefEqProofs [endL, E_law_code]
theorem lc_turn (C : Cs) (ls : D) {N : Nat} {fin : List (List Nat)} {l s : Nat} {ps : List (Nat × Nat)} {t : SC} (h : CI N fin ((l, s) :: ps) t) (hN : N ≤ 1000) :
    turn (tgTup [(tgName 2), (tgName 5)]) (fb_law_code_l1b C) [2, 5] (pD (l, s)) (Elc ls t) = .nx (Elc ls ⟨t.n * 2 ^ (l - t.z) + 1, l, t.R.set s (digitsN (t.n * 2 ^ (l - t.z)) l)⟩) := by
  obtain ⟨h1, h2, h3, h4, h5⟩ := h.num
  have hR := h.len
  have d1 := law_bits_ok C (t.n * 2 ^ (l - t.z)) l (by omega)
  have d2 := law_two_ok C (l - t.z) (by omega)
  rw [show ((l - t.z : Nat) : Int) = (l : Int) - (t.z : Int) by omega] at d2
  have e1 : (t.n : Int) * ((2 ^ (l - t.z) : Nat) : Int) = ((t.n * 2 ^ (l - t.z) : Nat) : Int) := by
    rw [Int.natCast_mul]
  have hpw : (2 : Nat) ^ (l - t.z) ≤ 2 ^ 30 := Nat.pow_le_pow_right (by omega) (by omega)
  have cp : CMul (t.n : Int) ((2 ^ (l - t.z) : Nat) : Int) := cmulR _ _ (by generalize (2 : Nat) ^ (l - t.z) = y at *; constructor <;> omega)
  have hix : ixN t.R.length ((s : Nat) : Int) = some s := ixN_h (by omega)
  have hrl := rowsD_len t.R
  have e2 : ((t.n * 2 ^ (l - t.z) + 1 : Nat) : Int) = ((t.n * 2 ^ (l - t.z) : Nat) : Int) + 1 := by omega
  simp only [Elc]
  rw [rowsD_set, e2]
  unfold pD
  generalize digitsN (t.n * 2 ^ (l - t.z)) l = dg at *
  generalize natsI dg = DG at *
  generalize rowsD t.R = RR at *
  generalize ((t.n * 2 ^ (l - t.z) : Nat) : Int) = m at *
  generalize ((2 ^ (l - t.z) : Nat) : Int) = q at *
  generalize (t.n : Int) = tn at *
  simp -implicitDefEqProofs [E_law_code, fb_law_code_l1b, cp, e1, d1, d2, hrl, hix]
theorem lc_l1 (C : Cs) (ls : List Nat) (hl : ls.length ≤ 60) (hs : sumH ls ≤ 2 ^ 64) (hb : ∀ x ∈ ls, x ≤ 30) :
    ∃ t : SC, fb_law_code_l1 C (Elc (.lst (natsI ls)) ⟨0, 0, ls.map fun _ => []⟩) = .nx (Elc (.lst (natsI ls)) t) ∧ t.R = codeP ls := by
  unfold fb_law_code_l1
  have hpl := prs_len ls
  have s1 := okSort_pairs (prsOf ls) (by omega)
  have s2 := sortD_pairs (prsOf ls)
  have c2 := lc_c2 C ls ⟨0, 0, ls.map fun _ => []⟩ (by omega)
  obtain ⟨t, h1, h2⟩ := for_i (S := SC) (items := (sortP (prsOf ls)).map pD) (chk := fun _ => True) (it := iL (eCB kSortD [(fb_law_code_c2 C)])) (g := tgTup [(tgName 2), (tgName 5)]) (fg := [2, 5]) (body := fb_law_code_l1b C) (e0 := Elc (.lst (natsI ls)) ⟨0, 0, ls.map fun _ => []⟩)
    (fun t => Elc (.lst (natsI ls)) t) (fun i t => CI ls.length (codeP ls) ((sortP (prsOf ls)).drop i) t) ⟨0, 0, ls.map fun _ => []⟩ (by
      rw [← s2]
      generalize (prsOf ls).map pD = A at *
      simp only [Elc] at c2 ⊢
      generalize rowsD (ls.map fun _ => []) = RR at *
      simp -implicitDefEqProofs [E_law_code] at c2
      simp -implicitDefEqProofs [E_law_code, c2, s1]) (CI.start ls hs hb) (fun i d t hd hi => ⟨trivial, by
      obtain ⟨hi', rfl⟩ := map_at hd
      rw [List.drop_eq_getElem_cons hi'] at hi
      generalize (sortP (prsOf ls))[i] = p at *
      obtain ⟨l, s⟩ := p
      exact ⟨_, lc_turn C _ hi (by omega), hi.step⟩⟩) (fun _ _ => trivial)
  rw [List.length_map, List.drop_length] at h2
  exact ⟨t, h1, h2.out⟩
theorem law_code_ok (C : Cs) (ls : List Nat) (hl : ls.length ≤ 60) (hs : sumH ls ≤ 2 ^ 64) (hb : ∀ x ∈ ls, x ≤ 30) :
    F_law_code C [.d (.lst (natsI ls))] [] = .ok (.d (.lst (rowsD (codeP ls)))) [] := by
  have c1 := lc_c1 C ls (by omega)
  obtain ⟨t, l1, ht⟩ := lc_l1 C ls hl hs hb
  simp only [Elc] at l1
  rw [ht] at l1
  generalize natsI ls = NL at *
  generalize rowsD (codeP ls) = RR at *
  generalize rowsD (ls.map fun _ => []) = R0 at *
  simp -implicitDefEqProofs [E_law_code] at c1 l1
  simp -implicitDefEqProofs [F_law_code, fb_law_code, env0, sizeL, c1, l1]
/-! none is a beginning of another one -/
theorem codeR_mem : ∀ (ps : List (Nat × Nat)) (n z : Nat) (R : List (List Nat)) (r : List Nat), r ∈ codeR ps n z R → r ∈ R ∨ ∃ p ∈ nums n z (ps.map (·.1)), r = digitsN p.1 p.2
  | [], n, z, R, r, h => .inl h
  | (l, s) :: ps, n, z, R, r, h => by
    rw [codeR] at h
    rcases codeR_mem ps _ _ _ r h with h | ⟨p, hp, e⟩
    · rcases List.mem_or_eq_of_mem_set h with h | h
      · exact .inl h
      · exact .inr ⟨(n * 2 ^ (l - z), l), by rw [List.map_cons, nums]; exact List.mem_cons_self .., h⟩
    · exact .inr ⟨p, by rw [List.map_cons, nums]; exact List.mem_cons_of_mem _ hp, e⟩
theorem pair_or {α : Type} {R : α → α → Prop} : ∀ {l : List α}, l.Pairwise R → ∀ {a b}, a ∈ l → b ∈ l → a ≠ b → R a b ∨ R b a
  | [], _, _, _, h, _, _ => by cases h
  | x :: l, h, a, b, ha, hb, hne => by
    rw [List.pairwise_cons] at h
    rcases List.mem_cons.mp ha with e | ha2
    · rcases List.mem_cons.mp hb with e' | hb2
      · exact absurd (e.trans e'.symm) hne
      · subst e; exact .inl (h.1 b hb2)
    · rcases List.mem_cons.mp hb with e' | hb2
      · subst e'; exact .inr (h.1 a ha2)
      · exact pair_or h.2 ha2 hb2 hne
theorem code_apart (ls : List Nat) (hs : sumH ls ≤ 2 ^ 64) (hb : ∀ x ∈ ls, x ≤ 30) {a b : List Nat} (ha : a ∈ codeP ls) (hb' : b ∈ codeP ls) (ha0 : a ≠ []) (hb0 : b ≠ []) (hne : a ≠ b) : b.take a.length ≠ a := by
  have hst := CI.start ls hs hb
  have hasc := hst.asc
  have hr : ∀ r ∈ codeP ls, r ≠ [] → ∃ p ∈ nums 0 0 ((sortP (prsOf ls)).map (·.1)), r = digitsN p.1 p.2 := fun r hr h0 => by
    rcases codeR_mem _ _ _ _ _ hr with h | h
    · obtain ⟨x, _, e⟩ := List.mem_map.mp h
      exact absurd e.symm h0
    · exact h
  obtain ⟨p, hp, rfl⟩ := hr a ha ha0
  obtain ⟨q, hq, rfl⟩ := hr b hb' hb0
  have hpq : p ≠ q := fun e => hne (by rw [e])
  have hle : ∀ l ∈ (sortP (prsOf ls)).map (·.1), l ≤ 64 := fun l hl => by
    obtain ⟨x, hx, rfl⟩ := List.mem_map.mp hl
    have := (hst.bd x hx).1
    omega
  have hfit := nums_fit _ 0 0 hasc hle (by omega) (by have := hst.fit; simpa using this)
  have hap := nums_apart _ 0 0 hasc
  rw [digits_len]
  rcases pair_or hap hp hq hpq with ⟨h1, h2⟩ | ⟨h1, h2⟩
  · exact (apart_rows h1 h2 (hfit p hp) (hfit q hq)).1
  · exact (apart_rows h1 h2 (hfit q hq) (hfit p hp)).2
end Tp
end
section
set_option Elab.async false
set_option linter.all false
set_option maxRecDepth 100000
set_option maxHeartbeats 8000000
namespace Tp
open PySem L2 Dl
/-! the law's search through all lengths -/
theorem rowsL_len : ∀ n, (rowsL n).length = 4 ^ n
  | 0 => rfl
  | n + 1 => by
    rw [rowsL, List.length_flatMap]
    simp only [List.length_map, List.length_cons, List.length_nil]
    rw [List.map_const', List.sum_replicate_nat, rowsL_len n, Nat.pow_succ]
theorem rowsL_item : ∀ n l, l ∈ rowsL n → l.length = n ∧ ∀ x ∈ l, 1 ≤ x ∧ x ≤ 4
  | 0, l, h => by
    rw [rowsL, List.mem_singleton] at h
    subst h
    exact ⟨rfl, fun x h => by cases h⟩
  | n + 1, l, h => by
    rw [rowsL, List.mem_flatMap] at h
    obtain ⟨a, ha, hl⟩ := h
    obtain ⟨x, hx, rfl⟩ := List.mem_map.mp hl
    obtain ⟨i1, i2⟩ := rowsL_item n a ha
    refine ⟨by simp [i1], fun y hy => ?_⟩
    rcases List.mem_append.mp hy with hy | hy
    · exact i2 y hy
    · rw [List.mem_singleton] at hy
      subst hy
      simp at hx
      omega
def longer (R : List (List Nat)) : List (List Nat) := R.flatMap fun l => [1, 2, 3, 4].map fun x => l ++ [x]
theorem rowsD_app (a b : List (List Nat)) : rowsD (a ++ b) = rowsD a ++ rowsD b := by unfold rowsD; rw [List.map_append]
@[simp] abbrev Els (cs : D) (best rows : D) (k longer one : Option W := none) (c0 : Option Cell := none) : Dl.Env := E_law_least (x_counts := some (.d cs)) (x_size := some (.d (.int 4))) (x_best := some (.d best)) (x_rows := some (.d rows)) (x_k := k) (x_longer := longer) (x_one := one) (c0 := c0)
theorem ls_l3 (C : Cs) (cs best rows k : D) (one : List Nat) (acc : List D) (h1 : one.length ≤ 1000) (ha : acc.length ≤ 10000) :
    fb_law_least_l3 C (Els cs best rows (some (.d k)) (some (.loc 0)) (some (.d (.lst (natsI one)))) (some (.lst acc))) = .nx (Els cs best rows (some (.d k)) (some (.loc 0)) (some (.d (.lst (natsI one)))) (some (.lst (acc ++ rowsD ([1, 2, 3, 4].map fun x => one ++ [x]))))) := by
  unfold fb_law_least_l3
  have e4 : [1, 2, 3, 4] = (List.range 4).map fun x => x + 1 := by decide
  refine for_e (items := rangeL 1 4) (chk := fun _ => True) (fun i => Els cs best rows (some (.d k)) (some (.loc 0)) (some (.d (.lst (natsI one)))) (some (.lst (acc ++ (rowsD ([1, 2, 3, 4].map fun x => one ++ [x])).take i)))) (by simp -implicitDefEqProofs [E_law_least]) (fun i d hd => ⟨trivial, ?_⟩) trivial (by
    have : (rowsD ([1, 2, 3, 4].map fun x => one ++ [x])).take 4 = rowsD ([1, 2, 3, 4].map fun x => one ++ [x]) := List.take_of_length_le (by rw [rowsD_len]; simp)
    show Els _ _ _ _ _ _ (some (.lst (acc ++ (rowsD ([1, 2, 3, 4].map fun x => one ++ [x])).take 4))) = _
    rw [this])
  obtain ⟨hi, rfl⟩ := rangeL_at2 hd
  have hy : (rowsD ([1, 2, 3, 4].map fun x => one ++ [x]))[i]? = some (.lst (natsI one ++ [.int (1 + (i : Int))])) := by
    unfold rowsD
    rw [e4, List.map_map, List.map_map, List.getElem?_map, List.getElem?_range hi]
    show some (D.lst (natsI (one ++ [i + 1]))) = _
    rw [natsI_app]
    have : ((i + 1 : Nat) : Int) = 1 + (i : Int) := by omega
    show some (D.lst (natsI one ++ [.int ((i + 1 : Nat) : Int)])) = _
    rw [this]
  rw [List.take_add_one, hy, ← List.append_assoc]
  have hn : (acc ++ (rowsD ([1, 2, 3, 4].map fun x => one ++ [x])).take i).length < 16777216 := by
    rw [List.length_append, List.length_take]; omega
  have hon := natsI_len one
  have h1' : one.length + 1 ≤ 16777216 := by omega
  simp only [Els, Option.toList_some]
  generalize acc ++ (rowsD ([1, 2, 3, 4].map fun x => one ++ [x])).take i = A at *
  generalize natsI one = N1 at *
  simp -implicitDefEqProofs [E_law_least, fb_law_least_l3b, sizeL, hn, hon, h1']
theorem ls_l2 (C : Cs) (cs best k : D) (R : List (List Nat)) (hR : R.length ≤ 1000) (hx : ∀ l ∈ R, l.length ≤ 1000) :
    fb_law_least_l2 C (Els cs best (.lst (rowsD R)) (some (.d k)) (some (.loc 0)) none (some (.lst []))) = .nx (Els cs best (.lst (rowsD R)) (some (.d k)) (some (.loc 0)) none (some (.lst (rowsD (longer R))))) := by
  unfold fb_law_least_l2
  refine for_e (items := rowsD R) (chk := fun _ => True) (fun i => Els cs best (.lst (rowsD R)) (some (.d k)) (some (.loc 0)) none (some (.lst (rowsD (longer (R.take i)))))) (by simp only [Els]; generalize rowsD R = RR; simp -implicitDefEqProofs [E_law_least]; rfl) (fun i d hd => ⟨trivial, ?_⟩) trivial (by rw [rowsD_len, List.take_length])
  unfold rowsD at hd
  obtain ⟨hi, rfl⟩ := map_at hd
  have e1 : longer (R.take (i + 1)) = longer (R.take i) ++ [1, 2, 3, 4].map fun x => R[i] ++ [x] := by
    unfold longer
    rw [List.take_add_one, List.getElem?_eq_getElem hi, List.flatMap_append]
    rfl
  have hln : (longer (R.take i)).length ≤ 4 * R.length := by
    unfold longer
    rw [List.length_flatMap]
    simp only [List.length_map, List.length_cons, List.length_nil]
    rw [List.map_const', List.sum_replicate_nat, List.length_take]
    have := Nat.min_le_right i R.length
    omega
  have l3 := ls_l3 C cs best (.lst (rowsD R)) k R[i] (rowsD (longer (R.take i))) (hx _ (List.getElem_mem hi)) (by rw [rowsD_len]; omega)
  rw [e1, rowsD_app]
  simp only [Els] at l3 ⊢
  generalize rowsD ([1, 2, 3, 4].map fun x => R[i] ++ [x]) = B at *
  generalize natsI R[i] = N1 at *
  generalize rowsD (longer (R.take i)) = A at *
  generalize rowsD R = RR at *
  simp -implicitDefEqProofs [E_law_least] at l3
  simp -implicitDefEqProofs [E_law_least, fb_law_least_l2b, l3]
theorem ls_l1 (C : Cs) (cs : List Nat) (best : D) (h4 : cs.length ≤ 4) :
    fb_law_least_l1 C (Els (.lst (natsI cs)) best (.lst (rowsD (rowsL 0)))) = .nx (Els (.lst (natsI cs)) best (.lst (rowsD (rowsL cs.length)))) := by
  unfold fb_law_least_l1
  have hz : (cs.length : Int) < 4611686018427387904 := by omega
  have hz2 : (-4611686018427387904 : Int) ≤ (cs.length : Int) := by omega
  have hnl := natsI_len cs
  refine for_e (items := rangeL 0 cs.length) (chk := fun _ => True) (fun i => Els (.lst (natsI cs)) best (.lst (rowsD (rowsL i)))) (by simp only [Els]; generalize rowsD (rowsL 0) = RR; generalize natsI cs = NC at *; simp -implicitDefEqProofs [E_law_least, hnl, hz, hz2]) (fun i d hd => ⟨trivial, ?_⟩) trivial (by rw [rangeL_len])
  obtain ⟨hi, rfl⟩ := rangeL_at hd
  have hlen : (rowsL i).length ≤ 1000 := by
    rw [rowsL_len]
    have : 4 ^ i ≤ 4 ^ 4 := Nat.pow_le_pow_right (by omega) (by omega)
    omega
  have l2 := ls_l2 C (.lst (natsI cs)) best (.int (i : Nat)) (rowsL i) hlen (fun l hl => by have := (rowsL_item i l hl).1; omega)
  have e1 : longer (rowsL i) = rowsL (i + 1) := rfl
  rw [e1] at l2
  simp only [Els] at l2 ⊢
  generalize natsI cs = NC at *
  generalize rowsD (rowsL (i + 1)) = R2 at *
  generalize rowsD (rowsL i) = R1 at *
  simp -implicitDefEqProofs [E_law_least] at l2
  simp -implicitDefEqProofs [E_law_least, fb_law_least_l1b, l2]
/-- the least so far -/
def stepB (cs : List Nat) (b : Option Nat) (l : List Nat) : Option Nat := if validL l = true then (match b with | none => some (dot cs l) | some v => if dot cs l < v then some (dot cs l) else some v) else b
def optI : Option Nat → D
  | none => .non
  | some n => .int (n : Nat)
@[simp] abbrev Elt (cs rows : D) (best : Option Nat) (h : Option W := none) : Dl.Env := E_law_least (x_counts := some (.d cs)) (x_size := some (.d (.int 4))) (x_best := some (.d (optI best))) (x_rows := some (.d rows)) (x_lengths_here := h)
theorem ls_c1 (C : Cs) (cs rows : D) (best : Option Nat) (l : List Nat) (hl : l.length ≤ 1000) (h4 : ∀ x ∈ l, x ≤ 4) :
    fb_law_least_c1 C (Elt cs rows best (some (.d (.lst (natsI l))))) = .ok (.d (.lst ((l.map fun x => ((2 ^ (4 - x) : Nat) : Int)).map .int))) (Elt cs rows best (some (.d (.lst (natsI l))))) := by
  unfold fb_law_least_c1
  simp only [Elt]
  generalize optI best = B
  rw [comp_m (n := 1000) (items := natsI l) (chk := fun _ => True) ((l.map fun x => ((2 ^ (4 - x) : Nat) : Int)).map .int) (e1 := E_law_least (x_counts := some (.d cs)) (x_size := some (.d (.int 4))) (x_best := some (.d B)) (x_rows := some (.d rows)) (x_lengths_here := some (.d (.lst (natsI l))))) (by simp -implicitDefEqProofs [E_law_least]) (by simp [Env.open]) (by rw [natsI_len]; exact hl) (by rw [sizeL]; omega) rfl (by rw [List.length_map, List.length_map, natsI_len]) (fun i d y acc hd hy ha => ⟨trivial, by
    unfold natsI at hd
    obtain ⟨hi, rfl⟩ := map_at hd
    have hm := h4 _ (List.getElem_mem hi)
    rw [List.getElem?_map, List.getElem?_map, List.getElem?_eq_getElem hi] at hy
    cases hy
    dsimp only
    generalize l[i] = x at *
    have d2 := law_two_ok C (4 - x) (by omega)
    rw [show ((4 - x : Nat) : Int) = 4 - (x : Int) by omega] at d2
    generalize ((2 ^ (4 - x) : Nat) : Int) = y at *
    have hs : acc.length < 16777216 := by omega
    simp -implicitDefEqProofs [E_law_least, sizeL, hs, d2]⟩) (fun _ => trivial)]
  simp -implicitDefEqProofs [endL, E_law_least]
theorem dot_range : ∀ cs l : List Nat, cs.length = l.length → dot cs l = ((List.range cs.length).map fun k => cs.getD k 0 * l.getD k 0).sum
  | [], [], _ => rfl
  | [], _ :: _, h => by cases h
  | _ :: _, [], h => by cases h
  | x :: cs, y :: l, h => by
    rw [dot, List.length_cons, List.range_succ_eq_map, List.map_cons, List.sum_cons, List.map_map, dot_range cs l (by simpa using h)]
    rfl
theorem ls_c2 (C : Cs) (cs : List Nat) (rows : D) (best : Option Nat) (l : List Nat) (hl : l.length = cs.length) (hc : cs.length ≤ 1000) (h4 : ∀ x ∈ l, x ≤ 4) :
    fb_law_least_c2 C (Elt (.lst (natsI cs)) rows best (some (.d (.lst (natsI l))))) = .ok (.d (.lst (((List.range cs.length).map fun k => ((cs.getD k 0 * l.getD k 0 : Nat) : Int)).map .int))) (Elt (.lst (natsI cs)) rows best (some (.d (.lst (natsI l))))) := by
  unfold fb_law_least_c2
  simp only [Elt]
  generalize optI best = B
  have hz : (cs.length : Int) < 4611686018427387904 := by omega
  have hz2 : (-4611686018427387904 : Int) ≤ (cs.length : Int) := by omega
  have hnl := natsI_len cs
  rw [comp_m (n := 1000) (items := rangeL 0 cs.length) (chk := fun _ => True) (((List.range cs.length).map fun k => ((cs.getD k 0 * l.getD k 0 : Nat) : Int)).map .int) (e1 := E_law_least (x_counts := some (.d (.lst (natsI cs)))) (x_size := some (.d (.int 4))) (x_best := some (.d B)) (x_rows := some (.d rows)) (x_lengths_here := some (.d (.lst (natsI l))))) (by simp -implicitDefEqProofs [E_law_least, hnl, hz, hz2]) (by simp [Env.open]) (by rw [rangeL_len]; exact hc) (by rw [sizeL]; omega) rfl (by rw [List.length_map, List.length_map, rangeL_len, List.length_range]) (fun i d y acc hd hy ha => ⟨trivial, by
    obtain ⟨hi, rfl⟩ := rangeL_at hd
    rw [List.getElem?_map, List.getElem?_map, List.getElem?_range hi] at hy
    cases hy
    have a1 : atI (natsI cs) (i : Int) = some (.int (cs.getD i 0 : Nat)) := by rw [Dl.atI_nat, natsI_getD hi]
    have a2 : atI (natsI l) (i : Int) = some (.int (l.getD i 0 : Nat)) := by rw [Dl.atI_nat, natsI_getD (by omega)]
    have hx : l.getD i 0 ≤ 4 := by
      rw [List.getD_eq_getElem?_getD, List.getElem?_eq_getElem (by omega)]
      exact h4 _ (List.getElem_mem _)
    dsimp only
    rw [Int.natCast_mul]
    have cm : CMul (cs.getD i 0 : Nat) (l.getD i 0 : Nat) := cmulR _ _ (by constructor <;> omega)
    generalize ((cs.getD i 0 : Nat) : Int) = u at *
    generalize ((l.getD i 0 : Nat) : Int) = v at *
    have hs : acc.length < 16777216 := by omega
    simp -implicitDefEqProofs [E_law_least, sizeL, hs, a1, a2, cm]⟩) (fun _ => trivial)]
  simp -implicitDefEqProofs [endL, E_law_least]
theorem sum_cast : ∀ l : List Nat, (l.map fun n : Nat => (n : Int)).sum = ((l.sum : Nat) : Int)
  | [] => rfl
  | x :: l => by
    rw [List.map_cons, List.sum_cons, sum_cast l, List.sum_cons]
    omega
theorem two4 (C : Cs) : F_law_two C [.d (.int 4)] [] = .ok (.d (.int 16)) [] := law_two_ok C 4 (by omega)
theorem ls_turn (C : Cs) (cs : List Nat) (rows : D) (best : Option Nat) (l : List Nat) (hl : l.length = cs.length) (hc : cs.length ≤ 1000) (h4 : ∀ x ∈ l, x ≤ 4) :
    turn (tgName 8) (fb_law_least_l4b C) [4, 7, 8, 9] (.lst (natsI l)) (Elt (.lst (natsI cs)) rows best) = .nx (Elt (.lst (natsI cs)) rows (stepB cs best l)) := by
  obtain ⟨ns, c1, hs1⟩ : ∃ ns : List Int, fb_law_least_c1 C (Elt (.lst (natsI cs)) rows best (some (.d (.lst (natsI l))))) = .ok (.d (.lst (ns.map .int))) (Elt (.lst (natsI cs)) rows best (some (.d (.lst (natsI l))))) ∧ ns.sum = (((l.map fun x => 2 ^ (4 - x)).sum : Nat) : Int) :=
    ⟨_, ls_c1 C _ rows best l (by omega) h4, by rw [← sum_cast, List.map_map]; rfl⟩
  obtain ⟨ms, c2, hs2⟩ : ∃ ms : List Int, fb_law_least_c2 C (Elt (.lst (natsI cs)) rows best (some (.d (.lst (natsI l))))) = .ok (.d (.lst (ms.map .int))) (Elt (.lst (natsI cs)) rows best (some (.d (.lst (natsI l))))) ∧ ms.sum = ((dot cs l : Nat) : Int) :=
    ⟨_, ls_c2 C cs rows best l hl hc h4, by rw [dot_range cs l hl.symm, ← sum_cast, List.map_map]; rfl⟩
  have t4 := two4 C
  unfold stepB validL
  generalize (l.map fun x => 2 ^ (4 - x)).sum = S at *
  generalize dot cs l = dd at *
  simp only [Elt] at c1 c2 ⊢
  generalize natsI l = NL at *
  generalize natsI cs = NC at *
  by_cases hS : S ≤ 16
  · rw [if_pos (decide_eq_true hS)]
    have hS' : (S : Int) ≤ 16 := by omega
    cases best with
    | none =>
      simp -implicitDefEqProofs [E_law_least, optI] at c1 c2
      simp -implicitDefEqProofs [E_law_least, fb_law_least_l4b, optI, c1, c2, hs1, hs2, t4, hS', isNoneD]
    | some v =>
      by_cases hv : dd < v
      · have hv' : (dd : Int) < (v : Int) := by omega
        simp -implicitDefEqProofs [E_law_least, optI] at c1 c2
        simp -implicitDefEqProofs [E_law_least, fb_law_least_l4b, optI, c1, c2, hs1, hs2, t4, hS', isNoneD, hv, hv']
      · have hv' : ¬ (dd : Int) < (v : Int) := by omega
        simp -implicitDefEqProofs [E_law_least, optI] at c1 c2
        simp -implicitDefEqProofs [E_law_least, fb_law_least_l4b, optI, c1, c2, hs1, hs2, t4, hS', isNoneD, hv, hv']
  · rw [if_neg (by simpa using hS)]
    have hS' : ¬ (S : Int) ≤ 16 := by omega
    simp -implicitDefEqProofs [E_law_least] at c1 c2
    simp -implicitDefEqProofs [E_law_least, fb_law_least_l4b, c1, c2, hs1, hs2, t4, hS']
theorem law_least_ok (C : Cs) (cs : List Nat) (h4 : cs.length ≤ 4) : F_law_least C [.d (.lst (natsI cs)), .d (.int 4)] [] = .ok (.d (optI ((rowsL cs.length).foldl (stepB cs) none))) [] := by
  have l1 := ls_l1 C cs .non h4
  have l4 : fb_law_least_l4 C (Elt (.lst (natsI cs)) (.lst (rowsD (rowsL cs.length))) none) = .nx (Elt (.lst (natsI cs)) (.lst (rowsD (rowsL cs.length))) ((rowsL cs.length).foldl (stepB cs) none)) := by
    unfold fb_law_least_l4
    refine for_e (items := rowsD (rowsL cs.length)) (chk := fun _ => True) (fun i => Elt (.lst (natsI cs)) (.lst (rowsD (rowsL cs.length))) (((rowsL cs.length).take i).foldl (stepB cs) none)) (by simp only [Elt]; generalize rowsD (rowsL cs.length) = RR; simp -implicitDefEqProofs [E_law_least]) (fun i d hd => ⟨trivial, ?_⟩) trivial (by rw [rowsD_len, List.take_length])
    unfold rowsD at hd
    obtain ⟨hi, rfl⟩ := map_at hd
    obtain ⟨q1, q2⟩ := rowsL_item _ _ (List.getElem_mem hi)
    rw [ls_turn C cs _ _ _ q1 (by omega) (fun x hx => (q2 x hx).2), List.take_add_one, List.getElem?_eq_getElem hi, List.foldl_append]
    rfl
  simp only [Els, Elt, optI] at l1 l4
  have e0 : rowsD (rowsL 0) = [.lst []] := rfl
  rw [e0] at l1
  generalize natsI cs = NC at *
  generalize rowsD (rowsL cs.length) = RR at *
  generalize hb : (rowsL cs.length).foldl (stepB cs) none = bb at *
  cases bb with
  | none =>
    simp -implicitDefEqProofs [E_law_least, optI] at l1 l4
    simp -implicitDefEqProofs [F_law_least, fb_law_least, env0, sizeL, optI, l1, l4]
  | some v =>
    simp -implicitDefEqProofs [E_law_least, optI] at l1 l4
    simp -implicitDefEqProofs [F_law_least, fb_law_least, env0, sizeL, optI, l1, l4]
/-- the search finds the least -/
theorem fold_least (cs : List Nat) (m : Nat) : ∀ (R : List (List Nat)) (b : Option Nat), (∀ l ∈ R, validL l = true → m ≤ dot cs l) → (∀ v, b = some v → m ≤ v) → ((∃ l ∈ R, validL l = true ∧ dot cs l = m) ∨ b = some m) → R.foldl (stepB cs) b = some m
  | [], b, _, _, h => by
    rcases h with ⟨l, hl, _⟩ | h
    · cases hl
    · exact h
  | l :: R, b, h1, h2, h3 => by
    rw [List.foldl_cons]
    refine fold_least cs m R _ (fun l' h => h1 l' (List.mem_cons_of_mem _ h)) (fun v hv => ?_) ?_
    · unfold stepB at hv
      by_cases hva : validL l = true
      · rw [if_pos hva] at hv
        have := h1 l (List.mem_cons_self ..) hva
        cases b with
        | none => simp at hv; omega
        | some w =>
          have := h2 w rfl
          dsimp only at hv
          split at hv <;> (cases hv; omega)
      · rw [if_neg hva] at hv
        exact h2 v hv
    · rcases h3 with ⟨l', hl', hv', e'⟩ | h3
      · rcases List.mem_cons.mp hl' with rfl | hl'
        · right
          unfold stepB
          rw [if_pos hv']
          cases b with
          | none => rw [e']
          | some w =>
            have := h2 w rfl
            dsimp only
            split
            · rw [e']
            · rw [show w = m by omega]
        · exact .inl ⟨l', hl', hv', e'⟩
      · right
        subst h3
        unfold stepB
        by_cases hva : validL l = true
        · rw [if_pos hva]
          have := h1 l (List.mem_cons_self ..) hva
          dsimp only
          rw [if_neg (by omega)]
        · rw [if_neg hva]
end Tp
end
section
set_option Elab.async false
set_option linter.all false
set_option maxRecDepth 100000
set_option maxHeartbeats 8000000
namespace Tp
open PySem L2 Dl
/-! the lengths of the code are full -/
def castL (l : List Nat) : List Int := l.map fun n : Nat => (n : Int)
theorem usedL_cast (l : List Nat) : usedL (castL l) = castL (l.filter fun x => decide (0 < x)) := by
  unfold usedL castL
  rw [List.filter_map]
  congr 1
  apply List.filter_congr
  intro x _
  rw [Bool.eq_iff_iff]
  simp
  omega
def posL (l : List Nat) : List Nat := l.filter fun x => decide (0 < x)
/-- the lengths that are used -/
def FullN (l : List Nat) : Prop := l = [] ∨ l = [1] ∨ (2 ≤ l.length ∧ (∀ x ∈ l, 1 ≤ x ∧ x + 1 ≤ l.length) ∧ (l.map fun x => 2 ^ (64 - x)).sum = 2 ^ 64 ∧ l.length ≤ 60)
theorem sum_mul (c : Nat) (f : Nat → Nat) : ∀ l : List Nat, (l.map fun x => c * f x).sum = c * (l.map f).sum
  | [] => rfl
  | x :: l => by rw [List.map_cons, List.sum_cons, sum_mul c f l, List.map_cons, List.sum_cons, Nat.mul_add]
theorem sum_congr {f g : Nat → Nat} : ∀ {l : List Nat}, (∀ x ∈ l, f x = g x) → (l.map f).sum = (l.map g).sum
  | [], _ => rfl
  | x :: l, h => by rw [List.map_cons, List.map_cons, List.sum_cons, List.sum_cons, h x (List.mem_cons_self ..), sum_congr fun y hy => h y (List.mem_cons_of_mem _ hy)]
theorem fullI_of (ls : List Nat) (h : FullN (posL ls)) : fullI (castL ls) = true := by
  have e0 : usedL (castL ls) = castL (posL ls) := usedL_cast ls
  unfold fullI
  rw [e0]
  rcases h with h | h | ⟨h2, hb, hs, h60⟩
  · rw [h]
    decide
  · rw [h]
    decide
  · have hany : ((castL (posL ls)).any fun x => decide (x < 0)) = false := by
      rw [List.any_eq_false]
      intro x hx
      obtain ⟨n, _, rfl⟩ := List.mem_map.mp hx
      simp
    have hlen : (castL (posL ls)).length = (posL ls).length := List.length_map _
    have hne : castL (posL ls) ≠ [] := by
      intro e
      rw [e] at hlen
      simp at hlen
      omega
    obtain ⟨M, hM, eM⟩ := List.mem_map.mp (maxI_mem hne)
    have eM : (M : Int) = maxI (castL (posL ls)) := eM
    have hmx : ∀ x ∈ posL ls, x ≤ M := fun x hx => by
      have := maxI_le (l := castL (posL ls)) (z := (x : Int)) (List.mem_map_of_mem hx)
      omega
    obtain ⟨m1, m2⟩ := hb M hM
    show (if (castL (posL ls)).any _ = true then _ else if (castL (posL ls)).length ≤ 1 then _ else if ((castL (posL ls)).length : Int) ≤ maxI (castL (posL ls)) then _ else ((castL (posL ls)).map fun x => (2 : Int) ^ (maxI (castL (posL ls)) - x).toNat).sum == 2 ^ (maxI (castL (posL ls))).toNat) = true
    rw [hany, if_neg (by simp), hlen, if_neg (by omega), ← eM, if_neg (by omega), beq_iff_eq, Int.toNat_natCast]
    have e1 : (castL (posL ls)).map (fun x => (2 : Int) ^ ((M : Int) - x).toNat) = ((posL ls).map fun x => 2 ^ (M - x)).map fun n : Nat => (n : Int) := by
      unfold castL
      rw [List.map_map, List.map_map]
      apply List.map_congr_left
      intro x hx
      have := hmx x hx
      show (2 : Int) ^ ((M : Int) - (x : Int)).toNat = ((2 ^ (M - x) : Nat) : Int)
      rw [show ((M : Int) - (x : Int)).toNat = M - x by omega, Int.natCast_pow]
      rfl
    rw [e1, sum_cast]
    have e2 : ((posL ls).map fun x => 2 ^ (64 - x)).sum = 2 ^ (64 - M) * ((posL ls).map fun x => 2 ^ (M - x)).sum := by
      rw [← sum_mul]
      refine sum_congr fun x hx => ?_
      have := hmx x hx
      rw [← Nat.pow_add, show 64 - M + (M - x) = 64 - x by omega]
    have e3 : 2 ^ (64 - M) * ((posL ls).map fun x => 2 ^ (M - x)).sum = 2 ^ (64 - M) * 2 ^ M := by
      rw [← e2, hs, ← Nat.pow_add, show 64 - M + M = 64 by omega]
    have e4 := Nat.eq_of_mul_eq_mul_left (Nat.pow_pos (by omega)) e3
    rw [e4, Int.natCast_pow]
    rfl
theorem sumH_of (ls : List Nat) (h : FullN (posL ls)) : sumH ls ≤ 2 ^ 64 := by
  show ((posL ls).map fun x => 2 ^ (64 - x)).sum ≤ _
  rcases h with h | h | ⟨_, _, h, _⟩
  · rw [h]; decide
  · rw [h]; decide
  · omega
/-- the used lengths of the code for counts -/
def uL (cs : List Nat) : List Nat := (usedS cs).map fun i => (lensP cs).getD i 0
theorem posL_of (cs L : List Nat) (hl : L.length = cs.length) (ho : ∀ i, i ∉ usedS cs → L.getD i 0 = 0) (hi : ∀ i ∈ usedS cs, 1 ≤ L.getD i 0) : posL L = (usedS cs).map fun i => L.getD i 0 := by
  have e : L = (List.range cs.length).map fun i => L.getD i 0 := by
    rw [← hl]
    apply List.ext_getElem?
    intro i
    rw [List.getElem?_map]
    by_cases h : i < L.length
    · rw [List.getElem?_range h, List.getElem?_eq_getElem h, Option.map_some, List.getD_eq_getElem?_getD, List.getElem?_eq_getElem h]
      rfl
    · rw [List.getElem?_eq_none (by omega), List.getElem?_eq_none (by simp; omega)]
      rfl
  unfold posL
  conv => lhs; rw [e]
  rw [List.filter_map]
  congr 1
  unfold usedS
  apply List.filter_congr
  intro i hr
  rw [Bool.eq_iff_iff]
  simp only [Function.comp_apply, decide_eq_true_eq]
  by_cases hu : i ∈ usedS cs
  · have := hi i hu
    have := (usedS_lt hu).2
    omega
  · have h0 := ho i hu
    have : ¬ 0 < cs.getD i 0 := fun z => hu (by unfold usedS; rw [List.mem_filter, decide_eq_true_eq]; exact ⟨hr, z⟩)
    omega
theorem rep_getD (n i : Nat) : (List.replicate n 0).getD i 0 = 0 := by
  rw [List.getD_eq_getElem?_getD, List.getElem?_replicate]
  split <;> rfl
structure Lens (cs : List Nat) : Prop where
  len : (lensP cs).length = cs.length
  pos : posL (lensP cs) = uL cs
  full : FullN (uL cs)
  out : ∀ i, i ∉ usedS cs → (lensP cs).getD i 0 = 0
  cost : (usedS cs).length ≠ 0 → costL cs (lensP cs) (usedS cs) = if (usedS cs).length = 1 then wts cs (usedS cs) else mcost cs.length (firstG cs)
theorem lens_ok (cs : List Nat) (hm : cs.length ≤ 60) : Lens cs := by
  have hgl : (firstG cs).length = (usedS cs).length := by rw [firstG_eq, List.length_map]
  have hul := usedS_len cs
  rcases Nat.lt_or_ge (usedS cs).length 2 with h | h
  · rcases Nat.eq_zero_or_pos (usedS cs).length with h0 | h0
    · have hu : usedS cs = [] := List.eq_nil_of_length_eq_zero h0
      have hf : firstG cs = [] := by rw [firstG_eq, hu]; rfl
      have hL : lensP cs = List.replicate cs.length 0 := by
        unfold lensP
        rw [hf]
        dsimp only
        rw [run_few _ _ (by simp)]
      have ho : ∀ i, (lensP cs).getD i 0 = 0 := fun i => by rw [hL, rep_getD]
      refine ⟨by rw [hL, List.length_replicate], posL_of cs _ (by rw [hL, List.length_replicate]) (fun i _ => ho i) (fun i hi => by rw [hu] at hi; cases hi), .inl ?_, fun i _ => ho i, fun z => absurd h0 z⟩
      unfold uL
      rw [hu]
      rfl
    · have h1 : (usedS cs).length = 1 := by omega
      obtain ⟨s, hu⟩ := List.length_eq_one_iff.mp h1
      have hs : s ∈ usedS cs := by rw [hu]; simp
      have hsl := (usedS_lt hs).1
      have hf : firstG cs = [⟨cs.getD s 0, s, [s]⟩] := by rw [firstG_eq, hu]; rfl
      have hL : lensP cs = (List.replicate cs.length 0).set s 1 := by
        unfold lensP
        rw [hf]
      have hll : (lensP cs).length = cs.length := by rw [hL, List.length_set, List.length_replicate]
      have hs1 : (lensP cs).getD s 0 = 1 := by
        rw [hL, List.getD_eq_getElem?_getD, List.getElem?_set, if_pos rfl, if_pos (by rw [List.length_replicate]; exact hsl)]
        rfl
      have ho : ∀ i, i ∉ usedS cs → (lensP cs).getD i 0 = 0 := fun i hi => by
        rw [hu, List.mem_singleton] at hi
        rw [hL, List.getD_eq_getElem?_getD, List.getElem?_set, if_neg (fun z => hi z.symm), ← List.getD_eq_getElem?_getD, rep_getD]
      refine ⟨hll, posL_of cs _ hll ho (fun i hi => ?_), .inr (.inl ?_), ho, fun _ => ?_⟩
      · rw [hu, List.mem_singleton] at hi
        rw [hi, hs1]
        omega
      · unfold uL
        rw [hu, List.map_singleton, hs1]
      · rw [if_pos h1, hu]
        unfold costL wts
        rw [List.map_singleton, List.map_singleton, hs1, Nat.mul_one]
  · obtain ⟨ok, hc⟩ := lens_many cs (by omega) h
    have hp := posL_of cs _ ok.len ok.out ok.lo
    refine ⟨ok.len, hp, .inr (.inr ⟨by unfold uL; rw [List.length_map]; exact h, fun x hx => ?_, ?_, by unfold uL; rw [List.length_map]; omega⟩), ok.out, fun _ => ?_⟩
    · unfold uL at hx ⊢
      obtain ⟨i, hi, rfl⟩ := List.mem_map.mp hx
      rw [List.length_map]
      exact ⟨ok.lo i hi, ok.up i hi⟩
    · unfold uL
      rw [List.map_map]
      exact ok.hv
    · rw [if_neg (by omega)]
      exact hc
theorem Lens.small {cs : List Nat} (h : Lens cs) (hm : cs.length ≤ 30) : ∀ x ∈ lensP cs, x ≤ 30 := fun x hx => by
  by_cases h0 : 0 < x
  · have : x ∈ posL (lensP cs) := List.mem_filter.mpr ⟨hx, decide_eq_true h0⟩
    rw [h.pos] at this
    have hl : (uL cs).length ≤ cs.length := by unfold uL; rw [List.length_map]; exact usedS_len cs
    rcases h.full with e | e | ⟨_, hb, _⟩
    · rw [e] at this; cases this
    · rw [e, List.mem_singleton] at this; omega
    · have := (hb x this).2
      omega
  · omega
/-! the cost is the least -/
theorem used_counts (cs : List Nat) : cs.filter (fun x => decide (0 < x)) = (usedS cs).map fun i => cs.getD i 0 := by
  have e : cs = (List.range cs.length).map fun i => cs.getD i 0 := by
    apply List.ext_getElem?
    intro i
    rw [List.getElem?_map]
    by_cases h : i < cs.length
    · rw [List.getElem?_range h, List.getElem?_eq_getElem h, Option.map_some, List.getD_eq_getElem?_getD, List.getElem?_eq_getElem h]
      rfl
    · rw [List.getElem?_eq_none (by omega), List.getElem?_eq_none (by simp; omega)]
      rfl
  conv => lhs; rw [e]
  rw [List.filter_map]
  rfl
theorem sum_filter (p : Nat → Bool) (f : Nat → Nat) : ∀ l : List Nat, (∀ i ∈ l, p i = false → f i = 0) → (l.map f).sum = ((l.filter p).map f).sum
  | [], _ => rfl
  | x :: l, h => by
    have ih := sum_filter p f l fun i hi => h i (List.mem_cons_of_mem _ hi)
    rw [List.map_cons, List.sum_cons, ih, List.filter_cons]
    cases hp : p x with
    | true => rw [if_pos rfl, List.map_cons, List.sum_cons]
    | false => rw [if_neg (by simp), h x (List.mem_cons_self ..) hp, Nat.zero_add]
theorem dot_cost (cs L : List Nat) (hl : L.length = cs.length) : dot cs L = costL cs L (usedS cs) := by
  rw [dot_range cs L hl.symm]
  unfold costL usedS
  refine sum_filter _ _ _ fun i _ hp => ?_
  have : cs.getD i 0 = 0 := by
    have := of_decide_eq_false hp
    omega
  rw [this, Nat.zero_mul]
theorem mem_rowsL_rev : ∀ r : List Nat, (∀ x ∈ r, 1 ≤ x ∧ x ≤ 4) → r.reverse ∈ rowsL r.length
  | [], _ => by simp [rowsL]
  | x :: r, h => by
    rw [List.reverse_cons, List.length_cons, rowsL, List.mem_flatMap]
    refine ⟨_, mem_rowsL_rev r fun y hy => h y (List.mem_cons_of_mem _ hy), List.mem_map.mpr ⟨x, ?_, rfl⟩⟩
    have := h x (List.mem_cons_self ..)
    simp
    omega
theorem mem_rowsL (l : List Nat) (h : ∀ x ∈ l, 1 ≤ x ∧ x ≤ 4) : l ∈ rowsL l.length := by
  have := mem_rowsL_rev l.reverse fun x hx => h x (List.mem_reverse.mp hx)
  rwa [List.reverse_reverse, List.length_reverse] at this
theorem dot_map (f g : Nat → Nat) : ∀ l : List Nat, dot (l.map f) (l.map g) = (l.map fun i => f i * g i).sum
  | [] => rfl
  | x :: l => by rw [List.map_cons, List.map_cons, dot, dot_map f g l, List.map_cons, List.sum_cons]
theorem least_ok (cs : List Nat) (hm : cs.length ≤ 60) (h1 : 1 ≤ (usedS cs).length) (h4 : (usedS cs).length ≤ 4) :
    (rowsL (usedS cs).length).foldl (stepB ((usedS cs).map fun i => cs.getD i 0)) none = some (dot cs (lensP cs)) := by
  have lk := lens_ok cs hm
  have hgl : (firstG cs).length = (usedS cs).length := by rw [firstG_eq, List.length_map]
  have hw : (firstG cs).map (fun g => g.w) = (usedS cs).map fun i => cs.getD i 0 := by rw [firstG_eq, List.map_map]; rfl
  have hc := lk.cost (by omega)
  rw [dot_cost cs _ lk.len, hc]
  have hul : (uL cs).length = (usedS cs).length := List.length_map _
  refine fold_least _ _ _ none (fun l hl hv => ?_) (fun v hv => by cases hv) (.inl ⟨uL cs, ?_, ?_, ?_⟩)
  · have := least_bound (n := cs.length) (gs := firstG cs) (by omega) (by omega) (by have := usedS_len cs; omega) (by rw [hgl]; exact hl) hv
    rw [hw, hgl] at this
    exact this
  · rw [← hul]
    refine mem_rowsL _ fun x hx => ?_
    rcases lk.full with e | e | ⟨_, hb, _⟩
    · rw [e] at hx; cases hx
    · rw [e, List.mem_singleton] at hx; omega
    · have := hb x hx
      omega
  · unfold validL
    rcases lk.full with e | e | ⟨_, hb, hs, _⟩
    · rw [e]; decide
    · rw [e]; decide
    · have e2 : ((uL cs).map fun x => 2 ^ (64 - x)).sum = 2 ^ 60 * ((uL cs).map fun x => 2 ^ (4 - x)).sum := by
        rw [← sum_mul]
        refine sum_congr fun x hx => ?_
        have := hb x hx
        rw [← Nat.pow_add, show 60 + (4 - x) = 64 - x by omega]
      rw [hs] at e2
      refine decide_eq_true ?_
      omega
  · rw [← hc]
    unfold uL costL
    rw [dot_map]
end Tp
end
section
set_option Elab.async false
set_option linter.all false
set_option maxRecDepth 100000
set_option maxHeartbeats 8000000
namespace Tp
open PySem L2 Dl
/-! equal lists -/
theorem natsI_cast (l : List Nat) : natsI l = (castL l).map .int := by unfold natsI castL; rw [List.map_map]; rfl
theorem castL_inj {a b : List Nat} (h : castL a = castL b) : a = b := by
  unfold castL at h
  exact List.map_inj_right (fun x y e => by omega) |>.mp h
theorem eqB_nats (a b : List Nat) : eqB (.lst (natsI a)) (.lst (natsI b)) = some (decide (a = b)) := by
  rw [natsI_cast, natsI_cast, eqB_intl]
  congr 1
  rw [Bool.eq_iff_iff]
  simp only [decide_eq_true_eq]
  exact ⟨castL_inj, fun e => by rw [e]⟩
theorem okN_rows (R : List (List Nat)) : okN 64 (.lst (rowsD R)) = true := by
  rw [okN_lst]
  simp only [Nat.reduceLT, decide_true, Bool.true_and]
  refine okNs_all fun x hx => ?_
  obtain ⟨r, _, rfl⟩ := List.mem_map.mp hx
  rw [okN_lst, natsI_cast, okNs_int]
  rfl
theorem eqB_rows (R : List (List Nat)) : eqB (.lst (rowsD R)) (.lst (rowsD R)) = some true := by
  have h := okN_rows R
  rw [eqB_lst, h, eqvD_self h]
  rfl
/-! the drawn counts -/
theorem k_c1 (C : Cs) (sc : D) (ds : List Int) : ∃ (cs : List Nat) (ds' : List Int), fb_law_k56_c1 C (E_law_k56 (x_script := some (.d sc)) (x_row := some (.loc 0)) (c0 := some (dk ds))) = .ok (.d (.lst (natsI cs))) (E_law_k56 (x_script := some (.d sc)) (x_row := some (.loc 0)) (c0 := some (dk ds'))) ∧ cs.length ≤ 8 := by
  have t9 : F_law_take_k35 C [.loc 0, .d (.int 9)] [dk ds] = .ok (.d (.int (tv ds 9))) [dk (tn ds)] := take35_ok C ds (n := 9) (by omega)
  obtain ⟨k, hk, ek⟩ := tv_nat ds (n := 9) (by omega)
  have ek : tv ds 9 = k := ek
  rw [ek] at t9
  have hz : (k : Int) < 4611686018427387904 := by omega
  have hz2 : (-4611686018427387904 : Int) ≤ (k : Int) := by omega
  unfold fb_law_k56_c1
  obtain ⟨ds', out, h1, _, h3, h4⟩ := comp_s (S := List Int) (keep := false) (items := rangeL 0 k) (chk := fun _ => True) (it := iRg1 (eCall 2 (F_law_take_k35 C) [0] [] [] [(eVar 1), (eC (.int 9))])) (g := tgName 3) (t := fun e => .ok true e) (f := (eIx (eCB (kDisp none) [(eCall 2 (F_law_take_k35 C) [0] [] [] [(eVar 1), (eC (.int 5))]), (eCall 2 (F_law_take_k35 C) [0] [] [] [(eVar 1), (eC (.int 50))]), (eCall 1 (F_law_two C) [] [] [] [(eCall 2 (F_law_take_k35 C) [0] [] [] [(eVar 1), (eC (.int 8))])]), (eC (.int 0))]) (eCall 2 (F_law_take_k35 C) [0] [] [] [(eVar 1), (eC (.int 4))]))) (k := 1) (vs := [3])
    (e0 := E_law_k56 (x_script := some (.d sc)) (x_row := some (.loc 0)) (c0 := some (dk ds))) (e1 := E_law_k56 (x_script := some (.d sc)) (x_row := some (.loc 0)) (c0 := some (dk (tn ds))))
    (fun ds acc => E_law_k56 (x_script := some (.d sc)) (x_row := some (.loc 0)) (c0 := some (dk ds)) (c1 := some (.lst acc))) (fun _ => True) (fun y => ∃ n : Nat, y = .int (n : Nat)) (tn ds) (by simp -implicitDefEqProofs [E_law_k56, t9, hz, hz2]) (by simp [Env.open]) rfl trivial (fun i d ds acc hd _ hal hP => ⟨trivial, by
      obtain ⟨hi, rfl⟩ := rangeL_at hd
      have hs : acc.length < 16777216 := by omega
      have t5 : F_law_take_k35 C [.loc 0, .d (.int 5)] [dk ds] = .ok (.d (.int (tv ds 5))) [dk (tn ds)] := take35_ok C ds (n := 5) (by omega)
      obtain ⟨a, ha, ea⟩ := tv_nat ds (n := 5) (by omega)
      have ea : tv ds 5 = a := ea
      generalize tn ds = d1 at *
      have t50 : F_law_take_k35 C [.loc 0, .d (.int 50)] [dk d1] = .ok (.d (.int (tv d1 50))) [dk (tn d1)] := take35_ok C d1 (n := 50) (by omega)
      obtain ⟨b, hb, eb⟩ := tv_nat d1 (n := 50) (by omega)
      have eb : tv d1 50 = b := eb
      generalize tn d1 = d2 at *
      have t8 : F_law_take_k35 C [.loc 0, .d (.int 8)] [dk d2] = .ok (.d (.int (tv d2 8))) [dk (tn d2)] := take35_ok C d2 (n := 8) (by omega)
      obtain ⟨c, hc, ec⟩ := tv_nat d2 (n := 8) (by omega)
      have ec : tv d2 8 = c := ec
      have h2 := law_two_ok C c (by omega)
      generalize tn d2 = d3 at *
      have t4 : F_law_take_k35 C [.loc 0, .d (.int 4)] [dk d3] = .ok (.d (.int (tv d3 4))) [dk (tn d3)] := take35_ok C d3 (n := 4) (by omega)
      obtain ⟨x, hx, ex⟩ := tv_nat d3 (n := 4) (by omega)
      have ex : tv d3 4 = x := ex
      generalize tn d3 = d4 at *
      rw [ea] at t5; rw [eb] at t50; rw [ec] at t8; rw [ex] at t4
      generalize hy : 2 ^ c = y at *
      rcases (show x = 0 ∨ x = 1 ∨ x = 2 ∨ x = 3 by omega) with rfl | rfl | rfl | rfl
      · refine ⟨d4, .int (a : Nat), ?_, trivial, a, rfl⟩
        simp -implicitDefEqProofs [E_law_k56, sizeL, hs, t5, t50, t8, t4, h2]
      · refine ⟨d4, .int (b : Nat), ?_, trivial, b, rfl⟩
        simp -implicitDefEqProofs [E_law_k56, sizeL, hs, t5, t50, t8, t4, h2]
      · refine ⟨d4, .int (y : Nat), ?_, trivial, y, rfl⟩
        simp -implicitDefEqProofs [E_law_k56, sizeL, hs, t5, t50, t8, t4, h2]
      · refine ⟨d4, .int ((0 : Nat) : Int), ?_, trivial, 0, rfl⟩
        simp -implicitDefEqProofs [E_law_k56, sizeL, hs, t5, t50, t8, t4, h2]⟩) (fun _ _ => trivial)
  rw [rangeL_len] at h3
  obtain ⟨cs, hcs⟩ : ∃ cs : List Nat, out = natsI cs := by
    clear h1 h3
    induction out with
    | nil => exact ⟨[], rfl⟩
    | cons y out ih =>
      obtain ⟨n, rfl⟩ := h4 y (List.mem_cons_self ..)
      obtain ⟨cs, rfl⟩ := ih fun z hz => h4 z (List.mem_cons_of_mem _ hz)
      exact ⟨n :: cs, rfl⟩
  subst hcs
  refine ⟨cs, ds', ?_, by rw [natsI_len] at h3; omega⟩
  rw [h1]
  simp -implicitDefEqProofs [endL, E_law_k56]
/-! the drawn lengths -/
theorem mem_lists : ∀ l : List Int, (∀ x ∈ l, x ∈ vals) → l ∈ lists l.length
  | [], _ => by simp [lists]
  | x :: l, h => by
    rw [List.length_cons, lists, List.mem_flatMap]
    exact ⟨l, mem_lists l fun y hy => h y (List.mem_cons_of_mem _ hy), List.mem_map.mpr ⟨x, h x (List.mem_cons_self ..), rfl⟩⟩
theorem drawn_chk : [0, 1, 2, 3, 4, 5].all (fun n => (lists n).all fun l => !fullI l || (l.all (fun x => decide (0 ≤ x)) && decide (sumH (l.map Int.toNat) ≤ 2 ^ 64))) = true := by decide +kernel
theorem vals_of {x : Int} (h1 : -1 ≤ x) (h2 : x ≤ 5) : x ∈ vals := by
  unfold vals
  simp
  omega
@[simp] abbrev E56 (sc cs len u rw : D) (dr : Option W) (ds : List Int) (c1 : Option Cell := none) : Dl.Env := E_law_k56 (x_script := some (.d sc)) (x_row := some (.loc 0)) (x_counts := some (.d cs)) (x_lengths_here := some (.d len)) (x_used := some (.d u)) (x_rows := some (.d rw)) (x_drawn := dr) (c0 := some (dk ds)) (c1 := c1)
theorem k_c5 (C : Cs) (sc cs len u rw : D) (ds : List Int) : ∃ (dr ds' : List Int), fb_law_k56_c5 C (E56 sc cs len u rw none ds) = .ok (.d (.lst (dr.map .int))) (E56 sc cs len u rw none ds') ∧ dr.length ≤ 5 ∧ ∀ x ∈ dr, -1 ≤ x ∧ x ≤ 5 := by
  have t9 : F_law_take_k35 C [.loc 0, .d (.int 6)] [dk ds] = .ok (.d (.int (tv ds 6))) [dk (tn ds)] := take35_ok C ds (n := 6) (by omega)
  obtain ⟨k, hk, ek⟩ := tv_nat ds (n := 6) (by omega)
  have ek : tv ds 6 = k := ek
  rw [ek] at t9
  have hz : (k : Int) < 4611686018427387904 := by omega
  have hz2 : (-4611686018427387904 : Int) ≤ (k : Int) := by omega
  unfold fb_law_k56_c5
  obtain ⟨ds', out, h1, _, h3, h4⟩ := comp_s (S := List Int) (keep := false) (items := rangeL 0 k) (chk := fun _ => True) (it := (iRg1 (eCall 2 (F_law_take_k35 C) [0] [] [] [(eVar 1), (eC (.int 6))]))) (g := tgName 3) (t := fun e => .ok true e) (f := (eOp subD (eCall 2 (F_law_take_k35 C) [0] [] [] [(eVar 1), (eC (.int 6))]) (eCB (k1 intOf) [(eOp (blG eqB) (eCall 2 (F_law_take_k35 C) [0] [] [] [(eVar 1), (eC (.int 9))]) (eC (.int 0)))]))) (k := 1) (vs := [3])
    (e0 := E56 sc cs len u rw none ds) (e1 := E56 sc cs len u rw none (tn ds))
    (fun ds acc => E56 sc cs len u rw none ds (c1 := some (.lst acc))) (fun _ => True) (fun y => ∃ n : Int, y = .int n ∧ -1 ≤ n ∧ n ≤ 5) (tn ds) (by simp -implicitDefEqProofs [E_law_k56, t9, hz, hz2]) (by simp [Env.open]) rfl trivial (fun i d ds acc hd _ hal hP => ⟨trivial, by
      obtain ⟨hi, rfl⟩ := rangeL_at hd
      have hs : acc.length < 16777216 := by omega
      have t5 : F_law_take_k35 C [.loc 0, .d (.int 6)] [dk ds] = .ok (.d (.int (tv ds 6))) [dk (tn ds)] := take35_ok C ds (n := 6) (by omega)
      obtain ⟨a, ha, ea⟩ := tv_nat ds (n := 6) (by omega)
      have ea : tv ds 6 = a := ea
      generalize tn ds = d1 at *
      have t50 : F_law_take_k35 C [.loc 0, .d (.int 9)] [dk d1] = .ok (.d (.int (tv d1 9))) [dk (tn d1)] := take35_ok C d1 (n := 9) (by omega)
      obtain ⟨b, hb, eb⟩ := tv_nat d1 (n := 9) (by omega)
      have eb : tv d1 9 = b := eb
      generalize tn d1 = d2 at *
      rw [ea] at t5; rw [eb] at t50
      by_cases hb0 : b = 0
      · subst hb0
        refine ⟨d2, .int ((a : Int) - 1), ?_, trivial, _, rfl, by omega, by omega⟩
        simp -implicitDefEqProofs [E_law_k56, sizeL, hs, t5, t50]
      · have hbb : ((b : Int) == 0) = false := beq_false_of_ne (by omega)
        refine ⟨d2, .int ((a : Int)), ?_, trivial, _, rfl, by omega, by omega⟩
        simp -implicitDefEqProofs [E_law_k56, sizeL, hs, t5, t50, hbb]⟩) (fun _ _ => trivial)
  rw [rangeL_len] at h3
  obtain ⟨dr, hcs, hb⟩ : ∃ dr : List Int, out = dr.map .int ∧ ∀ x ∈ dr, -1 ≤ x ∧ x ≤ 5 := by
    clear h1 h3
    induction out with
    | nil => exact ⟨[], rfl, fun x h => by cases h⟩
    | cons y out ih =>
      obtain ⟨n, rfl, hn⟩ := h4 y (List.mem_cons_self ..)
      obtain ⟨cs, rfl, hh⟩ := ih fun z hz => h4 z (List.mem_cons_of_mem _ hz)
      refine ⟨n :: cs, rfl, fun x hx => ?_⟩
      rcases List.mem_cons.mp hx with rfl | hx
      · exact hn
      · exact hh x hx
  subst hcs
  refine ⟨dr, ds', ?_, by rw [List.length_map] at h3; omega, hb⟩
  rw [h1]
  simp -implicitDefEqProofs [endL, E_law_k56]
/-! the last rows -/
def rtT : SR → Bool
  | .rt (.d (.bl true)) _ => true
  | _ => false
@[simp] theorem rtT_ev {e : Dl.Env} : rtT (.rt (.d (.bl true)) e) = true := rfl
theorem rtT_of {r : SR} (h : rtT r = true) : ∃ e, r = .rt (.d (.bl true)) e := by
  unfold rtT at h
  split at h
  · exact ⟨_, rfl⟩
  · cases h
theorem counts_refused_ok (C : Cs) (l : List Int) (hl : l.length ≤ 100) (hb : ∃ x ∈ l, x < 0) : F_law_counts_refused C [.d (.lst (l.map .int))] [] = .ok (.d (.bl true)) [] := by
  have h := lengths_of_bad C l hl hb
  generalize l.map D.int = A at *
  simp -implicitDefEqProofs [F_law_counts_refused, fb_law_counts_refused, env0, h]
theorem refused_ok (C : Cs) (l : List Int) (hl : l.length ≤ 60) (hf : fullI l = false) : F_law_refused_k56 C [.d (.lst (l.map .int))] [] = .ok (.d (.bl true)) [] := by
  have h := code_of_bad C l hl hf
  generalize l.map D.int = A at *
  simp -implicitDefEqProofs [F_law_refused_k56, fb_law_refused_k56, env0, h]
theorem k_t1 (C : Cs) (sc len u rw dr : D) (cs : List Nat) (hm : cs.length ≤ 8) (ds : List Int) : ∃ e, fb_law_k56_t1 C (E56 sc (.lst (natsI cs)) len u rw (some (.d dr)) ds) = .rt (.d (.bl true)) e := by
  have t9 : F_law_take_k35 C [.loc 0, .d (.int 9)] [dk ds] = .ok (.d (.int (tv ds 9))) [dk (tn ds)] := take35_ok C ds (n := 9) (by omega)
  obtain ⟨a, ha, ea⟩ := tv_nat ds (n := 9) (by omega)
  have ea : tv ds 9 = a := ea
  generalize tn ds = d1 at *
  have t3 : F_law_take_k35 C [.loc 0, .d (.int 3000000)] [dk d1] = .ok (.d (.int (tv d1 3000000))) [dk (tn d1)] := take35_ok C d1 (n := 3000000) (by omega)
  obtain ⟨b, hb, eb⟩ := tv_nat d1 (n := 3000000) (by omega)
  have eb : tv d1 3000000 = b := eb
  generalize tn d1 = d2 at *
  have t2 : F_law_take_k35 C [.loc 0, .d (.int 2)] [dk d2] = .ok (.d (.int (tv d2 2))) [dk (tn d2)] := take35_ok C d2 (n := 2) (by omega)
  obtain ⟨x, hx, ex⟩ := tv_nat d2 (n := 2) (by omega)
  have ex : tv d2 2 = x := ex
  generalize tn d2 = d3 at *
  rw [ea] at t9; rw [eb] at t3; rw [ex] at t2
  have cr := counts_refused_ok C (castL cs ++ [-1]) (by rw [List.length_append, show (castL cs).length = cs.length from List.length_map _]; simp; omega) ⟨-1, by simp, by decide⟩
  rw [List.map_append, ← natsI_cast] at cr
  have cr : F_law_counts_refused C [.d (.lst (natsI cs ++ [.int (-1)]))] [] = .ok (.d (.bl true)) [] := cr
  have hcl := natsI_len cs
  have hc1 : cs.length + 1 ≤ 16777216 := by omega
  generalize natsI cs = NC at *
  have fin : ∀ n : Nat, n ≤ 4000000 → eqB (.lst (natsI (stepsN n))) (.lst (natsI (stepsN n))) = some true := fun n _ => by rw [eqB_nats]; simp
  rcases (show x = 0 ∨ x = 1 by omega) with rfl | rfl
  · have s1 := steps_of_ok C a (by omega)
    have s2 := law_steps_of_ok C a (by omega)
    have s3 := fin a (by omega)
    generalize natsI (stepsN a) = SN at *
    refine rtT_of ?_
    simp -implicitDefEqProofs at t2
    simp -implicitDefEqProofs [E_law_k56, fb_law_k56_t1, sizeL, t9, t3, t2, s1, s2, s3, -eqB_lst, hcl, hc1, cr]
  · have s1 := steps_of_ok C b (by omega)
    have s2 := law_steps_of_ok C b (by omega)
    have s3 := fin b (by omega)
    generalize natsI (stepsN b) = SN at *
    refine rtT_of ?_
    simp -implicitDefEqProofs at t2
    simp -implicitDefEqProofs [E_law_k56, fb_law_k56_t1, sizeL, t9, t3, t2, s1, s2, s3, -eqB_lst, hcl, hc1, cr]
theorem k_t2 (C : Cs) (sc len u rw : D) (cs : List Nat) (hm : cs.length ≤ 8) (ds dr : List Int) (hd : dr.length ≤ 5) (hb : ∀ x ∈ dr, -1 ≤ x ∧ x ≤ 5) : ∃ e, fb_law_k56_t2 C (E56 sc (.lst (natsI cs)) len u rw (some (.d (.lst (dr.map .int)))) ds) = .rt (.d (.bl true)) e := by
  obtain ⟨e, t1⟩ := k_t1 C sc len u rw (.lst (dr.map .int)) cs hm ds
  refine ⟨e, ?_⟩
  have lf := law_full_ok C dr (by omega)
  have hin : dr.length ∈ [0, 1, 2, 3, 4, 5] := by
    simp only [List.mem_cons, List.not_mem_nil, or_false]
    omega
  have hml := mem_lists dr fun x hx => vals_of (hb x hx).1 (hb x hx).2
  have hsame := List.all_eq_true.mp (List.all_eq_true.mp looks_same _ hin) _ hml
  have hsame : fullI dr = fullJ dr := by simpa using hsame
  cases hf : fullI dr with
  | true =>
    have hch := List.all_eq_true.mp (List.all_eq_true.mp drawn_chk _ hin) _ hml
    rw [hf] at hch
    simp only [Bool.not_true, Bool.false_or, Bool.and_eq_true, decide_eq_true_eq] at hch
    obtain ⟨h0, hs⟩ := hch
    have hcast : dr = castL (dr.map Int.toNat) := by
      unfold castL
      rw [List.map_map]
      conv => lhs; rw [← List.map_id dr]
      apply List.map_congr_left
      intro x hx
      have := of_decide_eq_true (List.all_eq_true.mp h0 x hx)
      show x = ((x.toNat : Nat) : Int)
      omega
    have hx : ∀ x ∈ dr.map Int.toNat, x ≤ 30 := fun x hx => by
      obtain ⟨y, hy, rfl⟩ := List.mem_map.mp hx
      have := hb y hy
      omega
    have c1 := code_of_ok C (dr.map Int.toNat) (by rw [List.length_map]; omega) hs hx (by show fullI (castL _) = true; rw [← hcast]; exact hf)
    have c2 := law_code_ok C (dr.map Int.toNat) (by rw [List.length_map]; omega) hs hx
    rw [natsI_cast, ← hcast] at c1 c2
    have c3 := eqB_rows (codeP (dr.map Int.toNat))
    rw [← hsame, hf] at lf
    simp only [E56] at t1 ⊢
    generalize rowsD (codeP (dr.map Int.toNat)) = RR at *
    generalize dr.map D.int = DR at *
    generalize natsI cs = NC at *
    simp -implicitDefEqProofs [E_law_k56] at t1
    simp -implicitDefEqProofs [E_law_k56, fb_law_k56_t2, lf, c1, c2, c3, -eqB_lst, t1]
  | false =>
    have rf := refused_ok C dr (by omega) hf
    rw [← hsame, hf] at lf
    simp only [E56] at t1 ⊢
    generalize dr.map D.int = DR at *
    generalize natsI cs = NC at *
    simp -implicitDefEqProofs [E_law_k56] at t1
    simp -implicitDefEqProofs [E_law_k56, fb_law_k56_t2, lf, rf, t1]
end Tp
end
section
set_option Elab.async false
set_option linter.all false
set_option maxRecDepth 100000
set_option maxHeartbeats 8000000
namespace Tp
open PySem L2 Dl
/-! the used rows -/
def hR : D → Option D
  | .lst (x :: xs) => some (.lst (x :: xs))
  | _ => none
def nzR (R : List (List Nat)) : List (List Nat) := R.filter fun r => !r.isEmpty
theorem hR_all : ∀ R : List (List Nat), (rowsD R).filterMap hR = rowsD (nzR R)
  | [] => rfl
  | r :: R => by
    have ih := hR_all R
    unfold rowsD nzR at *
    rw [List.map_cons, List.filterMap_cons, List.filter_cons, ih]
    cases r with
    | nil => rfl
    | cons x r => rfl
theorem k_c4 (C : Cs) (sc cs u : D) (L : List Nat) (ds : List Int) (R : List (List Nat)) (hR' : R.length ≤ 1000) (hc : F_code_of C [.d (.lst (natsI L))] [] = .ok (.d (.lst (rowsD R))) []) :
    fb_law_k56_c4 C (E_law_k56 (x_script := some (.d sc)) (x_row := some (.loc 0)) (x_counts := some (.d cs)) (x_lengths_here := some (.d (.lst (natsI L)))) (x_used := some (.d u)) (c0 := some (dk ds))) =
    .ok (.d (.lst (rowsD (nzR R)))) (E_law_k56 (x_script := some (.d sc)) (x_row := some (.loc 0)) (x_counts := some (.d cs)) (x_lengths_here := some (.d (.lst (natsI L)))) (x_used := some (.d u)) (c0 := some (dk ds))) := by
  unfold fb_law_k56_c4
  rw [comp_e (n := 1000) (items := rowsD R) (chk := fun _ => True) hR (e1 := E_law_k56 (x_script := some (.d sc)) (x_row := some (.loc 0)) (x_counts := some (.d cs)) (x_lengths_here := some (.d (.lst (natsI L)))) (x_used := some (.d u)) (c0 := some (dk ds))) (by generalize natsI L = NL at *; generalize rowsD R = RR at *; simp -implicitDefEqProofs [E_law_k56, hc]) (by simp [Env.open]) (by rw [rowsD_len]; exact hR') (by rw [sizeL]; omega) rfl (fun i d acc hd ha => ⟨trivial, by
    have hs : acc.length < 16777216 := by omega
    unfold rowsD at hd
    obtain ⟨hi, rfl⟩ := map_at hd
    generalize R[i] = r
    have q : eqB (.lst (natsI r)) (.lst []) = some (decide (r = [])) := eqB_nats r []
    cases r with
    | nil =>
      have q : eqB (.lst []) (.lst []) = some true := q
      simp -implicitDefEqProofs [E_law_k56, natsI, hR, q, -eqB_lst]
    | cons x r =>
      rw [decide_eq_false (by simp)] at q
      have e : natsI (x :: r) = .int (x : Nat) :: natsI r := rfl
      rw [e] at q ⊢
      simp -implicitDefEqProofs [E_law_k56, sizeL, hs, hR, q, -eqB_lst]⟩) (fun _ => trivial), hR_all]
  simp -implicitDefEqProofs [endL, E_law_k56]
@[simp] abbrev Er (sc cs len u : D) (R : D) (fi : Option W) (ds : List Int) : Dl.Env := E_law_k56 (x_script := some (.d sc)) (x_row := some (.loc 0)) (x_counts := some (.d cs)) (x_lengths_here := some (.d len)) (x_used := some (.d u)) (x_rows := some (.d R)) (x_first := fi) (c0 := some (dk ds))
theorem k_l2 (C : Cs) (sc cs len u : D) (ds : List Int) (R : List (List Nat)) (a : List Nat) (ha : a.length ≤ 1000) (h : ∀ b ∈ R, a ≠ b → b.take a.length ≠ a) :
    fb_law_k56_l2 C (Er sc cs len u (.lst (rowsD R)) (some (.d (.lst (natsI a)))) ds) = .nx (Er sc cs len u (.lst (rowsD R)) (some (.d (.lst (natsI a)))) ds) := by
  unfold fb_law_k56_l2
  refine for_e (items := rowsD R) (chk := fun _ => True) (fun i => Er sc cs len u (.lst (rowsD R)) (some (.d (.lst (natsI a)))) ds) (by simp -implicitDefEqProofs [E_law_k56]) (fun i d hd => ⟨trivial, ?_⟩) trivial
  unfold rowsD at hd
  obtain ⟨hi, rfl⟩ := map_at hd
  have hb := h _ (List.getElem_mem hi)
  generalize R[i] = b at *
  have q := eqB_nats a b
  have hcut : cutL (natsI b) none (some (a.length : Int)) = natsI (b.take a.length) := by
    rw [cutL_to]
    unfold natsI
    rw [List.map_take]
  have hal := natsI_len a
  by_cases hab : a = b
  · rw [decide_eq_true hab] at q
    simp only [Er]
    generalize natsI a = NA at *
    generalize natsI b = NB at *
    generalize rowsD R = RR at *
    simp -implicitDefEqProofs [E_law_k56, fb_law_k56_l2b, q, -eqB_lst]
  · rw [decide_eq_false hab] at q
    have q2 := eqB_nats (b.take a.length) a
    rw [decide_eq_false (hb hab)] at q2
    simp only [Er]
    generalize natsI (b.take a.length) = NT at *
    generalize natsI a = NA at *
    generalize natsI b = NB at *
    generalize rowsD R = RR at *
    simp -implicitDefEqProofs [E_law_k56, fb_law_k56_l2b, q, q2, -eqB_lst, hal, hcut]
theorem k_l1 (C : Cs) (sc cs len u : D) (ds : List Int) (R : List (List Nat)) (hl : ∀ a ∈ R, a.length ≤ 1000) (h : ∀ a ∈ R, ∀ b ∈ R, a ≠ b → b.take a.length ≠ a) :
    fb_law_k56_l1 C (Er sc cs len u (.lst (rowsD R)) none ds) = .nx (Er sc cs len u (.lst (rowsD R)) none ds) := by
  unfold fb_law_k56_l1
  refine for_e (items := rowsD R) (chk := fun _ => True) (fun i => Er sc cs len u (.lst (rowsD R)) none ds) (by simp -implicitDefEqProofs [E_law_k56]) (fun i d hd => ⟨trivial, ?_⟩) trivial
  unfold rowsD at hd
  obtain ⟨hi, rfl⟩ := map_at hd
  have ha := h _ (List.getElem_mem hi)
  have l2 := k_l2 C sc cs len u ds R R[i] (hl _ (List.getElem_mem hi)) ha
  simp only [Er] at l2 ⊢
  generalize natsI R[i] = NA at *
  generalize rowsD R = RR at *
  simp -implicitDefEqProofs [E_law_k56] at l2
  simp -implicitDefEqProofs [E_law_k56, fb_law_k56_l1b, l2]
theorem codeR_len : ∀ (ps : List (Nat × Nat)) (n z : Nat) (R : List (List Nat)), (codeR ps n z R).length = R.length
  | [], _, _, _ => rfl
  | (l, s) :: ps, n, z, R => by rw [codeR, codeR_len ps, List.length_set]
theorem codeP_len (ls : List Nat) : (codeP ls).length = ls.length := by unfold codeP; rw [codeR_len, List.length_map]
theorem code_row_len (ls : List Nat) (hs : sumH ls ≤ 2 ^ 64) (hb : ∀ x ∈ ls, x ≤ 30) : ∀ r ∈ codeP ls, r.length ≤ 30 := fun r hr => by
  have hst := CI.start ls hs hb
  rcases codeR_mem _ _ _ _ _ hr with h | ⟨p, hp, rfl⟩
  · obtain ⟨x, _, rfl⟩ := List.mem_map.mp h
    simp
  · rw [digits_len]
    have : ∀ (l : List Nat) (n z : Nat), ∀ p ∈ nums n z l, p.2 ∈ l := by
      intro l
      induction l with
      | nil => intro n z p hp; rw [nums] at hp; cases hp
      | cons x l ih =>
        intro n z p hp
        rw [nums] at hp
        rcases List.mem_cons.mp hp with rfl | hp
        · exact List.mem_cons_self ..
        · exact List.mem_cons_of_mem _ (ih _ _ p hp)
    obtain ⟨q, hq, e⟩ := List.mem_map.mp (this _ _ _ p hp)
    rw [← e]
    exact (hst.bd q hq).1
theorem k_t3 (C : Cs) (sc u : D) (cs L : List Nat) (hm : cs.length ≤ 8) (hL : L.length ≤ 8) (hs : sumH L ≤ 2 ^ 64) (hb : ∀ x ∈ L, x ≤ 30) (hf : fullI (castL L) = true) (ds : List Int) :
    ∃ e, fb_law_k56_t3 C (E_law_k56 (x_script := some (.d sc)) (x_row := some (.loc 0)) (x_counts := some (.d (.lst (natsI cs)))) (x_lengths_here := some (.d (.lst (natsI L)))) (x_used := some (.d u)) (c0 := some (dk ds))) = .rt (.d (.bl true)) e := by
  have co := code_of_ok C L (by omega) hs hb hf
  have c4 := k_c4 C sc (.lst (natsI cs)) u L ds (codeP L) (by rw [codeP_len]; omega) co
  have hnz : ∀ r ∈ nzR (codeP L), r ∈ codeP L ∧ r ≠ [] := fun r hr => by
    unfold nzR at hr
    rw [List.mem_filter] at hr
    refine ⟨hr.1, fun e => ?_⟩
    rw [e] at hr
    simp at hr
  have l1 := k_l1 C sc (.lst (natsI cs)) (.lst (natsI L)) u ds (nzR (codeP L)) (fun a ha => by have := code_row_len L hs hb a (hnz a ha).1; omega)
    (fun a ha b hb' hab => code_apart L hs hb (hnz a ha).1 (hnz b hb').1 (hnz a ha).2 (hnz b hb').2 hab)
  obtain ⟨dr, ds', c5, hd, hdb⟩ := k_c5 C sc (.lst (natsI cs)) (.lst (natsI L)) u (.lst (rowsD (nzR (codeP L)))) ds
  have fo := is_full_ok C dr (by omega)
  have lf := law_full_ok C dr (by omega)
  have hin : dr.length ∈ [0, 1, 2, 3, 4, 5] := by
    simp only [List.mem_cons, List.not_mem_nil, or_false]
    omega
  have hml := mem_lists dr fun x hx => vals_of (hdb x hx).1 (hdb x hx).2
  have hsame := List.all_eq_true.mp (List.all_eq_true.mp looks_same _ hin) _ hml
  have hsame : fullI dr = fullJ dr := by simpa using hsame
  rw [← hsame] at lf
  obtain ⟨e, t2⟩ := k_t2 C sc (.lst (natsI L)) u (.lst (rowsD (nzR (codeP L)))) cs hm ds' dr hd hdb
  refine ⟨e, ?_⟩
  simp only [Er, E56] at c4 l1 c5 t2 ⊢
  generalize rowsD (nzR (codeP L)) = RR at *
  generalize dr.map D.int = DR at *
  generalize natsI cs = NC at *
  generalize natsI L = NL at *
  generalize fullI dr = bb at *
  simp -implicitDefEqProofs [E_law_k56] at c4 l1 c5 t2
  simp -implicitDefEqProofs [E_law_k56, fb_law_k56_t3, c4, l1, c5, fo, lf, t2]
/-! the cost -/
theorem k_c2 (C : Cs) (sc len : D) (cs : List Nat) (hl : cs.length ≤ 1000) (ds : List Int) : fb_law_k56_c2 C (E_law_k56 (x_script := some (.d sc)) (x_row := some (.loc 0)) (x_counts := some (.d (.lst (natsI cs)))) (x_lengths_here := some (.d len)) (c0 := some (dk ds))) =
    .ok (.d (.lst (natsI (posL cs)))) (E_law_k56 (x_script := some (.d sc)) (x_row := some (.loc 0)) (x_counts := some (.d (.lst (natsI cs)))) (x_lengths_here := some (.d len)) (c0 := some (dk ds))) := by
  unfold fb_law_k56_c2
  rw [natsI_cast cs, comp_ints (chk := fun _ => True) (e1 := E_law_k56 (x_script := some (.d sc)) (x_row := some (.loc 0)) (x_counts := some (.d (.lst ((castL cs).map .int)))) (x_lengths_here := some (.d len)) (c0 := some (dk ds))) (fun x => decide (0 < x)) (castL cs) (by generalize (castL cs).map D.int = A; simp -implicitDefEqProofs [E_law_k56]) (by simp [Env.open]) (by rw [show (castL cs).length = cs.length from List.length_map _]; omega) rfl (fun i x acc hx ha => ⟨trivial, by
    generalize (castL cs).map D.int = A
    by_cases h : 0 < x
    · simp -implicitDefEqProofs [E_law_k56, sizeL, ha, h]
    · simp -implicitDefEqProofs [E_law_k56, sizeL, ha, h]⟩) (fun _ => trivial)]
  have e : (castL cs).filter (fun x => decide (0 < x)) = castL (posL cs) := by
    unfold castL posL
    rw [List.filter_map]
    congr 1
    apply List.filter_congr
    intro x _
    rw [Bool.eq_iff_iff]
    simp
  rw [e, natsI_cast (posL cs)]
  generalize (castL cs).map D.int = A
  simp -implicitDefEqProofs [endL, E_law_k56]
theorem k_c3 (C : Cs) (sc u : D) (cs L : List Nat) (hl : L.length = cs.length) (hc : cs.length ≤ 1000) (h4 : ∀ x ∈ L, x ≤ 30) (ds : List Int) :
    fb_law_k56_c3 C (E_law_k56 (x_script := some (.d sc)) (x_row := some (.loc 0)) (x_counts := some (.d (.lst (natsI cs)))) (x_lengths_here := some (.d (.lst (natsI L)))) (x_used := some (.d u)) (c0 := some (dk ds))) =
    .ok (.d (.lst (((List.range cs.length).map fun k => ((cs.getD k 0 * L.getD k 0 : Nat) : Int)).map .int))) (E_law_k56 (x_script := some (.d sc)) (x_row := some (.loc 0)) (x_counts := some (.d (.lst (natsI cs)))) (x_lengths_here := some (.d (.lst (natsI L)))) (x_used := some (.d u)) (c0 := some (dk ds))) := by
  unfold fb_law_k56_c3
  have hz : (cs.length : Int) < 4611686018427387904 := by omega
  have hz2 : (-4611686018427387904 : Int) ≤ (cs.length : Int) := by omega
  have hnl := natsI_len cs
  rw [comp_m (n := 1000) (items := rangeL 0 cs.length) (chk := fun _ => True) (((List.range cs.length).map fun k => ((cs.getD k 0 * L.getD k 0 : Nat) : Int)).map .int) (e1 := E_law_k56 (x_script := some (.d sc)) (x_row := some (.loc 0)) (x_counts := some (.d (.lst (natsI cs)))) (x_lengths_here := some (.d (.lst (natsI L)))) (x_used := some (.d u)) (c0 := some (dk ds))) (by simp -implicitDefEqProofs [E_law_k56, hnl, hz, hz2]) (by simp [Env.open]) (by rw [rangeL_len]; exact hc) (by rw [sizeL]; omega) rfl (by rw [List.length_map, List.length_map, rangeL_len, List.length_range]) (fun i d y acc hd hy ha => ⟨trivial, by
    obtain ⟨hi, rfl⟩ := rangeL_at hd
    rw [List.getElem?_map, List.getElem?_map, List.getElem?_range hi] at hy
    cases hy
    have a1 : atI (natsI cs) (i : Int) = some (.int (cs.getD i 0 : Nat)) := by rw [Dl.atI_nat, natsI_getD hi]
    have a2 : atI (natsI L) (i : Int) = some (.int (L.getD i 0 : Nat)) := by rw [Dl.atI_nat, natsI_getD (by omega)]
    have hx : L.getD i 0 ≤ 30 := by
      rw [List.getD_eq_getElem?_getD, List.getElem?_eq_getElem (by omega)]
      exact h4 _ (List.getElem_mem _)
    dsimp only
    rw [Int.natCast_mul]
    have cm : CMul (cs.getD i 0 : Nat) (L.getD i 0 : Nat) := cmulR _ _ (by constructor <;> omega)
    generalize ((cs.getD i 0 : Nat) : Int) = u at *
    generalize ((L.getD i 0 : Nat) : Int) = v at *
    have hs : acc.length < 16777216 := by omega
    simp -implicitDefEqProofs [E_law_k56, sizeL, hs, a1, a2, cm]⟩) (fun _ => trivial)]
  simp -implicitDefEqProofs [endL, E_law_k56]
theorem k_t4 (C : Cs) (sc : D) (cs : List Nat) (hm : cs.length ≤ 8) (ds : List Int) :
    ∃ e, fb_law_k56_t4 C (E_law_k56 (x_script := some (.d sc)) (x_row := some (.loc 0)) (x_counts := some (.d (.lst (natsI cs)))) (x_lengths_here := some (.d (.lst (natsI (lensP cs))))) (c0 := some (dk ds))) = .rt (.d (.bl true)) e := by
  have lk := lens_ok cs (by omega)
  have hsm := lk.small (by omega)
  have hF : FullN (posL (lensP cs)) := by rw [lk.pos]; exact lk.full
  have c2 := k_c2 C sc (.lst (natsI (lensP cs))) cs (by omega) ds
  obtain ⟨e, t3⟩ := k_t3 C sc (.lst (natsI (posL cs))) cs (lensP cs) hm (by rw [lk.len]; exact hm) (sumH_of _ hF) hsm (fullI_of _ hF) ds
  refine ⟨e, ?_⟩
  obtain ⟨ms, c3, hms⟩ : ∃ ms : List Int, fb_law_k56_c3 C (E_law_k56 (x_script := some (.d sc)) (x_row := some (.loc 0)) (x_counts := some (.d (.lst (natsI cs)))) (x_lengths_here := some (.d (.lst (natsI (lensP cs))))) (x_used := some (.d (.lst (natsI (posL cs))))) (c0 := some (dk ds))) = .ok (.d (.lst (ms.map .int))) (E_law_k56 (x_script := some (.d sc)) (x_row := some (.loc 0)) (x_counts := some (.d (.lst (natsI cs)))) (x_lengths_here := some (.d (.lst (natsI (lensP cs))))) (x_used := some (.d (.lst (natsI (posL cs))))) (c0 := some (dk ds))) ∧ ms.sum = ((dot cs (lensP cs) : Nat) : Int) :=
    ⟨_, k_c3 C sc _ cs (lensP cs) lk.len (by omega) hsm ds, by rw [dot_range cs _ lk.len.symm, ← sum_cast, List.map_map]; rfl⟩
  have hpe : posL cs = (usedS cs).map fun i => cs.getD i 0 := used_counts cs
  have hpl : (posL cs).length = (usedS cs).length := by rw [hpe, List.length_map]
  have hnl := natsI_len (posL cs)
  by_cases hin : 1 ≤ (usedS cs).length ∧ (usedS cs).length ≤ 4
  · have ll := law_least_ok C (posL cs) (by omega)
    rw [hpl] at ll
    have lo := least_ok cs (by omega) hin.1 hin.2
    rw [← hpe] at lo
    rw [lo] at ll
    have ll : F_law_least C [.d (.lst (natsI (posL cs))), .d (.int 4)] [] = .ok (.d (.int (dot cs (lensP cs) : Nat))) [] := ll
    have g1 : (0 : Int) < ((posL cs).length : Int) := by omega
    have g2 : ((posL cs).length : Int) ≤ 4 := by omega
    have g1' : 0 < (posL cs).length := by omega
    have g2' : (posL cs).length ≤ 4 := by omega
    generalize dot cs (lensP cs) = dd at *
    generalize natsI (posL cs) = NU at *
    generalize natsI cs = NC at *
    generalize natsI (lensP cs) = NL at *
    generalize (posL cs).length = pl at *
    simp -implicitDefEqProofs [E_law_k56] at c2 c3 t3
    simp -implicitDefEqProofs [E_law_k56, fb_law_k56_t4, c2, c3, hnl, g1, g1', g2, g2', ll, hms, t3, Rs.bind]
  · generalize natsI (posL cs) = NU at *
    generalize natsI cs = NC at *
    generalize natsI (lensP cs) = NL at *
    generalize (posL cs).length = pl at *
    simp -implicitDefEqProofs [E_law_k56] at c2 t3
    by_cases g1 : (0 : Int) < (pl : Int)
    · have g2 : ¬ (pl : Int) ≤ 4 := by omega
      have g1' : 0 < pl := by omega
      simp -implicitDefEqProofs [E_law_k56, fb_law_k56_t4, c2, hnl, g1, g1', g2, t3, Rs.bind]
    · have g1' : ¬ 0 < pl := by omega
      simp -implicitDefEqProofs [E_law_k56, fb_law_k56_t4, c2, hnl, g1, g1', t3, Rs.bind]
theorem law_k56_true (C : Cs) (hx1 : C.TopiaryError ≠ C.InvalidCounts) (hx2 : C.TopiaryError ≠ C.InvalidLengths) (ns : List Int) (hns : ns.length ≤ 63) : ∃ cs, F_law_k56 C [.d (.rd (ns.map .int))] [] = .ok (.d (.bl true)) cs := by
  obtain ⟨ds, h1⟩ := numbers_ok C ns hns 60 (by omega)
  obtain ⟨cs, ds', c1, hm⟩ := k_c1 C (.rd (ns.map .int)) ds
  have lk := lens_ok cs (by omega)
  have hsm := lk.small (by omega)
  have hF : FullN (posL (lensP cs)) := by rw [lk.pos]; exact lk.full
  have a1 := lengths_of_ok C cs (by omega)
  have a2 := law_lengths_ok C cs (by omega)
  have a3 := is_full_ok C (castL (lensP cs)) (by rw [show (castL (lensP cs)).length = (lensP cs).length from List.length_map _, lk.len]; omega)
  rw [fullI_of _ hF, ← natsI_cast] at a3
  have a4 := code_of_ok C (lensP cs) (by rw [lk.len]; omega) (sumH_of _ hF) hsm (fullI_of _ hF)
  have a5 := law_code_ok C (lensP cs) (by rw [lk.len]; omega) (sumH_of _ hF) hsm
  have q1 := eqB_nats (lensP cs) (lensP cs)
  rw [decide_eq_true rfl] at q1
  have q2 := eqB_rows (codeP (lensP cs))
  obtain ⟨e, t4⟩ := k_t4 C (.rd (ns.map .int)) cs hm ds'
  refine ⟨[], ?_⟩
  have h1 : F_law_numbers_k36 C [.d (.rd (ns.map .int)), .d (.int 60)] [] = .ok (.loc 0) [dk ds] := h1
  generalize ns.map D.int = NS at *
  generalize rowsD (codeP (lensP cs)) = RR at *
  generalize natsI cs = NC at *
  generalize natsI (lensP cs) = NL at *
  simp -implicitDefEqProofs [E_law_k56] at c1 t4
  simp -implicitDefEqProofs [F_law_k56, fb_law_k56, env0, h1, c1, a1, a2, a3, a4, a5, q1, q2, -eqB_lst, t4]
end Tp
end
section
set_option Elab.async false
set_option linter.all false
set_option maxRecDepth 100000
set_option maxHeartbeats 0
namespace Wk
open PySem PySem.Spec PyProof.Rows L2 Dl Tp
def hd_lengths_of : He.DefD := ⟨("lengths_of", none), "lengths_of", "lengths_of", defArgs s_lengths_of, defBody s_lengths_of, defScope s_lengths_of, [], []⟩
def hd_is_full : He.DefD := ⟨("is_full", none), "is_full", "is_full", defArgs s_is_full, defBody s_is_full, defScope s_is_full, [], []⟩
def hd_digits_of : He.DefD := ⟨("digits_of", none), "digits_of", "digits_of", defArgs s_digits_of, defBody s_digits_of, defScope s_digits_of, [], []⟩
def hd_code_of : He.DefD := ⟨("code_of", none), "code_of", "code_of", defArgs s_code_of, defBody s_code_of, defScope s_code_of, [], []⟩
def hd_steps_of : He.DefD := ⟨("steps_of", none), "steps_of", "steps_of", defArgs s_steps_of, defBody s_steps_of, defScope s_steps_of, [], []⟩
def hd_law_mix : He.DefD := ⟨("_law_mix", none), "_law_mix", "_law_mix", defArgs s_law_mix, defBody s_law_mix, defScope s_law_mix, [], []⟩
def hd_law_numbers_k36 : He.DefD := ⟨("_law_numbers", none), "_law_numbers", "_law_numbers", defArgs s_law_numbers_k36, defBody s_law_numbers_k36, defScope s_law_numbers_k36, [], []⟩
def hd_law_take_k35 : He.DefD := ⟨("_law_take", none), "_law_take", "_law_take", defArgs s_law_take_k35, defBody s_law_take_k35, defScope s_law_take_k35, [], []⟩
def hd_law_two : He.DefD := ⟨("_law_two", none), "_law_two", "_law_two", defArgs s_law_two, defBody s_law_two, defScope s_law_two, [], []⟩
def hd_law_lengths : He.DefD := ⟨("_law_lengths", none), "_law_lengths", "_law_lengths", defArgs s_law_lengths, defBody s_law_lengths, defScope s_law_lengths, [], []⟩
def hd_law_full : He.DefD := ⟨("_law_full", none), "_law_full", "_law_full", defArgs s_law_full, defBody s_law_full, defScope s_law_full, [], []⟩
def hd_law_bits_k56 : He.DefD := ⟨("_law_bits", none), "_law_bits", "_law_bits", defArgs s_law_bits_k56, defBody s_law_bits_k56, defScope s_law_bits_k56, [], []⟩
def hd_law_code : He.DefD := ⟨("_law_code", none), "_law_code", "_law_code", defArgs s_law_code, defBody s_law_code, defScope s_law_code, [], []⟩
def hd_law_steps_of : He.DefD := ⟨("_law_steps_of", none), "_law_steps_of", "_law_steps_of", defArgs s_law_steps_of, defBody s_law_steps_of, defScope s_law_steps_of, [], []⟩
def hd_law_least : He.DefD := ⟨("_law_least", none), "_law_least", "_law_least", defArgs s_law_least, defBody s_law_least, defScope s_law_least, [], []⟩
def hd_law_refused_k56 : He.DefD := ⟨("_law_refused", none), "_law_refused", "_law_refused", defArgs s_law_refused_k56, defBody s_law_refused_k56, defScope s_law_refused_k56, [], []⟩
def hd_law_counts_refused : He.DefD := ⟨("_law_counts_refused", none), "_law_counts_refused", "_law_counts_refused", defArgs s_law_counts_refused, defBody s_law_counts_refused, defScope s_law_counts_refused, [], []⟩
def hd_law_k56 : He.DefD := ⟨("law", none), "law", "law", defArgs s_law_k56, defBody s_law_k56, defScope s_law_k56, [], []⟩
def hd_fn : List He.DefD := [hd_lengths_of, hd_is_full, hd_digits_of, hd_code_of, hd_steps_of, hd_law_mix, hd_law_numbers_k36, hd_law_take_k35, hd_law_two, hd_law_lengths, hd_law_full, hd_law_bits_k56, hd_law_code, hd_law_steps_of, hd_law_least, hd_law_refused_k56, hd_law_counts_refused, hd_law_k56]
def hd_fa : List He.Fa := [.glo "TopiaryError", .glo "InvalidCounts", .glo "InvalidLengths", .glo "lengths_of", .glo "is_full", .glo "digits_of", .glo "code_of", .glo "steps_of", .glo "_law_mix", .glo "_law_numbers", .glo "_law_take", .glo "_law_two", .glo "_law_lengths", .glo "_law_full", .glo "_law_bits", .glo "_law_code", .glo "_law_steps_of", .glo "_law_least", .glo "_law_refused", .glo "_law_counts_refused", .glo "law", .free "any", .free "enumerate", .free "int", .free "len", .free "list", .free "max", .free "min", .free "range", .free "sorted", .free "sum"]
def hd_z : List PySem.Str := ["TopiaryError", "InvalidCounts", "InvalidLengths"]
def hd_x : List (PySem.Str × List PySem.Str) := []
def hd_p : List XPair := [("TopiaryError", "InvalidCounts", false), ("TopiaryError", "InvalidLengths", false)]
theorem tx {K : PySem.W.Frag} {h : Heap} {mg : Str → Option Value} (X : K.In h) (G : h.Ns mainGlobals mg) (c0 : SaysXz hd_x hd_z hd_p hd_fa hd_fn K) : ∃ T : Tx K mg, T.f_law_k56 = He.ga K "law" := by
  have c := c0.d
  obtain ⟨fd0, FD0⟩ := c.def_ 0 (d := hd_lengths_of) rfl
  obtain ⟨fd1, FD1⟩ := c.def_ 1 (d := hd_is_full) rfl
  obtain ⟨fd2, FD2⟩ := c.def_ 2 (d := hd_digits_of) rfl
  obtain ⟨fd3, FD3⟩ := c.def_ 3 (d := hd_code_of) rfl
  obtain ⟨fd4, FD4⟩ := c.def_ 4 (d := hd_steps_of) rfl
  obtain ⟨fd5, FD5⟩ := c.def_ 5 (d := hd_law_mix) rfl
  obtain ⟨fd6, FD6⟩ := c.def_ 6 (d := hd_law_numbers_k36) rfl
  obtain ⟨fd7, FD7⟩ := c.def_ 7 (d := hd_law_take_k35) rfl
  obtain ⟨fd8, FD8⟩ := c.def_ 8 (d := hd_law_two) rfl
  obtain ⟨fd9, FD9⟩ := c.def_ 9 (d := hd_law_lengths) rfl
  obtain ⟨fd10, FD10⟩ := c.def_ 10 (d := hd_law_full) rfl
  obtain ⟨fd11, FD11⟩ := c.def_ 11 (d := hd_law_bits_k56) rfl
  obtain ⟨fd12, FD12⟩ := c.def_ 12 (d := hd_law_code) rfl
  obtain ⟨fd13, FD13⟩ := c.def_ 13 (d := hd_law_steps_of) rfl
  obtain ⟨fd14, FD14⟩ := c.def_ 14 (d := hd_law_least) rfl
  obtain ⟨fd15, FD15⟩ := c.def_ 15 (d := hd_law_refused_k56) rfl
  obtain ⟨fd16, FD16⟩ := c.def_ 16 (d := hd_law_counts_refused) rfl
  obtain ⟨fd17, FD17⟩ := c.def_ 17 (d := hd_law_k56) rfl
  exact ⟨{ C_TopiaryError := He.ga K "TopiaryError", C_InvalidCounts := He.ga K "InvalidCounts", C_InvalidLengths := He.ga K "InvalidLengths", f_lengths_of := He.ga K "lengths_of", d_lengths_of := fd0, f_is_full := He.ga K "is_full", d_is_full := fd1, f_digits_of := He.ga K "digits_of", d_digits_of := fd2, f_code_of := He.ga K "code_of", d_code_of := fd3, f_steps_of := He.ga K "steps_of", d_steps_of := fd4, f_law_mix := He.ga K "_law_mix", d_law_mix := fd5, f_law_numbers_k36 := He.ga K "_law_numbers", d_law_numbers_k36 := fd6, f_law_take_k35 := He.ga K "_law_take", d_law_take_k35 := fd7, f_law_two := He.ga K "_law_two", d_law_two := fd8, f_law_lengths := He.ga K "_law_lengths", d_law_lengths := fd9, f_law_full := He.ga K "_law_full", d_law_full := fd10, f_law_bits_k56 := He.ga K "_law_bits", d_law_bits_k56 := fd11, f_law_code := He.ga K "_law_code", d_law_code := fd12, f_law_steps_of := He.ga K "_law_steps_of", d_law_steps_of := fd13, f_law_least := He.ga K "_law_least", d_law_least := fd14, f_law_refused_k56 := He.ga K "_law_refused", d_law_refused_k56 := fd15, f_law_counts_refused := He.ga K "_law_counts_refused", d_law_counts_refused := fd16, f_law_k56 := He.ga K "law", d_law_k56 := fd17, F_lengths_of := FD0, F_is_full := FD1, F_digits_of := FD2, F_code_of := FD3, F_steps_of := FD4, F_law_mix := FD5, F_law_numbers_k36 := FD6, F_law_take_k35 := FD7, F_law_two := FD8, F_law_lengths := FD9, F_law_full := FD10, F_law_bits_k56 := FD11, F_law_code := FD12, F_law_steps_of := FD13, F_law_least := FD14, F_law_refused_k56 := FD15, F_law_counts_refused := FD16, F_law_k56 := FD17, xn_TopiaryError_InvalidCounts := (c0.p 0 (x := ("TopiaryError", "InvalidCounts", false)) rfl), xn_TopiaryError_InvalidLengths := (c0.p 1 (x := ("TopiaryError", "InvalidLengths", false)) rfl), g_TopiaryError := He.glo_ok X G (c.fact 0 (f := .glo "TopiaryError") rfl), z_TopiaryError := (xB0_ok (x := "TopiaryError") (c0.z 0)).1, xe_TopiaryError := (xB0_ok (x := "TopiaryError") (c0.z 0)).2, g_InvalidCounts := He.glo_ok X G (c.fact 1 (f := .glo "InvalidCounts") rfl), z_InvalidCounts := (xB0_ok (x := "InvalidCounts") (c0.z 1)).1, xe_InvalidCounts := (xB0_ok (x := "InvalidCounts") (c0.z 1)).2, g_InvalidLengths := He.glo_ok X G (c.fact 2 (f := .glo "InvalidLengths") rfl), z_InvalidLengths := (xB0_ok (x := "InvalidLengths") (c0.z 2)).1, xe_InvalidLengths := (xB0_ok (x := "InvalidLengths") (c0.z 2)).2, m_lengths_of := He.glo_ok X G (c.fact 3 (f := .glo "lengths_of") rfl), k_lengths_of := FD0.kp, m_is_full := He.glo_ok X G (c.fact 4 (f := .glo "is_full") rfl), k_is_full := FD1.kp, m_digits_of := He.glo_ok X G (c.fact 5 (f := .glo "digits_of") rfl), k_digits_of := FD2.kp, m_code_of := He.glo_ok X G (c.fact 6 (f := .glo "code_of") rfl), k_code_of := FD3.kp, m_steps_of := He.glo_ok X G (c.fact 7 (f := .glo "steps_of") rfl), k_steps_of := FD4.kp, m_law_mix := He.glo_ok X G (c.fact 8 (f := .glo "_law_mix") rfl), k_law_mix := FD5.kp, m_law_numbers_k36 := He.glo_ok X G (c.fact 9 (f := .glo "_law_numbers") rfl), k_law_numbers_k36 := FD6.kp, m_law_take_k35 := He.glo_ok X G (c.fact 10 (f := .glo "_law_take") rfl), k_law_take_k35 := FD7.kp, m_law_two := He.glo_ok X G (c.fact 11 (f := .glo "_law_two") rfl), k_law_two := FD8.kp, m_law_lengths := He.glo_ok X G (c.fact 12 (f := .glo "_law_lengths") rfl), k_law_lengths := FD9.kp, m_law_full := He.glo_ok X G (c.fact 13 (f := .glo "_law_full") rfl), k_law_full := FD10.kp, m_law_bits_k56 := He.glo_ok X G (c.fact 14 (f := .glo "_law_bits") rfl), k_law_bits_k56 := FD11.kp, m_law_code := He.glo_ok X G (c.fact 15 (f := .glo "_law_code") rfl), k_law_code := FD12.kp, m_law_steps_of := He.glo_ok X G (c.fact 16 (f := .glo "_law_steps_of") rfl), k_law_steps_of := FD13.kp, m_law_least := He.glo_ok X G (c.fact 17 (f := .glo "_law_least") rfl), k_law_least := FD14.kp, m_law_refused_k56 := He.glo_ok X G (c.fact 18 (f := .glo "_law_refused") rfl), k_law_refused_k56 := FD15.kp, m_law_counts_refused := He.glo_ok X G (c.fact 19 (f := .glo "_law_counts_refused") rfl), k_law_counts_refused := FD16.kp, m_law_k56 := He.glo_ok X G (c.fact 20 (f := .glo "law") rfl), k_law_k56 := FD17.kp, b_any := He.free_ok X G (c.fact 21 (f := .free "any") rfl), b_enumerate := He.free_ok X G (c.fact 22 (f := .free "enumerate") rfl), b_int := He.free_ok X G (c.fact 23 (f := .free "int") rfl), b_len := He.free_ok X G (c.fact 24 (f := .free "len") rfl), b_list := He.free_ok X G (c.fact 25 (f := .free "list") rfl), b_max := He.free_ok X G (c.fact 26 (f := .free "max") rfl), b_min := He.free_ok X G (c.fact 27 (f := .free "min") rfl), b_range := He.free_ok X G (c.fact 28 (f := .free "range") rfl), b_sorted := He.free_ok X G (c.fact 29 (f := .free "sorted") rfl), b_sum := He.free_ok X G (c.fact 30 (f := .free "sum") rfl) }, rfl⟩
section
variable {P : Program} {w : World} {K : PySem.W.Frag} {mg : Str → Option Value} {base : Heap}
theorem al_lengths_of (T : Tx K mg) : FnOk P w K mg base (L2.CX P w) 3 T.f_lengths_of T.d_lengths_of ["counts"] (spD K 1 (F_lengths_of T.C)) := ok_lengths_of T
theorem al_is_full (T : Tx K mg) : FnOk P w K mg base (L2.CX P w) 1 T.f_is_full T.d_is_full ["lengths"] (spD K 1 (F_is_full T.C)) := ok_is_full T
theorem al_digits_of (T : Tx K mg) : FnOk P w K mg base (L2.CX P w) 1 T.f_digits_of T.d_digits_of ["number", "size"] (spD K 2 (F_digits_of T.C)) := ok_digits_of T
theorem al_code_of (T : Tx K mg) : FnOk P w K mg base (L2.CX P w) 3 T.f_code_of T.d_code_of ["lengths"] (spD K 1 (F_code_of T.C)) := ok_code_of T (al_digits_of T) (al_is_full T)
theorem al_steps_of (T : Tx K mg) : FnOk P w K mg base (L2.CX P w) 2 T.f_steps_of T.d_steps_of ["number"] (spD K 1 (F_steps_of T.C)) := ok_steps_of T (al_digits_of T)
theorem al_law_mix (T : Tx K mg) : FnOk P w K mg base (L2.CX P w) 1 T.f_law_mix T.d_law_mix ["_law_number", "_law_k"] (spD K 2 (F_law_mix T.C)) := ok_law_mix T
theorem al_law_numbers_k36 (T : Tx K mg) : FnOk P w K mg base (L2.CX P w) 2 T.f_law_numbers_k36 T.d_law_numbers_k36 ["_law_script", "_law_count"] (spD K 2 (F_law_numbers_k36 T.C)) := ok_law_numbers_k36 T (al_law_mix T)
theorem al_law_take_k35 (T : Tx K mg) : FnOk P w K mg base (L2.CX P w) 1 T.f_law_take_k35 T.d_law_take_k35 ["_law_row", "_law_bound"] (spD K 2 (F_law_take_k35 T.C)) := ok_law_take_k35 T
theorem al_law_two (T : Tx K mg) : FnOk P w K mg base (L2.CX P w) 1 T.f_law_two T.d_law_two ["_law_times"] (spD K 1 (F_law_two T.C)) := ok_law_two T
theorem al_law_lengths (T : Tx K mg) : FnOk P w K mg base (L2.CX P w) 1 T.f_law_lengths T.d_law_lengths ["_law_counts"] (spD K 1 (F_law_lengths T.C)) := ok_law_lengths T
theorem al_law_full (T : Tx K mg) : FnOk P w K mg base (L2.CX P w) 2 T.f_law_full T.d_law_full ["_law_lengths_here"] (spD K 1 (F_law_full T.C)) := ok_law_full T (al_law_two T)
theorem al_law_bits_k56 (T : Tx K mg) : FnOk P w K mg base (L2.CX P w) 2 T.f_law_bits_k56 T.d_law_bits_k56 ["_law_number", "_law_size"] (spD K 2 (F_law_bits_k56 T.C)) := ok_law_bits_k56 T (al_law_two T)
theorem al_law_code (T : Tx K mg) : FnOk P w K mg base (L2.CX P w) 3 T.f_law_code T.d_law_code ["_law_lengths_here"] (spD K 1 (F_law_code T.C)) := ok_law_code T (al_law_bits_k56 T) (al_law_two T)
theorem al_law_steps_of (T : Tx K mg) : FnOk P w K mg base (L2.CX P w) 3 T.f_law_steps_of T.d_law_steps_of ["_law_number"] (spD K 1 (F_law_steps_of T.C)) := ok_law_steps_of T (al_law_bits_k56 T) (al_law_two T)
theorem al_law_least (T : Tx K mg) : FnOk P w K mg base (L2.CX P w) 2 T.f_law_least T.d_law_least ["_law_counts", "_law_size"] (spD K 2 (F_law_least T.C)) := ok_law_least T (al_law_two T)
theorem al_law_refused_k56 (T : Tx K mg) : FnOk P w K mg base (L2.CX P w) 4 T.f_law_refused_k56 T.d_law_refused_k56 ["_law_lengths_here"] (spD K 1 (F_law_refused_k56 T.C)) := ok_law_refused_k56 T (al_code_of T)
theorem al_law_counts_refused (T : Tx K mg) : FnOk P w K mg base (L2.CX P w) 4 T.f_law_counts_refused T.d_law_counts_refused ["_law_counts"] (spD K 1 (F_law_counts_refused T.C)) := ok_law_counts_refused T (al_lengths_of T)
theorem al_law_k56 (T : Tx K mg) : FnOk P w K mg base (L2.CX P w) 5 T.f_law_k56 T.d_law_k56 ["_law_script"] (spD K 1 (F_law_k56 T.C)) := ok_law_k56 T (al_law_code T) (al_law_counts_refused T) (al_law_full T) (al_law_least T) (al_law_lengths T) (al_law_numbers_k36 T) (al_law_refused_k56 T) (al_law_steps_of T) (al_law_take_k35 T) (al_law_two T) (al_code_of T) (al_is_full T) (al_lengths_of T) (al_steps_of T)
end
abbrev hd_R : PySem.W.OpenRow := PySem.W.OpenLaw.row PySem.Challenge.rw_topiary_k56_whole_codes_of_least_length
abbrev hd_k : PySem.W.Hook := hookXz 5 hd_x hd_z hd_p hd_fa hd_fn
def hd_ob (s : PySem.W.SharedT) : AlX := obsXzG 5 hd_x hd_z hd_p hd_fa hd_fn (HandSHeadRun.getT s)
theorem hd_ob_eq (s : PySem.W.SharedT) : hd_ob s = hd_k.obs s.abs := obsXzG_eq (HandSHeadRun.getT_eq s)
abbrev hd_loose : List PySem.Str := ["InvalidCounts", "InvalidLengths", "TopiaryError", "__name__", "_law_bits", "_law_code", "_law_counts_refused", "_law_full", "_law_least", "_law_lengths", "_law_mix", "_law_numbers", "_law_refused", "_law_steps_of", "_law_take", "_law_two", "code_of", "digits_of", "is_full", "lengths_of", "steps_of"]
theorem hd_run (w : World) : HandSHeadRun.RunEq hd_R (PySem.W.view hd_R.prog [23]) hd_k hd_ob 3000 hd_loose w := by
  intro os
  kernel_rfl
end Wk
open PySem PySem.W PySem.Calls PyProof.Rows
set_option maxRecDepth 100000 in
set_option maxHeartbeats 0 in
theorem PySem.Challenge.cw_topiary_k56_whole_codes_of_least_length_holds : PySem.Challenge.rw_topiary_k56_whole_codes_of_least_length.Holds := by
  w_on; o_law
  refine HandSHeadRun.head_any (r := OpenLaw.row PySem.Challenge.rw_topiary_k56_whole_codes_of_least_length) (q := view (OpenLaw.row PySem.Challenge.rw_topiary_k56_whole_codes_of_least_length).prog [23]) (H := Wk.hd_k) (ob := Wk.hd_ob) (M := 3000) (loose := Wk.hd_loose) (d := HandSHeadRun.topDef (OpenLaw.row PySem.Challenge.rw_topiary_k56_whole_codes_of_least_length).prog 23) (kwd := []) Wk.hd_ob_eq
    (by kernel_rfl) (fun s => by kernel_rfl) Wk.hd_run (by kernel_rfl) (by kernel_rfl) (by kernel_rfl) (by rfl) (by first | assumption | decide +kernel) (by decide +kernel) ⟨rfl, rfl, rfl, rfl, rfl, by decide +kernel⟩ ?hw ?hc
  case hw => w_witness2
  case hc =>
    refine Dl.walkE (l := PySem.Challenge.rw_topiary_k56_whole_codes_of_least_length) (k := 5) (x := "_law_script") rfl (by kernel_rfl) ⟨rfl, by decide, by decide⟩ ?F
    intro w mg fa h Y G hmg0
    obtain ⟨K, KX, c⟩ := Y
    have hmg : mg ("law" : PySem.Str) = some (.ref fa) := by
      have e : (HandSHeadRun.topDef (OpenLaw.row PySem.Challenge.rw_topiary_k56_whole_codes_of_least_length).prog 23).name = ("law" : PySem.Str) := by kernel_rfl
      rw [← e]
      exact hmg0
    obtain ⟨T, eT⟩ := Wk.tx KX G c
    have e := hmg.symm.trans T.m_law_k56
    cases e
    exact ⟨K, T.d_law_k56, KX, Dl.binds_one T.F_law_k56 (fun _ _ _ _ _ _ us hl => match us, hl with | [_], _ => rfl), fun base _ _ => L2.FnOk.imp (Wk.al_law_k56 T) (Dl.law_sp (Tp.law_k56_true T.C (Dl.xne T.xn_TopiaryError_InvalidCounts T.xe_InvalidCounts) (Dl.xne T.xn_TopiaryError_InvalidLengths T.xe_InvalidLengths)))⟩
end
