import PyProof.Rows.All
import Wide.All
import OpenK.AllK
import Wide.FinOn
import HandS.ForMost
import HandS.ForExc
import HandS.CallSlots
import HandS.Deep
import HandS.TupAny
import HandS.IsInst
import HandS.Text
import HandS.Flow
import HandS.TupLen
import HandS.Walk
import HandS.Zip
import HandS.RevRange
import HandS.Rev
import HandS.Defaults
import HandS.Iter
import HandS.ExcInit
import HandS.ExcField
import KE.KStateDown
import HandS.Head0
import HandS.Head1
import HandS.Head2
import HandS.HeadEnd
import HandS.HeadHook1
import HandS.HeadHook2
import HandS.ExcIs
import HandS.Conv
import HandS.WideBits
import KE.KDictZip
import KE.KDictItemsList
import HandS.MapObj
import HandS.ListItems
import HandS.Exc
import HandS.SetFor
import HandS.Strs
import HandS.Dict
import KE.SortData
import PyProof.StrOps2
import HandS.ExcOwn
import HandS.CallLocal
import HandS.TryOnly
import HandS.HeadHook3
import Wide.WTab
import HandS.FStr
import HandS.Replace
import HandS.ReplaceLit
import HandS.ReplaceDef
import HandS.Style
import PyProof.P3Eq
import PyProof.StrLawsIn
import KE.IntTextLaws
import HandS.ReplaceList
import PySem.Challenge.RW_topiary_k35_questions_as_texts
section
set_option Elab.async false
set_option linter.all false
set_option maxRecDepth 100000
set_option maxHeartbeats 4000000
namespace Dl
open PySem L2

/-! plain data -/
inductive D where
  | non | bl (b : Bool) | int (i : Int) | str (x : Str)
  | lst (xs : List D) | tup (xs : List D) | rd (xs : List D)
  | dic (kvs : List (Key × D)) | obj (C : Addr) (fs : List (Str × D)) | dct (kvs : List (List Key × D)) | fn (f : Addr)
deriving Inhabited

mutual
inductive Rep (K : PySem.W.Frag) (R : Hp) : D → V → Prop
  | non : Rep K R .non .non
  | bl (b : Bool) : Rep K R (.bl b) (.bl b)
  | int (i : Int) : Rep K R (.int i) (.int i)
  | str (x : Str) : Rep K R (.str x) (.str x)
  | lst {xs : List D} {p : Addr} {vs : List V} : R p = some (.lst vs) → RepL K R xs vs → Rep K R (.lst xs) (.ref p)
  | rd {xs : List D} {p : Addr} {vs : List V} : SqL K R p vs → RepL K R xs vs → Rep K R (.rd xs) (.ref p)
  | tup {xs : List D} {p : Addr} {vs : List V} : R p = some (.tup vs) → RepL K R xs vs → Rep K R (.tup xs) (.ref p)
  | dic {kvs : List (Key × D)} {p : Addr} {ws : List (Key × V)} : R p = some (.dK ws) → ws.map (·.1) = kvs.map (·.1) → RepL K R (kvs.map (·.2)) (ws.map (·.2)) → Rep K R (.dic kvs) (.ref p)
  | obj {C : Addr} {fs : List (Str × D)} {p dx : Addr} {ws : List (Str × V)} : R p = some (.ins C dx ws) → ws.map (·.1) = fs.map (·.1) → RepL K R (fs.map (·.2)) (ws.map (·.2)) → Rep K R (.obj C fs) (.ref p)
  | dct {kvs : List (List Key × D)} {p : Addr} {ws : List (List Key × V)} : R p = some (.dT ws) → ws.map (·.1) = kvs.map (·.1) → RepL K R (kvs.map (·.2)) (ws.map (·.2)) → Rep K R (.dct kvs) (.ref p)
  | fn (f : Addr) : Rep K R (.fn f) (.ref f)
inductive RepL (K : PySem.W.Frag) (R : Hp) : List D → List V → Prop
  | nil : RepL K R [] []
  | cons {d : D} {v : V} {ds : List D} {vs : List V} : Rep K R d v → RepL K R ds vs → RepL K R (d :: ds) (v :: vs)
end

theorem sameT {K : PySem.W.Frag} {H H' : Hp} {a : Addr} {xs : List V} (e : Same H H') (h : SqT K H a xs) : SqT K H' a xs := by
  rcases h with (h | ⟨o, h⟩) | h
  · exact .inl (.inl (e _ _ h))
  · exact .inl (.inr ⟨o, e _ _ h⟩)
  · exact .inr h

mutual
theorem Rep.mono {K : PySem.W.Frag} {R R' : Hp} (s : Same R R') : ∀ {d : D} {v : V}, Rep K R d v → Rep K R' d v
  | _, _, .non => .non
  | _, _, .bl b => .bl b
  | _, _, .int i => .int i
  | _, _, .str x => .str x
  | _, _, .lst a b => .lst (s _ _ a) (RepL.mono s b)
  | _, _, .rd a b => .rd (s.seq a) (RepL.mono s b)
  | _, _, .tup a b => .tup (s _ _ a) (RepL.mono s b)
  | _, _, .dic a e b => .dic (s _ _ a) e (RepL.mono s b)
  | _, _, .obj a e b => .obj (s _ _ a) e (RepL.mono s b)
  | _, _, .dct a e b => .dct (s _ _ a) e (RepL.mono s b)
  | _, _, .fn f => .fn f
theorem RepL.mono {K : PySem.W.Frag} {R R' : Hp} (s : Same R R') : ∀ {ds : List D} {vs : List V}, RepL K R ds vs → RepL K R' ds vs
  | _, _, .nil => .nil
  | _, _, .cons a b => .cons (Rep.mono s a) (RepL.mono s b)
end

section
variable {K : PySem.W.Frag} {R : Hp}
theorem RepL.length : ∀ {ds : List D} {vs : List V}, RepL K R ds vs → ds.length = vs.length
  | _, _, .nil => rfl
  | _, _, .cons _ b => by simp [b.length]
theorem RepL.get : ∀ {ds : List D} {vs : List V} {i : Nat} {d : D}, RepL K R ds vs → ds[i]? = some d → ∃ v, vs[i]? = some v ∧ Rep K R d v
  | _, _, i, _, .nil, e => by simp at e
  | _, _, 0, _, .cons a _, e => by simp at e; subst e; exact ⟨_, rfl, a⟩
  | _, _, i + 1, _, .cons _ b, e => by
    obtain ⟨v, h1, h2⟩ := b.get (i := i) (by simpa using e)
    exact ⟨v, by simpa using h1, h2⟩
theorem RepL.get2 : ∀ {ds : List D} {vs : List V} {i : Nat} {v : V}, RepL K R ds vs → vs[i]? = some v → ∃ d, ds[i]? = some d ∧ Rep K R d v
  | _, _, i, _, .nil, e => by simp at e
  | _, _, 0, _, .cons a _, e => by simp at e; subst e; exact ⟨_, rfl, a⟩
  | _, _, i + 1, _, .cons _ b, e => by
    obtain ⟨v, h1, h2⟩ := b.get2 (i := i) (by simpa using e)
    exact ⟨v, by simpa using h1, h2⟩
theorem RepL.append : ∀ {ds es : List D} {vs us : List V}, RepL K R ds vs → RepL K R es us → RepL K R (ds ++ es) (vs ++ us)
  | _, _, _, _, .nil, h => h
  | _, _, _, _, .cons a b, h => .cons a (b.append h)
theorem RepL.take : ∀ {ds : List D} {vs : List V} (n : Nat), RepL K R ds vs → RepL K R (ds.take n) (vs.take n)
  | _, _, 0, _ => by simp; exact .nil
  | _, _, _ + 1, .nil => .nil
  | _, _, n + 1, .cons a b => .cons a (b.take n)
theorem RepL.drop : ∀ {ds : List D} {vs : List V} (n : Nat), RepL K R ds vs → RepL K R (ds.drop n) (vs.drop n)
  | _, _, 0, h => h
  | _, _, _ + 1, .nil => .nil
  | _, _, n + 1, .cons a b => b.drop n
theorem RepL.set : ∀ {ds : List D} {vs : List V} {d : D} {v : V} (i : Nat), RepL K R ds vs → Rep K R d v → RepL K R (ds.set i d) (vs.set i v)
  | _, _, _, _, _, .nil, _ => .nil
  | _, _, _, _, 0, .cons _ b, h => .cons h b
  | _, _, _, _, i + 1, .cons a b, h => .cons a (b.set i h)
theorem RepL.reverse : ∀ {ds : List D} {vs : List V}, RepL K R ds vs → RepL K R ds.reverse vs.reverse
  | _, _, .nil => .nil
  | _, _, .cons a b => by
    rw [List.reverse_cons, List.reverse_cons]
    exact b.reverse.append (.cons a .nil)
theorem RepL.erase : ∀ {ds : List D} {vs : List V} (i : Nat), RepL K R ds vs → RepL K R (ds.eraseIdx i) (vs.eraseIdx i)
  | _, _, _, .nil => .nil
  | _, _, 0, .cons _ b => b
  | _, _, i + 1, .cons a b => .cons a (b.erase i)
theorem RepL.ints : ∀ {ns : List Int}, RepL K R (ns.map D.int) (ns.map V.int)
  | [] => .nil
  | n :: ns => .cons (.int n) RepL.ints
theorem RepL.ints_inv : ∀ {ns : List Int} {vs : List V}, RepL K R (ns.map D.int) vs → vs = ns.map V.int
  | [], _, .nil => rfl
  | n :: ns, _, .cons a b => by
    cases a
    rw [b.ints_inv]
    rfl
end

/-! values of slots and cells -/
inductive W where
  | d (x : D) | loc (n : Nat)
deriving Inhabited
inductive Cell where
  | lst (xs : List D) | dic (kvs : List (Key × D)) | obj (C : Addr) (fs : List (Str × W)) | lw (ws : List W) | dct (kvs : List (List Key × D))
deriving Inhabited

def RepW (K : PySem.W.Frag) (R : Hp) (ρ : Nat → Addr) : W → V → Prop
  | .d x, v => Rep K R x v
  | .loc n, v => v = .ref (ρ n)
theorem RepW.mono {K : PySem.W.Frag} {R R' : Hp} {ρ : Nat → Addr} (s : Same R R') : ∀ {w : W} {v : V}, RepW K R ρ w v → RepW K R' ρ w v
  | .d _, _, h => Rep.mono s h
  | .loc _, _, h => h

def CellAt (K : PySem.W.Frag) (R : Hp) (ρ : Nat → Addr) (H : Hp) (a : Addr) : Cell → Prop
  | .lst xs => ∃ vs, H a = some (.lst vs) ∧ RepL K R xs vs
  | .dic kvs => ∃ ws, H a = some (.dK ws) ∧ ws.map (·.1) = kvs.map (·.1) ∧ RepL K R (kvs.map (·.2)) (ws.map (·.2))
  | .obj C fs => ∃ dx ws, H a = some (.ins C dx ws) ∧ ws.map (·.1) = fs.map (·.1) ∧ Paired (RepW K R ρ) (fs.map (·.2)) (ws.map (·.2))
  | .lw us => ∃ vs, H a = some (.lst vs) ∧ Paired (RepW K R ρ) us vs
  | .dct kvs => ∃ ws, H a = some (.dT ws) ∧ ws.map (·.1) = kvs.map (·.1) ∧ RepL K R (kvs.map (·.2)) (ws.map (·.2))

theorem CellAt.some {K : PySem.W.Frag} {R : Hp} {ρ : Nat → Addr} {H : Hp} {a : Addr} {c : Cell} (h : CellAt K R ρ H a c) : ∃ o, H a = some o := by
  cases c with
  | lst xs => obtain ⟨_, h, _⟩ := h; exact ⟨_, h⟩
  | dic xs => obtain ⟨_, h, _⟩ := h; exact ⟨_, h⟩
  | obj C fs => obtain ⟨_, _, h, _⟩ := h; exact ⟨_, h⟩
  | lw xs => obtain ⟨_, h, _⟩ := h; exact ⟨_, h⟩
  | dct xs => obtain ⟨_, h, _⟩ := h; exact ⟨_, h⟩

/-- does w stand for the cell n -/
def isLoc (n : Nat) : W → Bool
  | .loc m => m == n
  | .d _ => false
def Cell.refs (n : Nat) : Cell → Bool
  | .obj _ fs => fs.any fun f => isLoc n f.2
  | .lw us => us.any (isLoc n)
  | _ => false

theorem Paired.monoMem {α β : Type} {F G : α → β → Prop} : ∀ {l : List α} {m : List β}, Paired F l m → (∀ a b, a ∈ l → F a b → G a b) → Paired G l m
  | _, _, .nil, _ => .nil
  | _, _, .cons r t, f => .cons (f _ _ List.mem_cons_self r) (Paired.monoMem t fun a b h => f a b (List.mem_cons_of_mem _ h))

/-- the cell's description leans on its own address, on R, and on ρ at the cells that it names -/
theorem CellAt.mono {K : PySem.W.Frag} {R R' : Hp} {ρ ρ' : Nat → Addr} {H H' : Hp} {a : Addr} {c : Cell} (h : CellAt K R ρ H a c) (s : Same R R') (e : H' a = H a)
    (r : ∀ n, c.refs n = true → ρ' n = ρ n) : CellAt K R' ρ' H' a c := by
  have wm : ∀ (w : W) (v : V), (∀ n, isLoc n w = true → ρ' n = ρ n) → RepW K R ρ w v → RepW K R' ρ' w v := fun w v q x => by
    cases w with
    | d y => exact Rep.mono s x
    | loc n =>
      show v = .ref (ρ' n)
      rw [q n (by simp [isLoc])]
      exact x
  cases c with
  | lst xs => obtain ⟨vs, h1, h2⟩ := h; exact ⟨vs, by rw [e]; exact h1, RepL.mono s h2⟩
  | dic kvs => obtain ⟨vs, h1, h2, h3⟩ := h; exact ⟨vs, by rw [e]; exact h1, h2, RepL.mono s h3⟩
  | dct kvs => obtain ⟨vs, h1, h2, h3⟩ := h; exact ⟨vs, by rw [e]; exact h1, h2, RepL.mono s h3⟩
  | obj C fs =>
    obtain ⟨dx, ws, h1, h2, h3⟩ := h
    refine ⟨dx, ws, by rw [e]; exact h1, h2, Paired.monoMem h3 fun u v hm x => wm u v (fun n hn => r n ?_) x⟩
    obtain ⟨f, hf, hq⟩ := List.mem_map.mp hm
    show fs.any _ = true
    rw [List.any_eq_true]
    exact ⟨f, hf, by rw [hq]; exact hn⟩
  | lw us =>
    obtain ⟨vs, h1, h2⟩ := h
    refine ⟨vs, by rw [e]; exact h1, Paired.monoMem h2 fun u v hm x => wm u v (fun n hn => r n ?_) x⟩
    show us.any _ = true
    rw [List.any_eq_true]
    exact ⟨u, hm, hn⟩

/-! the state -/
structure Env where
  ws : List (Option W)
  M : List (Option Cell)
  np : Nat
def Env.slot (e : Env) (i : Nat) : Option W := (e.ws[i]?).join
def Env.cell (e : Env) (n : Nat) : Option Cell := (e.M[n]?).join
def Env.setS (e : Env) (i : Nat) (w : Option W) : Env := { e with ws := e.ws.set i w }
def Env.setC (e : Env) (n : Nat) (c : Option Cell) : Env := { e with M := e.M.set n c }
/-- no slot and no cell names the cell n -/
def Env.noRef (e : Env) (n : Nat) : Bool := (e.ws.all fun o => match o with | some w => !isLoc n w | none => true) && (e.M.all fun o => match o with | some c => !c.refs n | none => true)

theorem Env.cell_setC (e : Env) (n m : Nat) (c : Option Cell) : (e.setC n c).cell m = if n = m then (if n < e.M.length then c else none) else e.cell m := by
  unfold Env.setC Env.cell
  rw [List.getElem?_set]
  by_cases h : n = m
  · subst h
    by_cases h2 : n < e.M.length
    · simp [h2]
    · simp [h2]
  · simp [h]
theorem Env.cell_lt {e : Env} {n : Nat} {c : Cell} (h : e.cell n = some c) : n < e.M.length := by
  unfold Env.cell at h
  by_cases q : n < e.M.length
  · exact q
  · rw [List.getElem?_eq_none (by omega)] at h; cases h
theorem Env.slot_setS (e : Env) (i j : Nat) (w : Option W) : (e.setS i w).slot j = if i = j then (if i < e.ws.length then w else none) else e.slot j := by
  unfold Env.setS Env.slot
  rw [List.getElem?_set]
  by_cases h : i = j
  · subst h
    by_cases h2 : i < e.ws.length
    · simp [h2]
    · simp [h2]
  · simp [h]
theorem Env.noRef_slot {e : Env} {n i : Nat} {w : W} (h : e.noRef n = true) (hs : e.slot i = some w) : isLoc n w = false := by
  unfold Env.noRef at h
  rw [Bool.and_eq_true] at h
  have h1 := List.all_eq_true.mp h.1
  unfold Env.slot at hs
  cases q : e.ws[i]? with
  | none => rw [q] at hs; cases hs
  | some o =>
    rw [q] at hs
    have e1 : o = some w := hs
    have h2 := h1 o (List.mem_of_getElem? q)
    rw [e1] at h2
    simpa using h2
theorem Env.noRef_cell {e : Env} {n m : Nat} {c : Cell} (h : e.noRef n = true) (hs : e.cell m = some c) : c.refs n = false := by
  unfold Env.noRef at h
  rw [Bool.and_eq_true] at h
  have h1 := List.all_eq_true.mp h.2
  unfold Env.cell at hs
  cases q : e.M[m]? with
  | none => rw [q] at hs; cases hs
  | some o =>
    rw [q] at hs
    have e1 : o = some c := hs
    have h2 := h1 o (List.mem_of_getElem? q)
    rw [e1] at h2
    simpa using h2

structure Bs where
  R_0 : Hp
  H_0 : Hp
  r_0 : List Addr

structure Md (K : PySem.W.Frag) (b : Bs) (R : Hp) (ρ : Nat → Addr) (e : Env) (σ : St) (H : Hp) : Prop where
  slot : ∀ i w, e.slot i = some w → ∃ v, σ[i]? = some (some v) ∧ RepW K R ρ w v
  cell : ∀ n c, e.cell n = some c → CellAt K R ρ H (ρ n) c
  inj : ∀ n m c c', e.cell n = some c → e.cell m = some c' → ρ n = ρ m → n = m
  own : ∀ n c, e.cell n = some c → R (ρ n) = none ∧ (n < e.np ∨ b.H_0 (ρ n) = none)
  par : ∀ n, n < e.np → b.r_0[n]? = some (ρ n)
  npl : b.r_0.length = e.np
  sub : Same R H
  ext : Same b.R_0 R
  new : ∀ a o, R a = some o → b.R_0 a = some o ∨ b.H_0 a = none
  frame : ∀ a o, b.H_0 a = some o → a ∉ b.r_0 → H a = some o
  there : ∀ a o, b.H_0 a = some o → ∃ o', H a = some o'
  len : σ.length = e.ws.length

section
variable {K : PySem.W.Frag} {b : Bs} {R : Hp} {ρ : Nat → Addr} {e : Env} {σ : St} {H : Hp}
theorem Md.fresh0 (m : Md K b R ρ e σ H) {p : Addr} (hp : H p = none) : b.H_0 p = none := by
  cases q : b.H_0 p with
  | none => rfl
  | some o => obtain ⟨o', h⟩ := m.there p o q; rw [hp] at h; cases h
theorem Md.freshR (m : Md K b R ρ e σ H) {p : Addr} (hp : H p = none) : R p = none := m.sub.free hp
theorem Md.ne (m : Md K b R ρ e σ H) {p : Addr} (hp : H p = none) {n : Nat} {c : Cell} (hc : e.cell n = some c) : ρ n ≠ p := by
  obtain ⟨o, h⟩ := (m.cell n c hc).some
  exact ne_of_none h hp
theorem same_upd {H : Hp} {p : Addr} {o : HO} (hp : H p = none) : Same H (upd H p o) := fun a u h => by
  rw [upd_ne (ne_of_none h hp)]
  exact h
theorem same_upd2 {R H : Hp} {p : Addr} {o : HO} (s : Same R H) : Same (upd R p o) (upd H p o) := fun a u h => by
  by_cases q : a = p
  · subst q; rw [upd_same] at h ⊢; exact h
  · rw [upd_ne q] at h ⊢; exact s a u h

/-- only the heap grows (nothing of it is tracked by us) -/
theorem Md.grow (m : Md K b R ρ e σ H) {H' : Hp} (s : Same H H') : Md K b R ρ e σ H' where
  slot := m.slot
  cell := fun n c hc => by
    have h := m.cell n c hc
    obtain ⟨o, ho⟩ := h.some
    exact h.mono (Same.refl R) (by rw [s _ _ ho, ho]) fun _ _ => rfl
  inj := m.inj
  own := m.own
  par := m.par
  npl := m.npl
  sub := m.sub.trans s
  ext := m.ext
  new := m.new
  frame := fun a o h n => s _ _ (m.frame a o h n)
  there := fun a o h => let ⟨o', q⟩ := m.there a o h; ⟨o', s _ _ q⟩
  len := m.len

/-- a new frozen object -/
theorem Md.freshD (m : Md K b R ρ e σ H) {p : Addr} (hp : H p = none) (o : HO) : Md K b (upd R p o) ρ e σ (upd H p o) where
  slot := fun i w h => let ⟨v, h1, h2⟩ := m.slot i w h; ⟨v, h1, h2.mono (same_upd (m.freshR hp))⟩
  cell := fun n c hc => (m.cell n c hc).mono (same_upd (m.freshR hp)) (upd_ne (m.ne hp hc)) fun _ _ => rfl
  inj := m.inj
  own := fun n c hc => ⟨by rw [upd_ne (m.ne hp hc)]; exact (m.own n c hc).1, (m.own n c hc).2⟩
  par := m.par
  npl := m.npl
  sub := same_upd2 m.sub
  ext := m.ext.trans (same_upd (m.freshR hp))
  new := fun a u h => by
    by_cases q : a = p
    · subst q; exact .inr (m.fresh0 hp)
    · rw [upd_ne q] at h; exact m.new a u h
  frame := fun a u h n => by
    rw [upd_ne (fun q => by subst q; rw [m.fresh0 hp] at h; cases h)]
    exact m.frame a u h n
  there := fun a u h => by
    rw [upd_ne (fun q => by subst q; rw [m.fresh0 hp] at h; cases h)]
    exact m.there a u h
  len := m.len

def setR (ρ : Nat → Addr) (k : Nat) (p : Addr) : Nat → Addr := fun n => if n = k then p else ρ n
theorem setR_same (ρ : Nat → Addr) (k : Nat) (p : Addr) : setR ρ k p k = p := if_pos rfl
theorem setR_ne {ρ : Nat → Addr} {k n : Nat} {p : Addr} (h : n ≠ k) : setR ρ k p n = ρ n := if_neg h

/-- a new own object in the free register k -/
theorem Md.freshC (m : Md K b R ρ e σ H) {p : Addr} (hp : H p = none) {o : HO} {k : Nat} {c : Cell} (hk : e.cell k = none) (hnp : e.np ≤ k) (hr : e.noRef k = true) (hc : CellAt K R (setR ρ k p) (upd H p o) p c) :
    Md K b R (setR ρ k p) (e.setC k (some c)) σ (upd H p o) where
  slot := fun i w h => by
    obtain ⟨v, h1, h2⟩ := m.slot i w h
    refine ⟨v, h1, ?_⟩
    have q := Env.noRef_slot hr h
    cases w with
    | d x => exact h2
    | loc n =>
      show v = .ref (setR ρ k p n)
      rw [setR_ne (fun z => by subst z; simp [isLoc] at q)]
      exact h2
  cell := fun n c' h => by
    rw [Env.cell_setC] at h
    by_cases q : k = n
    · subst q
      rw [if_pos rfl] at h
      split at h
      · cases h; rw [setR_same]; exact hc
      · cases h
    · rw [if_neg q] at h
      rw [setR_ne (Ne.symm q)]
      refine (m.cell n c' h).mono (Same.refl R) (upd_ne (m.ne hp h)) fun j hj => setR_ne fun z => ?_
      subst z
      rw [Env.noRef_cell hr h] at hj
      cases hj
  inj := fun n n' c1 c2 h1 h2 hq => by
    rw [Env.cell_setC] at h1 h2
    by_cases q1 : k = n
    · by_cases q2 : k = n'
      · exact q1.symm.trans q2
      · rw [if_neg q2] at h2
        subst q1
        rw [setR_same, setR_ne (Ne.symm q2)] at hq
        exact absurd hq.symm (m.ne hp h2)
    · rw [if_neg q1] at h1
      by_cases q2 : k = n'
      · subst q2
        rw [setR_same, setR_ne (Ne.symm q1)] at hq
        exact absurd hq (m.ne hp h1)
      · rw [if_neg q2] at h2
        rw [setR_ne (Ne.symm q1), setR_ne (Ne.symm q2)] at hq
        exact m.inj n n' c1 c2 h1 h2 hq
  own := fun n c' h => by
    rw [Env.cell_setC] at h
    by_cases q : k = n
    · subst q; rw [setR_same]; exact ⟨m.freshR hp, .inr (m.fresh0 hp)⟩
    · rw [if_neg q] at h; rw [setR_ne (Ne.symm q)]; exact m.own n c' h
  par := fun n h => by
    have h' : n < e.np := h
    rw [setR_ne (by omega)]
    exact m.par n h
  npl := m.npl
  sub := m.sub.trans (same_upd hp)
  ext := m.ext
  new := m.new
  frame := fun a u h n => by
    rw [upd_ne (fun q => by subst q; rw [m.fresh0 hp] at h; cases h)]
    exact m.frame a u h n
  there := fun a u h => by
    rw [upd_ne (fun q => by subst q; rw [m.fresh0 hp] at h; cases h)]
    exact m.there a u h
  len := m.len

/-- a cell is written -/
theorem Md.write (m : Md K b R ρ e σ H) {n : Nat} {c c' : Cell} {o : HO} (hc : e.cell n = some c) (hc' : CellAt K R ρ (upd H (ρ n) o) (ρ n) c') : Md K b R ρ (e.setC n (some c')) σ (upd H (ρ n) o) where
  slot := m.slot
  cell := fun k c1 h => by
    rw [Env.cell_setC] at h
    by_cases q : n = k
    · subst q
      rw [if_pos rfl, if_pos (Env.cell_lt hc)] at h
      cases h
      exact hc'
    · rw [if_neg q] at h
      exact (m.cell k c1 h).mono (Same.refl R) (upd_ne fun z => q (m.inj n k c c1 hc h z.symm)) fun _ _ => rfl
  inj := fun k j c1 c2 h1 h2 hq => by
    have lv : ∀ {i : Nat} {c3 : Cell}, (e.setC n (some c')).cell i = some c3 → ∃ c4, e.cell i = some c4 := fun {i c3} h => by
      rw [Env.cell_setC] at h
      by_cases q : n = i
      · subst q; exact ⟨c, hc⟩
      · rw [if_neg q] at h; exact ⟨_, h⟩
    obtain ⟨c3, h3⟩ := lv h1
    obtain ⟨c4, h4⟩ := lv h2
    exact m.inj k j c3 c4 h3 h4 hq
  own := fun k c1 h => by
    rw [Env.cell_setC] at h
    by_cases q : n = k
    · subst q; exact m.own n c hc
    · rw [if_neg q] at h; exact m.own k c1 h
  par := m.par
  npl := m.npl
  sub := fun a u h => by
    rw [upd_ne fun q => by subst q; rw [(m.own n c hc).1] at h; cases h]
    exact m.sub a u h
  ext := m.ext
  new := m.new
  frame := fun a u h hn => by
    rw [upd_ne fun q => by
      subst q
      rcases (m.own n c hc).2 with z | z
      · exact hn (List.mem_of_getElem? (m.par n z))
      · rw [z] at h; cases h]
    exact m.frame a u h hn
  there := fun a u h => by
    by_cases q : a = ρ n
    · subst q; exact ⟨_, upd_same⟩
    · rw [upd_ne q]; exact m.there a u h
  len := m.len

theorem Md.setS (m : Md K b R ρ e σ H) {i : Nat} {w : W} {v : V} (r : RepW K R ρ w v) : Md K b R ρ (e.setS i (some w)) (σ.set i (some v)) H where
  slot := fun j w' h => by
    rw [Env.slot_setS] at h
    by_cases q : i = j
    · subst q
      rw [if_pos rfl] at h
      split at h
      · rename_i hl
        cases h
        refine ⟨v, ?_, r⟩
        rw [List.getElem?_set_self (by rw [m.len]; exact hl)]
      · cases h
    · rw [if_neg q] at h
      rw [List.getElem?_set_ne q]
      exact m.slot j w' h
  cell := m.cell
  inj := m.inj
  own := m.own
  par := m.par
  npl := m.npl
  sub := m.sub
  ext := m.ext
  new := m.new
  frame := m.frame
  there := m.there
  len := by
    show (σ.set i (some v)).length = (e.ws.set i (some w)).length
    rw [List.length_set, List.length_set]; exact m.len

/-- fewer claims -/
theorem Md.less (m : Md K b R ρ e σ H) {e' : Env} (hs : ∀ i w, e'.slot i = some w → e.slot i = some w) (hc : ∀ n c, e'.cell n = some c → e.cell n = some c) (hnp : e'.np = e.np) (hl : e'.ws.length = e.ws.length) : Md K b R ρ e' σ H where
  slot := fun i w h => m.slot i w (hs i w h)
  cell := fun n c h => m.cell n c (hc n c h)
  inj := fun n k c c' h h' q => m.inj n k c c' (hc n c h) (hc k c' h') q
  own := fun n c h => by rw [hnp]; exact m.own n c (hc n c h)
  par := fun n h => m.par n (by rw [← hnp]; exact h)
  npl := m.npl.trans hnp.symm
  sub := m.sub
  ext := m.ext
  new := m.new
  frame := m.frame
  there := m.there
  len := m.len.trans hl.symm
end
end Dl
end
section
set_option Elab.async false
set_option linter.all false
set_option maxRecDepth 100000
set_option maxHeartbeats 4000000
namespace Dl
open PySem L2

/-! freezing a cell -/
def substW (k : Nat) (x : D) : W → W
  | .loc n => if n = k then .d x else .loc n
  | .d y => .d y
def Cell.subst (k : Nat) (x : D) : Cell → Cell
  | .obj C fs => .obj C (fs.map fun f => (f.1, substW k x f.2))
  | .lw us => .lw (us.map (substW k x))
  | .lst xs => .lst xs
  | .dic kvs => .dic kvs
  | .dct kvs => .dct kvs
def toDs : List W → Option (List D)
  | [] => some []
  | .d x :: r => (toDs r).map (x :: ·)
  | .loc _ :: _ => none
def toDf : List (Str × W) → Option (List (Str × D))
  | [] => some []
  | (n, .d x) :: r => (toDf r).map ((n, x) :: ·)
  | (_, .loc _) :: _ => none
def Cell.toD : Cell → Option D
  | .lst xs => some (.lst xs)
  | .dic kvs => some (.dic kvs)
  | .dct kvs => some (.dct kvs)
  | .obj C fs => (toDf fs).map (.obj C)
  | .lw us => (toDs us).map .lst
def mapO {α β : Type} (f : α → β) : List (Option α) → List (Option β)
  | [] => []
  | some x :: r => some (f x) :: mapO f r
  | none :: r => none :: mapO f r
theorem mapO_eq {α β : Type} (f : α → β) : ∀ l : List (Option α), mapO f l = l.map (Option.map f)
  | [] => rfl
  | some x :: r => by rw [mapO, List.map_cons, mapO_eq f r]; rfl
  | none :: r => by rw [mapO, List.map_cons, mapO_eq f r]; rfl
def Env.sub (e : Env) (k : Nat) (x : D) : Env := { ws := mapO (substW k x) e.ws, M := (mapO (Cell.subst k x) e.M).set k none, np := e.np }
def frz (k : Nat) (e : Env) : Option Env :=
  if e.np ≤ k then
    match e.cell k with
    | some c => match c.toD with
      | some x => some (e.sub k x)
      | none => none
    | none => none
  else none

theorem toDs_rep {K : PySem.W.Frag} {R : Hp} {ρ : Nat → Addr} : ∀ {us : List W} {ds : List D} {vs : List V}, toDs us = some ds → Paired (RepW K R ρ) us vs → RepL K R ds vs
  | [], ds, _, h, .nil => by
    have e : [] = ds := Option.some.inj h
    subst e; exact .nil
  | .d x :: r, ds, _, h, .cons a t => by
    unfold toDs at h
    cases q : toDs r with
    | none => rw [q] at h; cases h
    | some es =>
      rw [q] at h
      have e : x :: es = ds := Option.some.inj h
      subst e
      exact .cons a (toDs_rep q t)
  | .loc _ :: _, _, _, h, _ => by cases h
theorem toDf_rep {K : PySem.W.Frag} {R : Hp} {ρ : Nat → Addr} : ∀ {us : List (Str × W)} {ds : List (Str × D)} {vs : List V}, toDf us = some ds → Paired (RepW K R ρ) (us.map (·.2)) vs → RepL K R (ds.map (·.2)) vs ∧ ds.map (·.1) = us.map (·.1)
  | [], ds, _, h, .nil => by
    have e : [] = ds := Option.some.inj h
    subst e; exact ⟨.nil, rfl⟩
  | (n, .d x) :: r, ds, _, h, .cons a t => by
    unfold toDf at h
    cases q : toDf r with
    | none => rw [q] at h; cases h
    | some es =>
      rw [q] at h
      have e : (n, x) :: es = ds := Option.some.inj h
      subst e
      obtain ⟨h1, h2⟩ := toDf_rep q t
      exact ⟨.cons a h1, by rw [List.map_cons, List.map_cons, h2]⟩
  | (_, .loc _) :: _, _, _, h, _ => by cases h

section
variable {K : PySem.W.Frag} {b : Bs} {R : Hp} {ρ : Nat → Addr} {e e' : Env} {σ : St} {H : Hp}
theorem slot_sub {k : Nat} {x : D} {i : Nat} {w : W} (h : (e.sub k x).slot i = some w) : ∃ w0, e.slot i = some w0 ∧ w = substW k x w0 := by
  unfold Env.slot Env.sub at h
  rw [mapO_eq, List.getElem?_map] at h
  unfold Env.slot
  cases q : e.ws[i]? with
  | none => rw [q] at h; cases h
  | some o =>
    rw [q] at h
    cases o with
    | none => cases h
    | some w0 => exact ⟨w0, rfl, (Option.some.inj h).symm⟩
theorem cell_sub {k : Nat} {x : D} {n : Nat} {c : Cell} (h : (e.sub k x).cell n = some c) : n ≠ k ∧ ∃ c0, e.cell n = some c0 ∧ c = c0.subst k x := by
  unfold Env.cell Env.sub at h
  simp only [mapO_eq] at h
  rw [List.getElem?_set] at h
  unfold Env.cell
  by_cases q : k = n
  · subst q
    rw [if_pos rfl] at h
    split at h <;> cases h
  · rw [if_neg q, List.getElem?_map] at h
    refine ⟨Ne.symm q, ?_⟩
    cases q2 : e.M[n]? with
    | none => rw [q2] at h; cases h
    | some o =>
      rw [q2] at h
      cases o with
      | none => cases h
      | some c0 => exact ⟨c0, rfl, (Option.some.inj h).symm⟩
theorem Md.frz {k : Nat} (m : Md K b R ρ e σ H) (h : frz k e = some e') : ∃ R', Same R R' ∧ Md K b R' ρ e' σ H := by
  unfold Dl.frz at h
  split at h
  · rename_i hnp
    cases hc : e.cell k with
    | none => rw [hc] at h; cases h
    | some c =>
      rw [hc] at h
      cases hx : c.toD with
      | none => simp only [hx] at h; cases h
      | some x =>
        simp only [hx] at h
        have h := Option.some.inj h
        subst h
        obtain ⟨o, ho⟩ := (m.cell k c hc).some
        have hRk : R (ρ k) = none := (m.own k c hc).1
        have sR : Same R (upd R (ρ k) o) := same_upd hRk
        have rep : Rep K (upd R (ρ k) o) x (.ref (ρ k)) := by
          have hk := m.cell k c hc
          cases c with
          | lst xs =>
            obtain ⟨vs, h1, h2⟩ := hk
            have e1 : D.lst xs = x := Option.some.inj hx
            subst e1
            rw [h1] at ho; cases ho
            exact .lst upd_same (RepL.mono sR h2)
          | dic kvs =>
            obtain ⟨ws, h1, h2, h3⟩ := hk
            have e1 : D.dic kvs = x := Option.some.inj hx
            subst e1
            rw [h1] at ho; cases ho
            exact .dic upd_same h2 (RepL.mono sR h3)
          | dct kvs =>
            obtain ⟨ws, h1, h2, h3⟩ := hk
            have e1 : D.dct kvs = x := Option.some.inj hx
            subst e1
            rw [h1] at ho; cases ho
            exact .dct upd_same h2 (RepL.mono sR h3)
          | obj C fs =>
            obtain ⟨dx, ws, h1, h2, h3⟩ := hk
            have hx : (toDf fs).map (D.obj C) = some x := hx
            cases q : toDf fs with
            | none => rw [q] at hx; cases hx
            | some ds =>
              rw [q] at hx
              have e1 : D.obj C ds = x := Option.some.inj hx
              subst e1
              rw [h1] at ho; cases ho
              obtain ⟨r1, r2⟩ := toDf_rep q h3
              exact .obj upd_same (h2.trans r2.symm) (RepL.mono sR r1)
          | lw us =>
            obtain ⟨vs, h1, h2⟩ := hk
            have hx : (toDs us).map D.lst = some x := hx
            cases q : toDs us with
            | none => rw [q] at hx; cases hx
            | some ds =>
              rw [q] at hx
              have e1 : D.lst ds = x := Option.some.inj hx
              subst e1
              rw [h1] at ho; cases ho
              exact .lst upd_same (RepL.mono sR (toDs_rep q h2))
        have wsub : ∀ (w : W) (v : V), RepW K R ρ w v → RepW K (upd R (ρ k) o) ρ (substW k x w) v := fun w v r => by
          cases w with
          | d y => exact Rep.mono sR r
          | loc n =>
            show RepW K (upd R (ρ k) o) ρ (if n = k then .d x else .loc n) v
            by_cases q : n = k
            · rw [if_pos q]
              have r' : v = .ref (ρ n) := r
              subst q; subst r'
              exact rep
            · rw [if_neg q]; exact r
        refine ⟨upd R (ρ k) o, sR, ?_⟩
        refine ⟨fun i w h => ?_, fun n c' h => ?_, fun n n' c1 c2 h1 h2 q => ?_, fun n c' h => ?_, m.par, m.npl, fun a u h => ?_, m.ext.trans sR, fun a u h => ?_, m.frame, m.there, ?_⟩
        · obtain ⟨w0, h0, rfl⟩ := slot_sub h
          obtain ⟨v, h1, h2⟩ := m.slot i w0 h0
          exact ⟨v, h1, wsub _ _ h2⟩
        · obtain ⟨hn, c0, h0, rfl⟩ := cell_sub h
          have hc0 := m.cell n c0 h0
          cases c0 with
          | lst xs => exact hc0.mono (R' := upd R (ρ k) o) sR rfl fun _ _ => rfl
          | dic xs => exact hc0.mono (R' := upd R (ρ k) o) sR rfl fun _ _ => rfl
          | dct xs => exact hc0.mono (R' := upd R (ρ k) o) sR rfl fun _ _ => rfl
          | obj C fs =>
            obtain ⟨dx, ws, q1, q2, q3⟩ := hc0
            refine ⟨dx, ws, q1, by rw [q2, List.map_map]; rfl, ?_⟩
            have e1 : (fs.map fun f => (f.1, substW k x f.2)).map (·.2) = (fs.map (·.2)).map (substW k x) := by rw [List.map_map, List.map_map]; rfl
            rw [e1]
            exact go wsub q3
          | lw us =>
            obtain ⟨vs, q1, q2⟩ := hc0
            exact ⟨vs, q1, go wsub q2⟩
        · obtain ⟨_, c3, h3, _⟩ := cell_sub h1
          obtain ⟨_, c4, h4, _⟩ := cell_sub h2
          exact m.inj n n' c3 c4 h3 h4 q
        · obtain ⟨hn, c0, h0, _⟩ := cell_sub h
          exact ⟨by rw [upd_ne fun z => hn (m.inj n k c0 c h0 hc z)]; exact (m.own n c0 h0).1, (m.own n c0 h0).2⟩
        · by_cases q : a = ρ k
          · subst q; rw [upd_same] at h; cases h; exact ho
          · rw [upd_ne q] at h; exact m.sub a u h
        · by_cases q : a = ρ k
          · subst q
            rcases (m.own k c hc).2 with z | z
            · omega
            · exact .inr z
          · rw [upd_ne q] at h; exact m.new a u h
        · show σ.length = (mapO (substW k x) e.ws).length
          rw [mapO_eq, List.length_map]; exact m.len
  · cases h
where
  go {F G : W → V → Prop} {g : W → W} (f : ∀ w v, F w v → G (g w) v) : ∀ {us : List W} {vs : List V}, Paired F us vs → Paired G (us.map g) vs
    | _, _, .nil => .nil
    | _, _, .cons a t => .cons (f _ _ a) (go f t)
end
end Dl
end
section
set_option Elab.async false
set_option linter.all false
set_option maxRecDepth 100000
set_option maxHeartbeats 4000000
namespace Dl
open PySem L2

/-! results -/
structure Xn where
  C : Addr
  fs : Option (List (Str × D))
def ExR (K : PySem.W.Frag) (R : Hp) (x : Xn) (cls : Value) (d : Option Addr) : Prop :=
  cls = .ref x.C ∧ match x.fs with
    | none => d = none
    | some fs => ∃ a ws, d = some a ∧ R a = some (.xd ws) ∧ ws.map (·.1) = fs.map (·.1) ∧ RepL K R (fs.map (·.2)) (ws.map (·.2))
theorem ExR.mono {K : PySem.W.Frag} {R R' : Hp} {x : Xn} {cls : Value} {d : Option Addr} (s : Same R R') (h : ExR K R x cls d) : ExR K R' x cls d := by
  refine ⟨h.1, ?_⟩
  have q := h.2
  cases e : x.fs with
  | none => rw [e] at q; exact q
  | some fs =>
    rw [e] at q
    obtain ⟨a, ws, h1, h2, h3, h4⟩ := q
    exact ⟨a, ws, h1, s _ _ h2, h3, RepL.mono s h4⟩

inductive Rs (α : Type) where
  | ok (a : α) (e : Env)
  | exn (x : Xn) (e : Env)
  | fail
def Rs.bind {α γ : Type} (r : Rs α) (k : α → Env → Rs γ) : Rs γ :=
  match r with
  | .ok a e => k a e
  | .exn x e => .exn x e
  | .fail => .fail
abbrev Ev := Env → Rs W

def Live (e e' : Env) (ρ ρ' : Nat → Addr) : Prop := ∀ n c, e.cell n = some c → ρ' n = ρ n ∧ ∃ c', e'.cell n = some c'
theorem Live.refl (e : Env) (ρ : Nat → Addr) : Live e e ρ ρ := fun n c h => ⟨rfl, c, h⟩
theorem Live.trans {e e1 e2 : Env} {ρ ρ1 ρ2 : Nat → Addr} (a : Live e e1 ρ ρ1) (b : Live e1 e2 ρ1 ρ2) : Live e e2 ρ ρ2 := fun n c h => by
  obtain ⟨h1, c1, h2⟩ := a n c h
  obtain ⟨h3, c2, h4⟩ := b n c1 h2
  exact ⟨h3.trans h1, c2, h4⟩
def wl (e : Env) : W → Bool
  | .d _ => true
  | .loc n => (e.cell n).isSome
theorem RepW.later {K : PySem.W.Frag} {R R' : Hp} {e e' : Env} {ρ ρ' : Nat → Addr} {w : W} {v : V} (h : RepW K R ρ w v) (l : wl e w = true) (s : Same R R') (lv : Live e e' ρ ρ') : RepW K R' ρ' w v := by
  cases w with
  | d x => exact Rep.mono s h
  | loc n =>
    obtain ⟨c, hc⟩ := Option.isSome_iff_exists.mp (show (e.cell n).isSome = true from l)
    show v = .ref (ρ' n)
    rw [(lv n c hc).1]
    exact h

section
variable {K : PySem.W.Frag} {Wx : WX} {b : Bs} {R : Hp} {ρ : Nat → Addr} {e : Env} {σ : St} {H : Hp} {α β γ δ : Type}
/-- the relation of a result and what the machine hands over -/
abbrev Rl (α β : Type) := Hp → (Nat → Addr) → α → β → Prop
def OkR (K : PySem.W.Frag) (Wx : WX) (L : Rl α β) (b : Bs) (R : Hp) (ρ : Nat → Addr) (e : Env) (σ : St) (Q : β → Hp → Prop) : Rs α → Prop
  | .ok a e' => ∀ R' ρ' v H', Same R R' → Live e e' ρ ρ' → Md K b R' ρ' e' σ H' → L R' ρ' a v → Q v H'
  | .exn x e' => ∀ R' ρ' σ' H' cls d, Same R R' → Md K b R' ρ' e' σ' H' → ExR K R' x cls d → Wx cls d σ' H'
  | .fail => False
def tG (K : PySem.W.Frag) (Wx : WX) (L : Rl α β) (f : Env → Rs α) : St → Hp → (β → Hp → Prop) → Prop := fun σ H Q => ∃ b R ρ e, Md K b R ρ e σ H ∧ OkR K Wx L b R ρ e σ Q (f e)
abbrev lW (K : PySem.W.Frag) : Rl W V := fun R ρ => RepW K R ρ
abbrev lA (K : PySem.W.Frag) : Rl (List W) (List V) := fun R ρ => Paired (RepW K R ρ)
abbrev lB : Rl Bool Bool := fun _ _ => Eq
abbrev tD (K : PySem.W.Frag) (Wx : WX) (f : Ev) : TE := tG K Wx (lW K) f
abbrev tDA (K : PySem.W.Frag) (Wx : WX) (f : Env → Rs (List W)) : TA := tG K Wx (lA K) f
abbrev tDT (K : PySem.W.Frag) (Wx : WX) (f : Env → Rs Bool) : TT := tG K Wx lB f

theorem OkR.rebase {L : Rl α β} {R1 : Hp} {ρ1 : Nat → Addr} {e1 : Env} {Q : β → Hp → Prop} {r : Rs α} (s : Same R R1) (l : Live e e1 ρ ρ1) (h : OkR K Wx L b R ρ e σ Q r) : OkR K Wx L b R1 ρ1 e1 σ Q r := by
  cases r with
  | ok a e' => exact fun R' ρ' v H' s' l' m r => h R' ρ' v H' (s.trans s') (l.trans l') m r
  | exn x e' => exact fun R' ρ' σ' H' cls d s' m r => h R' ρ' σ' H' cls d (s.trans s') m r
  | fail => exact h
theorem OkR.bind {L : Rl α β} {L2 : Rl γ δ} {Q : δ → Hp → Prop} {r : Rs α} {k : α → Env → Rs γ} (h : OkR K Wx L2 b R ρ e σ Q (r.bind k)) :
    OkR K Wx L b R ρ e σ (fun v H1 => ∃ R1 ρ1 e1 a, Same R R1 ∧ Live e e1 ρ ρ1 ∧ Md K b R1 ρ1 e1 σ H1 ∧ L R1 ρ1 a v ∧ r = .ok a e1 ∧ OkR K Wx L2 b R1 ρ1 e1 σ Q (k a e1)) r := by
  cases r with
  | ok a e' => exact fun R' ρ' v H' s l m rp => ⟨R', ρ', e', a, s, l, m, rp, rfl, h.rebase s l⟩
  | exn x e' => exact h
  | fail => exact h
theorem OkR.imp {L : Rl α β} {Q Q' : β → Hp → Prop} {r : Rs α} (h : OkR K Wx L b R ρ e σ Q r) (hq : ∀ v H, Q v H → Q' v H) : OkR K Wx L b R ρ e σ Q' r := by
  cases r with
  | ok a e' => exact fun R' ρ' v H' s l m rp => hq _ _ (h R' ρ' v H' s l m rp)
  | exn x e' => exact h
  | fail => exact h
/-- one operand, then what the rule asks -/
theorem tG_one {L : Rl α β} {L2 : Rl γ δ} {f : Env → Rs α} {k : α → Env → Rs γ} {Q : δ → Hp → Prop} {Z : β → Hp → Prop} (h : tG K Wx L2 (fun e => (f e).bind k) σ H Q)
    (z : ∀ b R ρ e H a v, Md K b R ρ e σ H → L R ρ a v → OkR K Wx L2 b R ρ e σ Q (k a e) → Z v H) : tG K Wx L f σ H Z := by
  obtain ⟨b, R, ρ, e, m, h⟩ := h
  refine ⟨b, R, ρ, e, m, (OkR.bind (L := L) h).imp fun v H1 h1 => ?_⟩
  obtain ⟨R1, ρ1, e1, a, _, _, m1, r1, _, q⟩ := h1
  exact z b R1 ρ1 e1 H1 a v m1 r1 q
def bin2 (f1 f2 : Ev) (k : W → W → Env → Rs γ) : Env → Rs γ := fun e => (f1 e).bind fun w1 e1 => if wl e1 w1 = true then (f2 e1).bind (k w1) else .fail
theorem tG_two {L2 : Rl γ δ} {f1 f2 : Ev} {k : W → W → Env → Rs γ} {Q : δ → Hp → Prop} {Z : V → V → Hp → Prop} (h : tG K Wx L2 (bin2 f1 f2 k) σ H Q)
    (z : ∀ b R ρ e H w1 w2 v1 v2, Md K b R ρ e σ H → RepW K R ρ w1 v1 → RepW K R ρ w2 v2 → OkR K Wx L2 b R ρ e σ Q (k w1 w2 e) → Z v1 v2 H) : tD K Wx f1 σ H fun x H1 => tD K Wx f2 σ H1 fun y H2 => Z x y H2 := by
  refine tG_one h fun b R ρ e H1 w1 v1 m1 r1 q => ?_
  split at q
  · rename_i hl
    refine ⟨b, R, ρ, e, m1, (OkR.bind (L := lW K) q).imp fun v H2 h2 => ?_⟩
    obtain ⟨R2, ρ2, e2, w2, s2, l2, m2, r2, _, q2⟩ := h2
    exact z b R2 ρ2 e2 H2 w1 w2 v1 v m2 (r1.later hl s2 l2) r2 q2
  · exact q.elim

/-- the end of an operation that changes nothing -/
theorem OkR.fin {L : Rl α β} {Q : β → Hp → Prop} {a : α} {v : β} (h : OkR K Wx L b R ρ e σ Q (.ok a e)) (m : Md K b R ρ e σ H) (r : L R ρ a v) : Q v H := h R ρ v H (Same.refl R) (Live.refl e ρ) m r
/-- .. that lays a new frozen object -/
theorem OkR.finD {Q : VK} {z : D} {p : Addr} {o : HO} (h : OkR K Wx (lW K) b R ρ e σ Q (.ok (.d z) e)) (m : Md K b R ρ e σ H) (hp : H p = none) (r : Rep K (upd R p o) z (.ref p)) : Q (.ref p) (upd H p o) :=
  h _ ρ _ _ (same_upd (m.freshR hp)) (Live.refl e ρ) (m.freshD hp o) r
end

theorem _root_.L2.PE.imp {X : Cx} {a : Expr} {t t' : TE} (h : PE X a t) (i : ∀ σ H Q, t' σ H Q → t σ H Q) : PE X a t' := ⟨fun pins s σ H Q I q => h.run pins s σ H Q I (i σ H Q q)⟩
theorem _root_.L2.PT.imp {X : Cx} {a : Expr} {t t' : TT} (h : PT X a t) (i : ∀ σ H Q, t' σ H Q → t σ H Q) : PT X a t' := ⟨fun pins s σ H Q I q => h.run pins s σ H Q I (i σ H Q q)⟩
theorem _root_.L2.PW.imp {X : Cx} {a : Expr} {t t' : TT} (h : PW X a t) (i : ∀ σ H Q, t' σ H Q → t σ H Q) : PW X a t' := ⟨fun wh pins s σ H Q I q => h.run wh pins s σ H Q I (i σ H Q q)⟩
theorem _root_.L2.PA.imp {X : Cx} {a : List Expr} {t t' : TA} (h : PA X a t) (i : ∀ σ H Q, t' σ H Q → t σ H Q) : PA X a t' := ⟨fun pos pins s σ H Q I q => h.run pos pins s σ H Q I (i σ H Q q)⟩
theorem _root_.L2.PS.imp {X : Cx} {a : Stmt} {t t' : TS} (h : PS X a t) (i : ∀ D σ H, t' D σ H → t D σ H) : PS X a t' := ⟨fun pins s σ H D I q => h.run pins s σ H D I (i D σ H q)⟩
theorem _root_.L2.PSs.imp {X : Cx} {a : List Stmt} {t t' : TS} (h : PSs X a t) (i : ∀ D σ H, t' D σ H → t D σ H) : PSs X a t' := ⟨fun pins s σ H D I q => h.run pins s σ H D I (i D σ H q)⟩
theorem _root_.L2.PI.imp {X : Cx} {tg a : Expr} {t t' : TI} (h : PI X tg a t) (i : ∀ σ H Q, t' σ H Q → t σ H Q) : PI X tg a t' := ⟨fun pins s σ H Q I q => h.run pins s σ H Q I (i σ H Q q)⟩

section
variable {X : Cx} {Wx : WX} {a b c : Expr} {es : List Expr} {pos : Pos}

/-! names, constants -/
def eVar (i : Nat) : Ev := fun e => match e.slot i with | some w => .ok w e | none => .fail
def eC (d : D) : Ev := fun e => .ok (.d d) e
theorem d_var {i : Nat} {x : Str} {pos : Pos} (h : PE X (.Name x pos) (tVar i)) : PE X (.Name x pos) (tD X.K Wx (eVar i)) := h.imp fun σ H Q ⟨b, R, ρ, e, m, q⟩ => by
  unfold eVar at q
  cases hw : e.slot i with
  | none => rw [hw] at q; exact q.elim
  | some w =>
    rw [hw] at q
    obtain ⟨v, h1, h2⟩ := m.slot i w hw
    exact ⟨v, h1, q.fin m h2⟩
theorem d_c {d : D} {v : V} (h : PE X a (tC v)) (r : ∀ R, Rep X.K R d v) : PE X a (tD X.K Wx (eC d)) := h.imp fun σ H Q ⟨b, R, ρ, e, m, q⟩ => q.fin m (r R)
theorem d_int {i j pos} : PE X (.Constant (.int i) j pos) (tD X.K Wx (eC (.int i))) := d_c pe_int fun _ => .int i
theorem d_bl {i j pos} : PE X (.Constant (.bool i) j pos) (tD X.K Wx (eC (.bl i))) := d_c pe_bl fun _ => .bl i
theorem d_str {i j pos} : PE X (.Constant (.str i) j pos) (tD X.K Wx (eC (.str i))) := d_c pe_str fun _ => .str i
theorem d_non {j pos} : PE X (.Constant .none j pos) (tD X.K Wx (eC .non)) := d_c pe_non fun _ => .non

/-! operators by values -/
/-- a two-place operation on frozen data, no new object -/
def kD2 (g : D → D → Option D) (w1 w2 : W) : Ev := fun e => match w1, w2 with
  | .d x, .d y => match g x y with | some z => .ok (.d z) e | none => .fail
  | _, _ => .fail
def eOp (g : D → D → Option D) (f1 f2 : Ev) : Ev := bin2 f1 f2 (kD2 g)
/-- what a rule asks follows from the data's answer: it changes nothing, or lays one new object -/
def OpD (K : PySem.W.Frag) (g : D → D → Option D) (r : R2) : Prop :=
  ∀ (x y z : D) (v u : V) (R H : Hp) (Q : VK), g x y = some z → Rep K R x v → Rep K R y u → Same R H → (∀ q, Rep K R z q → Q q H) → (∀ p o, H p = none → Rep K (upd R p o) z (.ref p) → Q (.ref p) (upd H p o)) → r v u H Q
theorem OpD.run {K : PySem.W.Frag} {g : D → D → Option D} {r : R2} (o : OpD K g r) {bs : Bs} {R : Hp} {ρ : Nat → Addr} {e : Env} {σ : St} {H : Hp} {w1 w2 : W} {v1 v2 : V} {Q : VK} (m : Md K bs R ρ e σ H) (r1 : RepW K R ρ w1 v1) (r2 : RepW K R ρ w2 v2)
    (q : OkR K Wx (lW K) bs R ρ e σ Q (kD2 g w1 w2 e)) : r v1 v2 H Q := by
  cases w1 with
  | loc n => exact q.elim
  | d x =>
    cases w2 with
    | loc n => exact q.elim
    | d y =>
      unfold kD2 at q
      cases hg : g x y with
      | none => simp only [hg] at q; exact q.elim
      | some z =>
        simp only [hg] at q
        exact o x y z v1 v2 R H Q hg r1 r2 m.sub (fun u ru => q.fin m ru) fun p ob hp rp => q.finD m hp rp
theorem d_op {op : Operator} {r : R2} {g : D → D → Option D} {f1 f2 : Ev} (ho : OpR X (binaryOp op) r) (hd : OpD X.K g r) (ha : PE X a (tD X.K Wx f1)) (hb : PE X b (tD X.K Wx f2)) : PE X (.BinOp a op b pos) (tD X.K Wx (eOp g f1 f2)) :=
  (pe_op ho ha hb).imp fun σ H Q h => tG_two h fun bs R ρ e H w1 w2 v1 v2 m r1 r2 q => hd.run (Wx := Wx) m r1 r2 q
theorem d_cmp {op : CmpOp} {r : R2} {g : D → D → Option D} {f1 f2 : Ev} (ho : OpR X (compareOp op) r) (hd : OpD X.K g r) (ha : PE X a (tD X.K Wx f1)) (hb : PE X b (tD X.K Wx f2)) (hm : behindInMarks op b = false) : PE X (.Compare a [op] [b] pos) (tD X.K Wx (eOp g f1 f2)) :=
  (pe_cmpR ho ha hb hm).imp fun σ H Q h => tG_two h fun bs R ρ e H w1 w2 v1 v2 m r1 r2 q => hd.run (Wx := Wx) m r1 r2 q
/-- .. as a test -/
def kB2 (g : D → D → Option Bool) (w1 w2 : W) : Env → Rs Bool := fun e => match w1, w2 with
  | .d x, .d y => match g x y with | some z => .ok z e | none => .fail
  | _, _ => .fail
def bOp (g : D → D → Option Bool) (f1 f2 : Ev) : Env → Rs Bool := bin2 f1 f2 (kB2 g)
def blG (g : D → D → Option Bool) : D → D → Option D := fun x y => match g x y with | some z => some (.bl z) | none => none
def OpB (K : PySem.W.Frag) (g : D → D → Option Bool) (r : R2) : Prop :=
  ∀ (x y : D) (z : Bool) (v u : V) (R H : Hp) (Q : VK), g x y = some z → Rep K R x v → Rep K R y u → Same R H → Q (.bl z) H → r v u H Q
theorem OpB.d {K : PySem.W.Frag} {g : D → D → Option Bool} {r : R2} (o : OpB K g r) : OpD K (blG g) r := fun x y z v u R H Q hg r1 r2 s q _ => by
  unfold blG at hg
  cases hz : g x y with
  | none => rw [hz] at hg; cases hg
  | some k =>
    rw [hz] at hg
    have e : D.bl k = z := Option.some.inj hg
    subst e
    exact o x y k v u R H Q hz r1 r2 s (q _ (.bl k))
theorem OpB.run {K : PySem.W.Frag} {g : D → D → Option Bool} {r : R2} (o : OpB K g r) {bs : Bs} {R : Hp} {ρ : Nat → Addr} {e : Env} {σ : St} {H : Hp} {w1 w2 : W} {v1 v2 : V} {Q : Bool → Hp → Prop} (m : Md K bs R ρ e σ H) (r1 : RepW K R ρ w1 v1) (r2 : RepW K R ρ w2 v2)
    (q : OkR K Wx lB bs R ρ e σ Q (kB2 g w1 w2 e)) : r v1 v2 H (fun x H' => ∃ k, x = .bl k ∧ Q k H') := by
  cases w1 with
  | loc n => exact q.elim
  | d x =>
    cases w2 with
    | loc n => exact q.elim
    | d y =>
      unfold kB2 at q
      cases hg : g x y with
      | none => simp only [hg] at q; exact q.elim
      | some z =>
        simp only [hg] at q
        exact o x y z v1 v2 R H _ hg r1 r2 m.sub ⟨z, rfl, q.fin m rfl⟩
theorem t_cmp {op : CmpOp} {r : R2} {g : D → D → Option Bool} {f1 f2 : Ev} (ho : OpR X (compareOp op) r) (hd : OpB X.K g r) (ha : PE X a (tD X.K Wx f1)) (hb : PE X b (tD X.K Wx f2)) (hm : behindInMarks op b = false) : PT X (.Compare a [op] [b] pos) (tDT X.K Wx (bOp g f1 f2)) :=
  (pt_cmpR ho ha hb hm).imp fun σ H Q h => tG_two h fun bs R ρ e H w1 w2 v1 v2 m r1 r2 q => hd.run (Wx := Wx) m r1 r2 q
/-- a op b op c -/
def bChain (g g' : D → D → Option Bool) (f1 f2 f3 : Ev) : Env → Rs Bool := bin2 f1 f2 fun w1 w2 e => (kB2 g w1 w2 e).bind fun k e1 => if k = true then (if wl e1 w2 = true then (f3 e1).bind (kB2 g' w2) else .fail) else .ok false e1
theorem t_chain {op op' : CmpOp} {r r' : R2} {g g' : D → D → Option Bool} {f1 f2 f3 : Ev} (ho : OpR X (compareOp op) r) (ho' : OpR X (compareOp op') r') (hd : OpB X.K g r) (hd' : OpB X.K g' r') (ha : PE X a (tD X.K Wx f1)) (hb : PE X b (tD X.K Wx f2)) (hc : PE X c (tD X.K Wx f3))
    (hm : lastMarks [op, op'] [b, c] = false := by with_unfolding_all rfl) : PT X (.Compare a [op, op'] [b, c] pos) (tDT X.K Wx (bChain g g' f1 f2 f3)) := by
  refine (pt_chain ho ho' ha hb hc hm).imp fun σ H Q h => ?_
  show tD X.K Wx f1 σ H fun x H1 => tD X.K Wx f2 σ H1 fun y H2 => r x y H2 fun z H3 => ∃ k, z = .bl k ∧ (if k = true then tD X.K Wx f3 σ H3 fun w' H4 => r' y w' H4 (fun x H' => ∃ k, x = .bl k ∧ Q k H') else ∃ k', V.bl false = .bl k' ∧ Q k' H3)
  refine tG_two h fun bs R ρ e H2 w1 w2 v1 v2 m r1 r2 q => ?_
  cases w1 with
  | loc n => exact q.elim
  | d x =>
    cases w2 with
    | loc n => exact q.elim
    | d y =>
      unfold kB2 at q
      cases hg : g x y with
      | none => simp only [hg] at q; exact q.elim
      | some z =>
        simp only [hg, Rs.bind] at q
        refine hd x y z v1 v2 R H2 _ hg r1 r2 m.sub ⟨z, rfl, ?_⟩
        cases z with
        | false => exact ⟨false, rfl, q.fin m rfl⟩
        | true =>
          rw [if_pos rfl] at q
          rw [if_pos rfl]
          have q : OkR X.K Wx lB bs R ρ e σ Q ((f3 e).bind (kB2 g' (W.d y))) := q
          refine ⟨bs, R, ρ, e, m, (OkR.bind (L := lW X.K) q).imp fun v H4 h2 => ?_⟩
          obtain ⟨R2, ρ2, e2, w3, s2, l2, m2, r3, _, q2⟩ := h2
          exact hd'.run (Wx := Wx) m2 (RepW.mono (w := .d y) s2 r2) r3 q2
/-- .. as a value -/
theorem d_test {f : Env → Rs Bool} (h : PE X a (fun σ H Q => tDT X.K Wx f σ H fun k H1 => Q (.bl k) H1)) : PE X a (tD X.K Wx fun e => (f e).bind fun k e1 => .ok (.d (.bl k)) e1) := h.imp fun σ H Q q =>
  tG_one q fun bs R ρ e H k v m r q2 => by
    have e1 : k = v := r
    subst e1
    exact q2.fin m (Rep.bl k)

/-! tests -/
theorem t_not {f : Env → Rs Bool} (h : PT X a (tDT X.K Wx f)) : PT X (.UnaryOp .Not a pos) (tDT X.K Wx fun e => (f e).bind fun k e1 => .ok (!k) e1) := (pt_not h).imp fun σ H Q q =>
  tG_one q fun bs R ρ e H k v m r q2 => by
    have e1 : k = v := r
    subst e1
    exact q2.fin m rfl
def bAnd (f g : Env → Rs Bool) : Env → Rs Bool := fun e => (f e).bind fun k e1 => if k = true then g e1 else .ok false e1
def bOr (f g : Env → Rs Bool) : Env → Rs Bool := fun e => (f e).bind fun k e1 => if k = true then .ok true e1 else g e1
theorem w_and1 {f : Env → Rs Bool} (h : PT X a (tDT X.K Wx f)) : PW X (.BoolOp .And [a] pos) (tDT X.K Wx f) := pw_and1 h
theorem w_or1 {f : Env → Rs Bool} (h : PT X a (tDT X.K Wx f)) : PW X (.BoolOp .Or [a] pos) (tDT X.K Wx f) := pw_or1 h
theorem w_and {f g : Env → Rs Bool} (h : PT X a (tDT X.K Wx f)) (h2 : PW X (.BoolOp .And (b :: es) pos) (tDT X.K Wx g)) : PW X (.BoolOp .And (a :: b :: es) pos) (tDT X.K Wx (bAnd f g)) := (pw_and h h2).imp fun σ H Q q =>
  tG_one q fun bs R ρ e H k v m r q2 => by
    have e1 : k = v := r
    subst e1
    cases k with
    | true => rw [if_pos rfl] at q2 ⊢; exact ⟨bs, R, ρ, e, m, q2⟩
    | false => exact q2.fin m rfl
theorem w_or {f g : Env → Rs Bool} (h : PT X a (tDT X.K Wx f)) (h2 : PW X (.BoolOp .Or (b :: es) pos) (tDT X.K Wx g)) : PW X (.BoolOp .Or (a :: b :: es) pos) (tDT X.K Wx (bOr f g)) := (pw_or h h2).imp fun σ H Q q =>
  tG_one q fun bs R ρ e H k v m r q2 => by
    have e1 : k = v := r
    subst e1
    cases k with
    | false => exact ⟨bs, R, ρ, e, m, q2⟩
    | true => exact q2.fin m rfl
/-- truth of a value -/
def truD : D → Option Bool
  | .non => some false
  | .bl b => some b
  | .int i => some (i != 0)
  | .str x => if x.length ≤ sizeLine then some ((x.length : Int) != 0) else none
  | .lst xs => some (!xs.isEmpty)
  | .rd xs => some (!xs.isEmpty)
  | .tup xs => some (!xs.isEmpty)
  | .dic kvs => some (!kvs.isEmpty)
  | .obj _ _ => none
  | .dct _ => none
  | .fn _ => none
def kTru (w : W) : Env → Rs Bool := fun e => match w with
  | .d x => match truD x with | some k => .ok k e | none => .fail
  | .loc n => match e.cell n with
    | some (.lst xs) => .ok (!xs.isEmpty) e
    | _ => .fail
def bTru (f : Ev) : Env → Rs Bool := fun e => (f e).bind kTru
theorem RepL.isEmpty {K : PySem.W.Frag} {R : Hp} {ds : List D} {vs : List V} (h : RepL K R ds vs) : vs.isEmpty = ds.isEmpty := by cases h <;> rfl
theorem t_truth {f : Ev} (ha : PE X a (tD X.K Wx f)) (he : ∀ whole, isTrue a X.env whole = (do let v ← whole; standAt a.pos; holding [v] (truthy v))) : PT X a (tDT X.K Wx (bTru f)) := (pt_truth ha he).imp fun σ H Q q =>
  tG_one q fun bs R ρ e H w v m r q2 => by
    cases w with
    | loc n =>
      unfold kTru at q2
      cases hc : e.cell n with
      | none => simp only [hc] at q2; exact q2.elim
      | some c =>
        simp only [hc] at q2
        cases c with
        | lst xs =>
          obtain ⟨vs, h1, h2⟩ := m.cell n _ hc
          have e1 : v = .ref (ρ n) := r
          subst e1
          exact ⟨!xs.isEmpty, .inl ⟨vs, SqL.of h1, by rw [h2.isEmpty]⟩, q2.fin m rfl⟩
        | _ => exact q2.elim
    | d x =>
      unfold kTru at q2
      cases ht : truD x with
      | none => simp only [ht] at q2; exact q2.elim
      | some k =>
        simp only [ht] at q2
        refine ⟨k, ?_, q2.fin m rfl⟩
        have r : Rep X.K R x v := r
        cases r with
        | non => cases ht; rfl
        | bl c => cases ht; rfl
        | int i => cases ht; rfl
        | str y =>
          have ht : (if y.length ≤ sizeLine then some ((y.length : Int) != 0) else none) = some k := ht
          by_cases hl : y.length ≤ sizeLine
          · rw [if_pos hl] at ht
            cases ht
            exact ⟨hl, rfl⟩
          · rw [if_neg hl] at ht
            cases ht
        | lst h1 h2 => cases ht; exact .inl ⟨_, SqL.of (m.sub _ _ h1), by rw [h2.isEmpty]⟩
        | rd h1 h2 => cases ht; exact .inl ⟨_, m.sub.seq h1, by rw [h2.isEmpty]⟩
        | tup h1 h2 => cases ht; exact .inr (.inl ⟨_, (SqT.of (m.sub _ _ h1)), by rw [h2.isEmpty]⟩)
        | dic h1 h2 h3 =>
          cases ht
          refine .inr (.inr ⟨_, m.sub _ _ h1, ?_⟩)
          have e1 := congrArg List.isEmpty h2
          rw [List.isEmpty_map, List.isEmpty_map] at e1
          rw [e1]
        | obj h1 h2 h3 => cases ht
        | dct h1 h2 h3 => cases ht
        | fn f => cases ht
/-- a test that is a truth value -/
def kBl (w : W) : Env → Rs Bool := fun e => match w with
  | .d (.bl k) => .ok k e
  | _ => .fail
def bVal (f : Ev) : Env → Rs Bool := fun e => (f e).bind kBl
theorem d_ifExp {t : Env → Rs Bool} {f g : Ev} (hc : PT X c (tDT X.K Wx t)) (ha : PE X a (tD X.K Wx f)) (hb : PE X b (tD X.K Wx g)) : PE X (.IfExp c a b pos) (tD X.K Wx fun e => (t e).bind fun k e1 => if k = true then f e1 else g e1) := (pe_ifExp hc ha hb).imp fun σ H Q q =>
  tG_one q fun bs R ρ e H k v m r q2 => by
    have e1 : k = v := r
    subst e1
    cases k with
    | true => exact ⟨bs, R, ρ, e, m, q2⟩
    | false => exact ⟨bs, R, ρ, e, m, q2⟩

/-! argument lists -/
def evA : List Ev → Env → Rs (List W)
  | [], e => .ok [] e
  | f :: fs, e => (f e).bind fun w e1 => if wl e1 w = true then (evA fs e1).bind fun ws e2 => .ok (w :: ws) e2 else .fail
theorem a_nil : PA X [] (tDA X.K Wx (evA [])) := pa_nil.imp fun σ H Q ⟨b, R, ρ, e, m, q⟩ => q.fin m .nil
theorem a_cons {f : Ev} {fs : List Ev} (ha : PE X a (tD X.K Wx f)) (hr : PA X es (tDA X.K Wx (evA fs))) (hs : starEach (a :: es) X.env = (false, eval a X.env) :: starEach es X.env := by rfl) : PA X (a :: es) (tDA X.K Wx (evA (f :: fs))) := (pa_cons ha hr hs).imp fun σ H Q q =>
  tG_one q fun bs R ρ e H w v m r q2 => by
    split at q2
    · rename_i hl
      refine ⟨bs, R, ρ, e, m, (OkR.bind (L := lA X.K) q2).imp fun vs H2 h2 => ?_⟩
      obtain ⟨R2, ρ2, e2, ws, s2, l2, m2, r2, _, q3⟩ := h2
      exact q3.fin m2 (.cons (r.later hl s2 l2) r2)
    · exact q2.elim
end
end Dl
end
section
set_option Elab.async false
set_option linter.all false
set_option maxRecDepth 100000
set_option maxHeartbeats 4000000
namespace Dl
open PySem L2

section
variable {K : PySem.W.Frag}
/-! arithmetic -/
def addD : D → D → Option D
  | .int i, .int j => some (.int (i + j))
  | .str x, .str y => if x.length + y.length ≤ sizeLine then some (.str (x ++ y)) else none
  | .lst xs, .lst ys => if xs.length + ys.length ≤ sizeLine then some (.lst (xs ++ ys)) else none
  | .tup xs, .tup ys => if xs.length + ys.length ≤ sizeLine then some (.tup (xs ++ ys)) else none
  | _, _ => none
abbrev rAddS : R2 := fun x y H Q => ∃ i j, x = .str i ∧ y = .str j ∧ i.length + j.length ≤ sizeLine ∧ Q (.str (i ++ j)) H
abbrev rAddD (K : PySem.W.Frag) : R2 := fun x y H Q => rI0 (fun i j => .int (i + j)) x y H Q ∨ rAddS x y H Q ∨ rCat x y H Q ∨ rCatA K x y H Q
theorem op_addD {X : Cx} : OpR X (binaryOp .Add) (rAddD X.K) := op_add.or (op_add_str.or (op_cat.or op_catA))
theorem addD_ok : OpD K addD (rAddD K) := fun x y z v u R H Q hg r1 r2 s q n => by
  unfold addD at hg
  split at hg
  · cases hg; cases r1; cases r2
    exact .inl ⟨_, _, rfl, rfl, q _ (.int _)⟩
  · split at hg
    · rename_i hl
      cases hg; cases r1; cases r2
      exact .inr (.inl ⟨_, _, rfl, rfl, hl, q _ (.str _)⟩)
    · cases hg
  · split at hg
    · rename_i hl
      cases hg
      cases r1 with
      | lst h1 l1 =>
        cases r2 with
        | lst h2 l2 =>
          refine .inr (.inr (.inl ⟨_, _, _, _, rfl, rfl, s _ _ h1, s _ _ h2, by rw [← l1.length, ← l2.length]; exact hl, fun p hp => n p _ hp ?_⟩))
          have fr := s.free hp
          exact .lst upd_same ((RepL.mono (same_upd fr) l1).append (RepL.mono (same_upd fr) l2))
    · cases hg
  · split at hg
    · rename_i hl
      cases hg
      cases r1 with
      | tup h1 l1 =>
        cases r2 with
        | tup h2 l2 =>
          refine .inr (.inr (.inr ⟨_, _, _, _, rfl, rfl, (SqT.of (s _ _ h1)), (SqT.of (s _ _ h2)), by rw [← l1.length, ← l2.length]; exact hl, fun e => ?_, fun e e' => ?_, fun e e' p hp => n p _ hp ?_⟩))
          · subst e
            cases l1
            exact q _ (.tup h2 l2)
          · subst e'
            cases l2
            rw [List.append_nil] at q
            exact q _ (.tup h1 l1)
          · have fr := s.free hp
            exact .tup upd_same ((RepL.mono (same_upd fr) l1).append (RepL.mono (same_upd fr) l2))
    · cases hg
  · cases hg
def intD (g : Int → Int → Option Int) : D → D → Option D
  | .int i, .int j => match g i j with | some k => some (.int k) | none => none
  | _, _ => none
theorem intD_ok {C : Int → Int → Prop} {f : Int → Int → Int} {g : Int → Int → Option Int} (h : ∀ i j k, g i j = some k → C i j ∧ k = f i j) : OpD K (intD g) (rI C fun i j => .int (f i j)) := fun x y z v u R H Q hg r1 r2 s q n => by
  unfold intD at hg
  split at hg
  · rename_i i j
    cases hk : g i j with
    | none => simp only [hk] at hg; cases hg
    | some k =>
      simp only [hk] at hg; cases hg; cases r1; cases r2
      obtain ⟨h1, h2⟩ := h i j k hk
      exact ⟨i, j, rfl, rfl, h1, by subst h2; exact q _ (.int _)⟩
  · cases hg
theorem intD_ok0 {f : Int → Int → Int} {g : Int → Int → Option Int} (h : ∀ i j k, g i j = some k → k = f i j) : OpD K (intD g) (rI0 fun i j => .int (f i j)) := fun x y z v u R H Q hg r1 r2 s q n => by
  unfold intD at hg
  split at hg
  · rename_i i j
    cases hk : g i j with
    | none => simp only [hk] at hg; cases hg
    | some k =>
      simp only [hk] at hg; cases hg; cases r1; cases r2
      exact ⟨i, j, rfl, rfl, by have h2 := h i j k hk; subst h2; exact q _ (.int _)⟩
  · cases hg
def subD : D → D → Option D := intD fun i j => some (i - j)
theorem subD_ok : OpD K subD (rI0 fun i j => .int (i - j)) := intD_ok0 fun i j k h => (Option.some.inj h).symm
instance (i j : Int) : Decidable (CMul i j) := by unfold CMul; infer_instance
def mulI (i j : Int) : Option Int := if CMul i j then some (i * j) else none
def mulD : D → D → Option D
  | .int i, .int j => match mulI i j with | some k => some (.int k) | none => none
  | .lst xs, .int j => if -(2 ^ 63) ≤ j ∧ j < 2 ^ 63 ∧ xs.length * j.toNat ≤ sizeLine then some (.lst (List.replicate j.toNat xs).flatten) else none
  | _, _ => none
abbrev rMulD : R2 := fun x y H Q => rI CMul (fun i j => .int (i * j)) x y H Q ∨ rRep x y H Q
theorem op_mulD {X : Cx} : OpR X (binaryOp .Mult) rMulD := op_mul.or op_rep
theorem RepL.flat {R : Hp} {ds : List D} {vs : List V} (h : RepL K R ds vs) : ∀ k : Nat, RepL K R (List.replicate k ds).flatten (List.replicate k vs).flatten
  | 0 => .nil
  | k + 1 => by
    rw [List.replicate_succ, List.replicate_succ, List.flatten_cons, List.flatten_cons]
    exact h.append (h.flat k)
theorem mulD_ok : OpD K mulD rMulD := fun x y z v u R H Q hg r1 r2 s q n => by
  unfold mulD at hg
  split at hg
  · rename_i i j
    unfold mulI at hg
    by_cases hc : CMul i j
    · rw [if_pos hc] at hg; cases hg; cases r1; cases r2
      exact .inl ⟨i, j, rfl, rfl, hc, q _ (.int _)⟩
    · rw [if_neg hc] at hg; cases hg
  · split at hg
    · rename_i hl
      cases hg
      cases r2
      cases r1 with
      | lst h1 l1 =>
        refine .inr ⟨_, _, _, rfl, rfl, s _ _ h1, hl.1, hl.2.1, by rw [← l1.length]; exact hl.2.2, fun p hp => n p _ hp ?_⟩
        exact .lst upd_same (RepL.flat (RepL.mono (same_upd (s.free hp)) l1) _)
    · cases hg
  · cases hg
instance (i j : Int) : Decidable (CDivN i j) := by unfold CDivN; infer_instance
instance (i j : Int) : Decidable (CPow i j) := by unfold CPow; infer_instance
def fdivD : D → D → Option D := intD fun i j => if CDivN i j then some (i.fdiv j) else none
theorem fdivD_ok : OpD K fdivD (rI CDivN fun i j => .int (i.fdiv j)) := intD_ok fun i j k h => by
  split at h
  · rename_i hc; exact ⟨hc, (Option.some.inj h).symm⟩
  · cases h
def modD : D → D → Option D := intD fun i j => if j ≠ 0 then some (i.fmod j) else none
theorem modD_ok : OpD K modD (rI (fun _ j => j ≠ 0) fun i j => .int (i.fmod j)) := intD_ok fun i j k h => by
  split at h
  · rename_i hc; exact ⟨hc, (Option.some.inj h).symm⟩
  · cases h
def shlD : D → D → Option D := intD fun i j => if CPow i j then some (i * 2 ^ j.toNat) else none
theorem shlD_ok : OpD K shlD (rI CPow fun i j => .int (i * 2 ^ j.toNat)) := intD_ok fun i j k h => by
  split at h
  · rename_i hc; exact ⟨hc, (Option.some.inj h).symm⟩
  · cases h
def shrD : D → D → Option D := intD fun i j => if 0 ≤ j then some (i / 2 ^ j.toNat) else none
theorem shrD_ok : OpD K shrD (rI (fun _ j => 0 ≤ j) fun i j => .int (i / 2 ^ j.toNat)) := intD_ok fun i j k h => by
  split at h
  · rename_i hc; exact ⟨hc, (Option.some.inj h).symm⟩
  · cases h
def andD : D → D → Option D := intD fun i j => some (Builtin.bitAnd i j)
theorem andD_ok : OpD K andD (rI0 fun i j => .int (Builtin.bitAnd i j)) := intD_ok0 fun i j k h => (Option.some.inj h).symm

/-! comparisons -/
def cmpB (p : Int → Int → Bool) : D → D → Option Bool
  | .int i, .int j => some (p i j)
  | _, _ => none
theorem cmpB_ok (p : Int → Int → Bool) : OpB K (cmpB p) (rI0 fun i j => .bl (p i j)) := fun x y z v u R H Q hg r1 r2 s q => by
  unfold cmpB at hg
  split at hg
  · cases hg; cases r1; cases r2
    exact ⟨_, _, rfl, rfl, q⟩
  · cases hg
def strLt (x y : Str) : Bool := decide (x.cps.toList < y.cps.toList)
def ltB : D → D → Option Bool
  | .int i, .int j => some (decide (i < j))
  | .str x, .str y => some (strLt x y)
  | _, _ => none
theorem ltB_ok : OpB K ltB (fun x y H Q => rI0 (fun i j => .bl (decide (i < j))) x y H Q ∨ ∃ i j, x = .str i ∧ y = .str j ∧ Q (.bl (decide (i.cps.toList < j.cps.toList))) H) := fun x y z v u R H Q hg r1 r2 s q => by
  unfold ltB at hg
  split at hg
  · cases hg; cases r1; cases r2
    exact .inl ⟨_, _, rfl, rfl, q⟩
  · cases hg; cases r1; cases r2
    exact .inr ⟨_, _, rfl, rfl, q⟩
  · cases hg
theorem op_ltB {X : Cx} : OpR X (compareOp .Lt) (fun x y H Q => rI0 (fun i j => .bl (decide (i < j))) x y H Q ∨ ∃ i j, x = .str i ∧ y = .str j ∧ Q (.bl (decide (i.cps.toList < j.cps.toList))) H) := op_lt.or op_lt_str
abbrev leB : D → D → Option Bool := cmpB fun i j => decide (i ≤ j)
abbrev gtB : D → D → Option Bool := cmpB fun i j => decide (j < i)
abbrev geB : D → D → Option Bool := cmpB fun i j => decide (j ≤ i)

/-! equality -/
mutual
def toPy : D → Option PyData
  | .non => some .none
  | .bl b => some (.bool b)
  | .int i => some (.int i)
  | .str x => some (.str x)
  | .lst xs => match toPyL xs with | some ys => some (.list ys) | none => none
  | .rd xs => match toPyL xs with | some ys => some (.list ys) | none => none
  | .tup xs => match toPyL xs with | some ys => some (.tuple ys) | none => none
  | .dic _ => none
  | .obj _ _ => none
  | .dct _ => none
  | .fn _ => none
def toPyL : List D → Option (List PyData)
  | [] => some []
  | x :: xs => match toPy x, toPyL xs with | some y, some ys => some (y :: ys) | _, _ => none
end
mutual
theorem toPy_dp {R H : Hp} (s : Same R H) : ∀ {d : D} {v : V} {p : PyData}, toPy d = some p → Rep K R d v → Dp K H v p
  | .non, _, _, h, r => by cases r; cases h; exact .non
  | .bl b, _, _, h, r => by cases r; cases h; exact .bl b
  | .int b, _, _, h, r => by cases r; cases h; exact .int b
  | .str b, _, _, h, r => by cases r; cases h; exact .str b
  | .lst xs, _, _, h, r => by
    unfold toPy at h
    cases e : toPyL xs with
    | none => rw [e] at h; cases h
    | some ys =>
      rw [e] at h; cases h
      cases r with
      | lst h1 l1 => exact .lst (SqL.of (s _ _ h1)) (toPyL_dp s e l1)
  | .rd xs, _, _, h, r => by
    unfold toPy at h
    cases e : toPyL xs with
    | none => rw [e] at h; cases h
    | some ys =>
      rw [e] at h; cases h
      cases r with
      | rd h1 l1 => exact .lst (s.seq h1) (toPyL_dp s e l1)
  | .tup xs, _, _, h, r => by
    unfold toPy at h
    cases e : toPyL xs with
    | none => rw [e] at h; cases h
    | some ys =>
      rw [e] at h; cases h
      cases r with
      | tup h1 l1 => exact .tup ((SqT.of (s _ _ h1))) (toPyL_dp s e l1)
  | .dic _, _, _, h, _ => by unfold toPy at h; cases h
  | .obj _ _, _, _, h, _ => by unfold toPy at h; cases h
  | .dct _, _, _, h, _ => by unfold toPy at h; cases h
theorem toPyL_dp {R H : Hp} (s : Same R H) : ∀ {ds : List D} {vs : List V} {ps : List PyData}, toPyL ds = some ps → RepL K R ds vs → DpAll K H vs ps
  | [], _, _, h, r => by cases r; unfold toPyL at h; cases h; exact .nil
  | x :: xs, _, _, h, r => by
    unfold toPyL at h
    cases r with
    | cons r1 r2 =>
      cases e1 : toPy x with
      | none => rw [e1] at h; cases h
      | some y =>
        cases e2 : toPyL xs with
        | none => rw [e1, e2] at h; cases h
        | some ys =>
          rw [e1, e2] at h; cases h
          exact .cons (toPy_dp s e1 r1) (toPyL_dp s e2 r2)
end
def eqG (x y : D) : Option Bool :=
  match toPy x, toPy y with
  | some p, some q => if SeqAt.shaped p = true ∧ SeqAt.shaped q = true then some (PyData.eqv p q) else none
  | _, _ => none
/-- ==: flat data plainly, else by the data's own equality -/
def eqB : D → D → Option Bool
  | .non, .non => some true
  | .non, .int _ => some false
  | .int _, .non => some false
  | .non, .bl _ => some false
  | .bl _, .non => some false
  | .non, .str _ => some false
  | .str _, .non => some false
  | .int i, .int j => some (i == j)
  | .bl i, .bl j => some (i == j)
  | .str i, .str j => some (i == j)
  | .int _, .str _ => some false
  | .str _, .int _ => some false
  | .bl _, .str _ => some false
  | .str _, .bl _ => some false
  | x, y => eqG x y
def neB (x y : D) : Option Bool := match eqB x y with | some b => some (!b) | none => none
theorem eqB_ok : OpB K eqB (fun x y H Q => rEq x y H Q ∨ rEqD K x y H Q) := fun x y z v u R H Q hg r1 r2 s q => by
  unfold eqB at hg
  split at hg
  case h_15 =>
    right
    unfold eqG at hg
    split at hg
    · rename_i p p' e1 e2
      split at hg
      · rename_i hs
        cases hg
        exact ⟨p, p', toPy_dp s e1 r1, toPy_dp s e2 r2, hs.1, hs.2, q⟩
      · cases hg
    · cases hg
  all_goals
    left
    cases hg
    cases r1
    cases r2
    refine ⟨rfl, ?_⟩
    first
      | exact q
      | (rw [show ∀ (a b : V), a ≠ b → decide (a = b) = false from fun a b h => decide_eq_false h] <;> first | exact q | (intro z; cases z))
      | (rw [dec_int]; exact q)
      | (rw [dec_bl]; exact q)
      | (rw [dec_str]; exact q)
theorem neB_ok : OpB K neB (fun x y H Q => rNe x y H Q ∨ rNeD K x y H Q) := fun x y z v u R H Q hg r1 r2 s q => by
  unfold neB at hg
  cases he : eqB x y with
  | none => rw [he] at hg; cases hg
  | some k =>
    rw [he] at hg
    have e : (!k) = z := Option.some.inj hg
    subst e
    have h := eqB_ok x y k v u R H (fun a H' => ∃ c, a = .bl c ∧ Q (.bl (!c)) H') he r1 r2 s ⟨k, rfl, q⟩
    rcases h with ⟨h1, c, h2, h3⟩ | ⟨d, e, h1, h2, h3, h4, c, h5, h6⟩
    · refine .inl ⟨h1, ?_⟩
      cases h2
      exact h3
    · refine .inr ⟨d, e, h1, h2, h3, h4, ?_⟩
      cases h5
      exact h6
theorem op_eqB {X : Cx} (hu : X.A.units + 64 < cLine) : OpR X (compareOp .Eq) (fun x y H Q => rEq x y H Q ∨ rEqD X.K x y H Q) := op_eq.or (op_eqD hu)
theorem op_neB {X : Cx} (hu : X.A.units + 64 < cLine) : OpR X (compareOp .NotEq) (fun x y H Q => rNe x y H Q ∨ rNeD X.K x y H Q) := op_ne.or (op_neD hu)

/-! is None -/
def isNoneD : D → Bool
  | .non => true
  | _ => false
theorem rep_none {R : Hp} {x : D} {v : V} (r : Rep K R x v) : decide (v = .non) = isNoneD x := by
  cases r <;> first | rfl | (apply decide_eq_false; intro z; cases z)
def isNB : D → D → Option Bool
  | x, .non => some (isNoneD x)
  | _, _ => none
theorem isNB_ok : OpB K isNB (fun x y H Q => y = .non ∧ Q (.bl (decide (x = .non))) H) := fun x y z v u R H Q hg r1 r2 s q => by
  unfold isNB at hg
  split at hg
  · cases hg; cases r2
    exact ⟨rfl, by rw [rep_none r1]; exact q⟩
  · cases hg
def notNB : D → D → Option Bool
  | x, .non => some (!isNoneD x)
  | _, _ => none
theorem notNB_ok : OpB K notNB (fun x y H Q => y = .non ∧ Q (.bl (!decide (x = .non))) H) := fun x y z v u R H Q hg r1 r2 s q => by
  unfold notNB at hg
  split at hg
  · cases hg; cases r2
    exact ⟨rfl, by rw [rep_none r1]; exact q⟩
  · cases hg

/-! in, not in -/
def flatD : D → Option V
  | .non => some .non
  | .bl b => some (.bl b)
  | .int i => some (.int i)
  | .str x => some (.str x)
  | _ => none
theorem flatD_rep {R : Hp} {x : D} {v w : V} (h : flatD x = some w) (r : Rep K R x v) : v = w ∧ flatV v = true := by
  cases r <;> first | (cases h; exact ⟨rfl, rfl⟩) | cases h
def flatL : List D → Option (List V)
  | [] => some []
  | x :: xs => match flatD x, flatL xs with | some v, some vs => some (v :: vs) | _, _ => none
theorem flatL_rep {R : Hp} : ∀ {xs : List D} {vs ws : List V}, flatL xs = some ws → RepL K R xs vs → vs = ws ∧ vs.all flatV = true
  | [], _, _, h, .nil => by cases h; exact ⟨rfl, rfl⟩
  | x :: xs, _, _, h, .cons a b => by
    unfold flatL at h
    cases e1 : flatD x with
    | none => rw [e1] at h; cases h
    | some w =>
      cases e2 : flatL xs with
      | none => rw [e1, e2] at h; cases h
      | some ws =>
        rw [e1, e2] at h; cases h
        obtain ⟨h1, h2⟩ := flatD_rep e1 a
        obtain ⟨h3, h4⟩ := flatL_rep e2 b
        subst h1; subst h3
        exact ⟨rfl, by rw [List.all_cons, h2, h4]; rfl⟩
def inSeq (x : D) (ys : List D) : Option Bool := match flatD x, flatL ys with
  | some v, some vs => some (inV v vs)
  | _, _ => none
def strIn (x y : Str) : Bool := !(Builtin.Str.occurrences y x 0 y.length 1).isEmpty
def inB (x : D) : D → Option Bool
  | .lst ys => inSeq x ys
  | .rd ys => inSeq x ys
  | .tup ys => inSeq x ys
  | .str y => match x with | .str z => some (strIn z y) | _ => none
  | _ => none
def notInB (x y : D) : Option Bool := match inB x y with | some b => some (!b) | none => none
abbrev rInD (K : PySem.W.Frag) (neg : Bool) : R2 := fun x y H Q => rIn K neg x y H Q ∨ ∃ i j, x = .str i ∧ y = .str j ∧ Q (.bl (if neg then !(strIn i j) else strIn i j)) H
theorem inB_gen {neg : Bool} {x y : D} {z : Bool} {v u : V} {R H : Hp} {Q : VK} (hg : inB x y = some z) (r1 : Rep K R x v) (r2 : Rep K R y u) (s : Same R H) (q : Q (.bl (if neg then !z else z)) H) : rInD K neg v u H Q := by
  have sq : ∀ {ys : List D} {vs : List V} {p : Addr}, inSeq x ys = some z → RepL K R ys vs → u = .ref p → (SqL K H p vs ∨ SqT K H p vs) → rInD K neg v u H Q := fun {ys vs p} h l e t => by
    unfold inSeq at h
    cases e1 : flatD x with
    | none => rw [e1] at h; cases h
    | some w =>
      cases e2 : flatL ys with
      | none => rw [e1, e2] at h; cases h
      | some ws =>
        rw [e1, e2] at h; cases h
        obtain ⟨h1, h2⟩ := flatD_rep e1 r1
        obtain ⟨h3, h4⟩ := flatL_rep e2 l
        subst h1; subst h3
        exact .inl ⟨p, vs, e, t, h2, h4, q⟩
  cases r2 with
  | lst h1 l1 => exact sq hg l1 rfl (.inl (SqL.of (s _ _ h1)))
  | rd h1 l1 => exact sq hg l1 rfl (.inl (s.seq h1))
  | tup h1 l1 => exact sq hg l1 rfl (.inr ((SqT.of (s _ _ h1))))
  | str y =>
    cases r1 with
    | str x => cases hg; exact .inr ⟨x, y, rfl, rfl, q⟩
    | _ => cases hg
  | _ => cases hg
theorem inB_ok : OpB K inB (rInD K false) := fun x y z v u R H Q hg r1 r2 s q => inB_gen (neg := false) hg r1 r2 s q
theorem notInB_ok : OpB K notInB (rInD K true) := fun x y z v u R H Q hg r1 r2 s q => by
  unfold notInB at hg
  cases he : inB x y with
  | none => rw [he] at hg; cases hg
  | some k =>
    rw [he] at hg
    have e : (!k) = z := Option.some.inj hg
    subst e
    exact inB_gen (neg := true) he r1 r2 s q
theorem op_inB {X : Cx} : OpR X (compareOp .In) (rInD X.K false) := op_in_seq.or op_in_str
theorem op_notInB {X : Cx} : OpR X (compareOp .NotIn) (rInD X.K true) := op_notIn_seq.or L2.op_notIn_str
end
end Dl
end
section
set_option Elab.async false
set_option linter.all false
set_option maxRecDepth 100000
set_option maxHeartbeats 4000000
namespace Dl
open PySem L2

section
variable {K : PySem.W.Frag} {Wx : WX} {b : Bs} {R : Hp} {ρ : Nat → Addr} {e : Env} {σ : St} {H : Hp}

/-! new lists: frozen, or own in a register -/
def Env.open (e : Env) (k : Nat) : Bool := decide (e.np ≤ k) && (match e.M[k]? with | some none => true | _ => false) && e.noRef k
theorem Env.open_of {e : Env} {k : Nat} (h : e.open k = true) : e.np ≤ k ∧ e.cell k = none ∧ k < e.M.length ∧ e.noRef k = true := by
  unfold Env.open at h
  rw [Bool.and_eq_true, Bool.and_eq_true] at h
  obtain ⟨⟨h1, h2⟩, h3⟩ := h
  refine ⟨of_decide_eq_true h1, ?_, ?_, h3⟩
  · unfold Env.cell
    split at h2
    · rename_i q; rw [q]; rfl
    · cases h2
  · split at h2
    · rename_i q; exact (List.getElem?_eq_some_iff.mp q).1
    · cases h2
def newC (k : Nat) (c : Cell) : Ev := fun e => if e.open k = true then .ok (.loc k) (e.setC k (some c)) else .fail
def newL (keep : Option Nat) (xs : List D) : Ev := match keep with
  | none => fun e => .ok (.d (.lst xs)) e
  | some k => newC k (.lst xs)
theorem newC_ok {k : Nat} {c : Cell} {Q : VK} {p : Addr} {o : HO} (m : Md K b R ρ e σ H) (q : OkR K Wx (lW K) b R ρ e σ Q (newC k c e)) (hp : H p = none) (hc : CellAt K R (setR ρ k p) (upd H p o) p c) : Q (.ref p) (upd H p o) := by
  unfold newC at q
  split at q
  · rename_i ho
    obtain ⟨h1, h2, h3, h4⟩ := Env.open_of ho
    refine q R (setR ρ k p) (.ref p) (upd H p o) (Same.refl R) (fun n c' h => ?_) (m.freshC hp h2 h1 h4 hc) ?_
    · have hn : n ≠ k := fun z => by subst z; rw [h2] at h; cases h
      exact ⟨setR_ne hn, c', by rw [Env.cell_setC, if_neg (Ne.symm hn)]; exact h⟩
    · show V.ref p = .ref (setR ρ k p k)
      rw [setR_same]
  · exact q.elim
theorem newL_ok {keep : Option Nat} {xs : List D} {vs : List V} {Q : VK} {p : Addr} (m : Md K b R ρ e σ H) (q : OkR K Wx (lW K) b R ρ e σ Q (newL keep xs e)) (r : RepL K R xs vs) (hp : H p = none) : Q (.ref p) (upd H p (.lst vs)) := by
  cases keep with
  | none => exact OkR.finD q m hp (.lst upd_same (RepL.mono (same_upd (m.freshR hp)) r))
  | some k => exact newC_ok m q hp ⟨vs, upd_same, r⟩

theorem Paired.lengthEq {α β : Type} {F : α → β → Prop} : ∀ {l : List α} {m : List β}, Paired F l m → l.length = m.length
  | _, _, .nil => rfl
  | _, _, .cons _ t => by simp [Paired.lengthEq t]

/-! indexing -/
theorem atI_rep {xs : List D} {vs : List V} {i : Int} {d : D} (r : RepL K R xs vs) (h : atI xs i = some d) : ∃ v, atI vs i = some v ∧ Rep K R d v := by
  unfold atI at h ⊢
  rw [← r.length]
  cases q : ixN xs.length i with
  | none => rw [q] at h; cases h
  | some j =>
    rw [q] at h
    exact r.get h
theorem Paired.get2 {α β : Type} {F : α → β → Prop} : ∀ {l : List α} {m : List β} {i : Nat} {a : α}, Paired F l m → l[i]? = some a → ∃ c, m[i]? = some c ∧ F a c
  | _, _, _, _, .nil, h => by simp at h
  | _, _, 0, _, .cons r _, h => by simp at h; subst h; exact ⟨_, rfl, r⟩
  | _, _, i + 1, _, .cons _ t, h => by
    obtain ⟨c, h1, h2⟩ := Paired.get2 (i := i) t (by simpa using h)
    exact ⟨c, by simpa using h1, h2⟩
theorem atI_repW {xs : List W} {vs : List V} {i : Int} {d : W} (r : Paired (RepW K R ρ) xs vs) (h : atI xs i = some d) : ∃ v, atI vs i = some v ∧ RepW K R ρ d v := by
  unfold atI at h ⊢
  rw [← Paired.lengthEq r]
  cases q : ixN xs.length i with
  | none => rw [q] at h; cases h
  | some j =>
    rw [q] at h
    exact Paired.get2 r h
def okO (o : Option D) : Ev := fun e => match o with | some d => .ok (.d d) e | none => .fail
def okW (o : Option W) : Ev := fun e => match o with | some w => .ok w e | none => .fail
theorem okO_ok {o : Option D} {Q : VK} (q : OkR K Wx (lW K) b R ρ e σ Q (okO o e)) : ∃ d, o = some d ∧ OkR K Wx (lW K) b R ρ e σ Q (.ok (.d d) e) := by
  cases o with
  | none => exact q.elim
  | some d => exact ⟨d, rfl, q⟩
theorem okW_ok {o : Option W} {Q : VK} (q : OkR K Wx (lW K) b R ρ e σ Q (okW o e)) : ∃ d, o = some d ∧ OkR K Wx (lW K) b R ρ e σ Q (.ok d e) := by
  cases o with
  | none => exact q.elim
  | some d => exact ⟨d, rfl, q⟩
def ixDD : D → Int → Option D
  | .lst xs, i => atI xs i
  | .rd xs, i => atI xs i
  | .tup xs, i => atI xs i
  | .str z, i => if z.length ≤ sizeLine then match atI z.cps.toList i with | some c => some (.str ⟨#[c]⟩) | none => none else none
  | _, _ => none
def ixC : Cell → Int → Option W
  | .lst xs, i => match atI xs i with | some d => some (.d d) | none => none
  | .lw us, i => atI us i
  | _, _ => none
def kIx (w1 w2 : W) : Ev := fun e => match w2 with
  | .d (.int i) => match w1 with
    | .d x => okO (ixDD x i) e
    | .loc n => match e.cell n with
      | some c => okW (ixC c i) e
      | none => .fail
  | _ => .fail
theorem kIx_ok {w1 w2 : W} {v1 v2 : V} {Q : VK} (m : Md K b R ρ e σ H) (r1 : RepW K R ρ w1 v1) (r2 : RepW K R ρ w2 v2) (q : OkR K Wx (lW K) b R ρ e σ Q (kIx w1 w2 e)) : rIx K v1 v2 H Q := by
  unfold kIx at q
  split at q
  · rename_i i
    have r2 : Rep K R (.int i) v2 := r2
    cases r2
    cases w1 with
    | d x =>
      obtain ⟨d, hd, q2⟩ := okO_ok q
      clear q
      have r1 : Rep K R x v1 := r1
      cases r1 with
      | lst h1 l1 =>
        obtain ⟨v, hv, rv⟩ := atI_rep l1 hd
        exact .inl ⟨_, _, i, v, rfl, rfl, SqL.of (m.sub _ _ h1), hv, q2.fin (L := lW K) (a := .d d) m rv⟩
      | rd h1 l1 =>
        obtain ⟨v, hv, rv⟩ := atI_rep l1 hd
        exact .inl ⟨_, _, i, v, rfl, rfl, m.sub.seq h1, hv, q2.fin (L := lW K) (a := .d d) m rv⟩
      | tup h1 l1 =>
        obtain ⟨v, hv, rv⟩ := atI_rep l1 hd
        exact .inr (.inl ⟨_, _, i, v, rfl, rfl, (SqT.of (m.sub _ _ h1)), hv, q2.fin (L := lW K) (a := .d d) m rv⟩)
      | str z =>
        have hd : (if z.length ≤ sizeLine then match atI z.cps.toList i with | some c => some (D.str ⟨#[c]⟩) | none => none else none) = some d := hd
        by_cases hl : z.length ≤ sizeLine
        · rw [if_pos hl] at hd
          cases hc : atI z.cps.toList i with
          | none => rw [hc] at hd; cases hd
          | some c =>
            rw [hc] at hd
            cases hd
            exact .inr (.inr ⟨z, i, c, rfl, rfl, hl, hc, q2.fin m (Rep.str _)⟩)
        · rw [if_neg hl] at hd; cases hd
      | _ => cases hd
    | loc n =>
      have e1 : v1 = .ref (ρ n) := r1
      subst e1
      cases hc : e.cell n with
      | none => simp only [hc] at q; exact q.elim
      | some c =>
        simp only [hc] at q
        obtain ⟨w, hw, q2⟩ := okW_ok q
        clear q
        have ca := m.cell n c hc
        cases c with
        | lst xs =>
          obtain ⟨vs, h1, l1⟩ := ca
          have hw : (match atI xs i with | some d => some (W.d d) | none => none) = some w := hw
          cases hd : atI xs i with
          | none => rw [hd] at hw; cases hw
          | some d =>
            rw [hd] at hw; cases hw
            obtain ⟨v, hv, rv⟩ := atI_rep l1 hd
            exact .inl ⟨_, _, i, v, rfl, rfl, SqL.of h1, hv, q2.fin (L := lW K) (a := .d d) m rv⟩
        | lw us =>
          obtain ⟨vs, h1, l1⟩ := ca
          obtain ⟨v, hv, rv⟩ := atI_repW l1 hw
          exact .inl ⟨_, _, i, v, rfl, rfl, SqL.of h1, hv, q2.fin m rv⟩
        | _ => cases hw
  · exact q.elim

/-! slices -/
def cutL {α : Type} (xs : List α) (lo hi : Option Int) : List α := (xs.drop (HT.sIx xs.length 0 lo)).take (HT.sIx xs.length xs.length hi - HT.sIx xs.length 0 lo)
theorem RepL.cut {xs : List D} {vs : List V} (r : RepL K R xs vs) (lo hi : Option Int) : RepL K R (cutL xs lo hi) (cutV vs lo hi) := by
  unfold cutL cutV
  rw [r.length]
  exact (r.drop _).take _
def slD : D → Option Int → Option Int → Option D
  | .lst xs, lo, hi => some (.lst (cutL xs lo hi))
  | .rd xs, lo, hi => some (.lst (cutL xs lo hi))
  | .tup xs, lo, hi => some (.tup (cutL xs lo hi))
  | .str z, lo, hi => if z.length ≤ sizeLine then some (.str (cutS z lo hi)) else none
  | _, _, _ => none
def kSl (w : W) (lo hi : Option Int) : Ev := fun e => match w with
  | .d x => okO (slD x lo hi) e
  | .loc n => match e.cell n with
    | some (.lst xs) => .ok (.d (.lst (cutL xs lo hi))) e
    | _ => .fail
abbrev rSlD (K : PySem.W.Frag) : V → Option Int → Option Int → Hp → VK → Prop := fun x lo hi H Q => rSlL K x lo hi H Q ∨ rSlA K x lo hi H Q ∨ rSlS x lo hi H Q
theorem sl_D {X : Cx} : SlR X (rSlD X.K) := sl_list.or (sl_tupA.or sl_str)
theorem cutL_whole {α : Type} (xs : List α) {lo hi : Option Int} (h : HT.sIx xs.length 0 lo = 0 ∧ HT.sIx xs.length xs.length hi = xs.length) : cutL xs lo hi = xs := by
  unfold cutL
  rw [h.1, h.2]
  simp
theorem kSl_ok {w : W} {v : V} {lo hi : Option Int} {Q : VK} (m : Md K b R ρ e σ H) (r : RepW K R ρ w v) (q : OkR K Wx (lW K) b R ρ e σ Q (kSl w lo hi e)) : rSlD K v lo hi H Q := by
  cases w with
  | d x =>
    obtain ⟨d, hd, q2⟩ := okO_ok q
    clear q
    have r : Rep K R x v := r
    cases r with
    | lst h1 l1 =>
      cases hd
      exact .inl ⟨_, _, rfl, SqL.of (m.sub _ _ h1), fun p hp => q2.finD m hp (.lst upd_same (RepL.mono (same_upd (m.freshR hp)) (l1.cut lo hi)))⟩
    | rd h1 l1 =>
      cases hd
      exact .inl ⟨_, _, rfl, m.sub.seq h1, fun p hp => q2.finD m hp (.lst upd_same (RepL.mono (same_upd (m.freshR hp)) (l1.cut lo hi)))⟩
    | tup h1 l1 =>
      cases hd
      refine .inr (.inl ⟨_, _, rfl, (SqT.of (m.sub _ _ h1)), fun hw => ?_, fun hw p hp => q2.finD m hp (.tup upd_same (RepL.mono (same_upd (m.freshR hp)) (l1.cut lo hi)))⟩)
      rw [cutL_whole _ (by rw [l1.length]; exact hw)] at q2
      exact q2.fin m (Rep.tup h1 l1)
    | str z =>
      have hd : (if z.length ≤ sizeLine then some (D.str (cutS z lo hi)) else none) = some d := hd
      by_cases hl : z.length ≤ sizeLine
      · rw [if_pos hl] at hd
        cases hd
        exact .inr (.inr ⟨z, rfl, hl, q2.fin m (Rep.str _)⟩)
      · rw [if_neg hl] at hd; cases hd
    | _ => cases hd
  | loc n =>
    have e1 : v = .ref (ρ n) := r
    subst e1
    unfold kSl at q
    cases hc : e.cell n with
    | none => simp only [hc] at q; exact q.elim
    | some c =>
      simp only [hc] at q
      cases c with
      | lst xs =>
        obtain ⟨vs, h1, l1⟩ := m.cell n _ hc
        exact .inl ⟨_, _, rfl, SqL.of h1, fun p hp => OkR.finD q m hp (.lst upd_same (RepL.mono (same_upd (m.freshR hp)) (l1.cut lo hi)))⟩
      | _ => exact q.elim
end

section
variable {X : Cx} {Wx : WX} {a c : Expr} {es : List Expr} {pos : Pos}
def eIx (f g : Ev) : Ev := bin2 f g kIx
theorem d_ix {f g : Ev} (ha : PE X a (tD X.K Wx f)) (hb : PE X c (tD X.K Wx g)) (hs : PlainIx c) : PE X (.Subscript a c pos) (tD X.K Wx (eIx f g)) := (pe_ix ix_seq ha hb hs).imp fun σ H Q h =>
  tG_two h fun bs R ρ e H w1 w2 v1 v2 m r1 r2 q => kIx_ok m r1 r2 q
abbrev lO : Rl (Option Int) (Option Int) := fun _ _ => Eq
abbrev tDO (K : PySem.W.Frag) (Wx : WX) (f : Env → Rs (Option Int)) : TO := tG K Wx lO f
def oNone : Env → Rs (Option Int) := fun e => .ok none e
def oSome (f : Ev) : Env → Rs (Option Int) := fun e => (f e).bind fun w e1 => match w with | .d (.int i) => .ok (some i) e1 | _ => .fail
theorem _root_.L2.PO.imp {X : Cx} {a : Option Expr} {t t' : TO} (h : PO X a t) (i : ∀ σ H Q, t' σ H Q → t σ H Q) : PO X a t' := ⟨fun pins s σ H Q I q => h.run pins s σ H Q I (i σ H Q q)⟩
theorem o_none : PO X none (tDO X.K Wx oNone) := po_none.imp fun σ H Q ⟨b, R, ρ, e, m, q⟩ => q.fin m rfl
theorem o_some {f : Ev} (h : PE X a (tD X.K Wx f)) : PO X (some a) (tDO X.K Wx (oSome f)) := (po_some h).imp fun σ H Q q =>
  tG_one q fun bs R ρ e H w v m r q2 => by
    split at q2
    · rename_i i
      have r : Rep X.K R (.int i) v := r
      cases r
      exact ⟨i, rfl, q2.fin m rfl⟩
    · exact q2.elim
def eSl (f : Ev) (lo hi : Env → Rs (Option Int)) : Ev := fun e => (f e).bind fun w e1 => if wl e1 w = true then (lo e1).bind fun l e2 => if wl e2 w = true then (hi e2).bind fun h e3 => kSl w l h e3 else .fail else .fail
theorem d_sl {f : Ev} {lo hi : Option Expr} {fl fh : Env → Rs (Option Int)} {p2 : Pos} (ha : PE X a (tD X.K Wx f)) (hl : PO X lo (tDO X.K Wx fl)) (hh : PO X hi (tDO X.K Wx fh)) : PE X (.Subscript a (.Slice lo hi none p2) pos) (tD X.K Wx (eSl f fl fh)) := (pe_slice sl_D ha hl hh).imp fun σ H Q h =>
  tG_one h fun bs R ρ e H w v m r q => by
    split at q
    · rename_i h1
      refine ⟨bs, R, ρ, e, m, (OkR.bind (L := lO) q).imp fun l H2 h2 => ?_⟩
      obtain ⟨R2, ρ2, e2, l', s2, l2, m2, r2, _, q2⟩ := h2
      have e1 : l' = l := r2
      subst e1
      split at q2
      · rename_i h3
        refine ⟨bs, R2, ρ2, e2, m2, (OkR.bind (L := lO) q2).imp fun u H3 h3' => ?_⟩
        obtain ⟨R3, ρ3, e3, u', s3, l3, m3, r3, _, q3⟩ := h3'
        have e1 : u' = u := r3
        subst e1
        exact kSl_ok m3 ((r.later h1 s2 l2).later h3 s3 l3) q3
      · exact q2.elim
    · exact q.elim

/-! calls of built-ins -/
/-- what the rule r of a call asks follows from k -/
def CallD (K : PySem.W.Frag) (Wx : WX) (k : List W → Ev) (r : List V → Hp → VK → Prop) : Prop :=
  ∀ (b : Bs) (R : Hp) (ρ : Nat → Addr) (e : Env) (σ : St) (H : Hp) (ws : List W) (vs : List V) (Q : VK), Md K b R ρ e σ H → Paired (RepW K R ρ) ws vs → OkR K Wx (lW K) b R ρ e σ Q (k ws e) → r vs H Q
def eCB (k : List W → Ev) (fs : List Ev) : Ev := fun e => (evA fs e).bind k
theorem d_callB {k : List W → Ev} {fs : List Ev} {id : String} {x : Str} {p : Pos} {r : List V → Hp → VK → Prop} (hc : CallR X (.builtin id) r) (hk : CallD X.K Wx k r) (hg : Gl X x) (hm : X.mg x = none) (hv : bootBuiltins x = some (.builtin id)) (ha : PA X (a :: es) (tDA X.K Wx (evA fs)))
    (hn : x ≠ "__name__" := by decide) (hdb : (x == ("__debug__" : Str)) = false := by decide) (he : starEach (a :: es) X.env = (false, eval a X.env) :: starEach es X.env := by rfl) (hpl : (backTo pos (starEach es X.env)).any (·.1) = false := by rfl) :
    PE X (.Call (.Name x p) (a :: es) [] pos) (tD X.K Wx (eCB k fs)) := (pe_callB hc hg hm hv ha hn hdb he hpl).imp fun σ H Q h =>
  tG_one h fun bs R ρ e H ws vs m r q => hk bs R ρ e σ H ws vs Q m r q
theorem d_callT {k : List W → Ev} {fs : List Ev} {T : String} {x : Str} {p : Pos} {r : List V → Hp → VK → Prop} (hc : CallR X (.type T) r) (hk : CallD X.K Wx k r) (hg : Gl X x) (hm : X.mg x = none) (hv : bootBuiltins x = some (.type T)) (ha : PA X (a :: es) (tDA X.K Wx (evA fs)))
    (hn : x ≠ "__name__" := by decide) (hdb : (x == ("__debug__" : Str)) = false := by decide) (he : starEach (a :: es) X.env = (false, eval a X.env) :: starEach es X.env := by rfl) (hpl : (backTo pos (starEach es X.env)).any (·.1) = false := by rfl) :
    PE X (.Call (.Name x p) (a :: es) [] pos) (tD X.K Wx (eCB k fs)) := (pe_callTy hc hg hm hv ha hn hdb he hpl).imp fun σ H Q h =>
  tG_one h fun bs R ρ e H ws vs m r q => hk bs R ρ e σ H ws vs Q m r q
variable {K : PySem.W.Frag}
theorem pair1 {F : W → V → Prop} {w : W} {vs : List V} (r : Paired F [w] vs) : ∃ v, vs = [v] ∧ F w v := by
  cases r with
  | cons a t => cases t; exact ⟨_, rfl, a⟩
theorem pair2 {F : W → V → Prop} {w w' : W} {vs : List V} (r : Paired F [w, w'] vs) : ∃ v v', vs = [v, v'] ∧ F w v ∧ F w' v' := by
  cases r with
  | cons a t =>
    obtain ⟨v', e, r'⟩ := pair1 t
    subst e
    exact ⟨_, v', rfl, a, r'⟩
/-- one frozen argument, a plain answer -/
def k1 (g : D → Option D) : List W → Ev := fun ws e => match ws with
  | [.d x] => okO (g x) e
  | _ => .fail
theorem k1_ok {g : D → Option D} {r : List V → Hp → VK → Prop} (h : ∀ (x z : D) (v : V) (R H : Hp) (Q : VK), g x = some z → Rep K R x v → Same R H → (∀ u, Rep K R z u → Q u H) → (∀ p o, H p = none → Rep K (upd R p o) z (.ref p) → Q (.ref p) (upd H p o)) → r [v] H Q) : CallD K Wx (k1 g) r := fun b R ρ e σ H ws vs Q m rp q => by
  unfold k1 at q
  split at q
  · rename_i x
    obtain ⟨v, e1, rv⟩ := pair1 rp
    subst e1
    obtain ⟨z, hz, q⟩ := okO_ok q
    exact h x z v R H Q hz rv m.sub (fun u ru => q.fin m ru) fun p o hp rp => q.finD m hp rp
  · exact q.elim
/-! len -/
def lenD : D → Option D
  | .lst xs => some (.int xs.length)
  | .rd xs => some (.int xs.length)
  | .tup xs => some (.int xs.length)
  | .str z => if z.length ≤ sizeLine then some (.int z.length) else none
  | .dic kvs => some (.int kvs.length)
  | .dct kvs => some (.int kvs.length)
  | _ => none
def lenC : Cell → Option D
  | .lst xs => some (.int xs.length)
  | .lw xs => some (.int xs.length)
  | .dic kvs => some (.int kvs.length)
  | .dct kvs => some (.int kvs.length)
  | _ => none
def kLen : List W → Ev := fun ws e => match ws with
  | [.d x] => okO (lenD x) e
  | [.loc n] => match e.cell n with
    | some c => okO (lenC c) e
    | none => .fail
  | _ => .fail
abbrev rLenA0 (K : PySem.W.Frag) : List V → Hp → VK → Prop := fun xs H Q => (∃ x n, xs = [x] ∧ LenV K x H n ∧ Q (.int n) H) ∨ (∃ a kvs, xs = [V.ref a] ∧ H a = some (.dK kvs) ∧ Q (.int kvs.length) H)
abbrev rLenA (K : PySem.W.Frag) : List V → Hp → VK → Prop := fun xs H Q => rLenA0 K xs H Q ∨ rLenT xs H Q
theorem call_lenA : CallR X (.builtin "len") (rLenA X.K) := (call_len.or call_lenD).or call_len_dT
theorem kLen_ok : CallD K Wx kLen (rLenA K) := fun b R ρ e σ H ws vs Q m rp q => by
  unfold kLen at q
  split at q
  · rename_i x
    obtain ⟨v, e1, rv⟩ := pair1 rp
    subst e1
    obtain ⟨z, hz, q⟩ := okO_ok q
    have rv : Rep K R x v := rv
    cases rv with
    | lst h1 l1 => cases hz; exact .inl (.inl ⟨_, _, rfl, .inl ⟨_, SqL.of (m.sub _ _ h1), rfl⟩, q.fin m (by rw [l1.length]; exact Rep.int _)⟩)
    | rd h1 l1 => cases hz; exact .inl (.inl ⟨_, _, rfl, .inl ⟨_, m.sub.seq h1, rfl⟩, q.fin m (by rw [l1.length]; exact Rep.int _)⟩)
    | tup h1 l1 => cases hz; exact .inl (.inl ⟨_, _, rfl, .inr ⟨_, (SqT.of (m.sub _ _ h1)), rfl⟩, q.fin m (by rw [l1.length]; exact Rep.int _)⟩)
    | dic h1 h2 l1 =>
      cases hz
      have e2 := congrArg List.length h2
      rw [List.length_map, List.length_map] at e2
      exact .inl (.inr ⟨_, _, rfl, m.sub _ _ h1, q.fin m (by rw [← e2]; exact Rep.int _)⟩)
    | str z =>
      have hz : (if z.length ≤ sizeLine then some (D.int z.length) else none) = some _ := hz
      by_cases hl : z.length ≤ sizeLine
      · rw [if_pos hl] at hz
        cases hz
        exact .inl (.inl ⟨_, _, rfl, ⟨hl, rfl⟩, q.fin m (Rep.int _)⟩)
      · rw [if_neg hl] at hz; cases hz
    | dct h1 h2 l1 =>
      cases hz
      have e2 := congrArg List.length h2
      rw [List.length_map, List.length_map] at e2
      exact .inr ⟨_, _, rfl, m.sub _ _ h1, q.fin m (by rw [← e2]; exact Rep.int _)⟩
    | _ => cases hz
  · rename_i n
    obtain ⟨v, e1, rv⟩ := pair1 rp
    subst e1
    have e1 : v = .ref (ρ n) := rv
    subst e1
    cases hc : e.cell n with
    | none => simp only [hc] at q; exact q.elim
    | some c =>
      simp only [hc] at q
      obtain ⟨z, hz, q⟩ := okO_ok q
      have ca := m.cell n c hc
      cases c with
      | lst xs =>
        obtain ⟨vs, h1, l1⟩ := ca
        cases hz
        exact .inl (.inl ⟨_, _, rfl, .inl ⟨_, SqL.of h1, rfl⟩, q.fin m (by rw [l1.length]; exact Rep.int _)⟩)
      | lw xs =>
        obtain ⟨vs, h1, l1⟩ := ca
        cases hz
        exact .inl (.inl ⟨_, _, rfl, .inl ⟨_, SqL.of h1, rfl⟩, q.fin m (by rw [Paired.lengthEq l1]; exact Rep.int _)⟩)
      | dic kvs =>
        obtain ⟨ws, h1, h2, l1⟩ := ca
        cases hz
        have e2 := congrArg List.length h2
        rw [List.length_map, List.length_map] at e2
        exact .inl (.inr ⟨_, _, rfl, h1, q.fin m (by rw [← e2]; exact Rep.int _)⟩)
      | dct kvs =>
        obtain ⟨ws, h1, h2, l1⟩ := ca
        cases hz
        have e2 := congrArg List.length h2
        rw [List.length_map, List.length_map] at e2
        exact .inr ⟨_, _, rfl, h1, q.fin m (by rw [← e2]; exact Rep.int _)⟩
      | obj C fs => cases hz
  · exact q.elim
/-! int, list, sum -/
def intOf : D → Option D
  | .int i => some (.int i)
  | .bl k => some (.int (if k then 1 else 0))
  | _ => none
theorem kInt_ok : CallD K Wx (k1 intOf) (fun xs H Q => (∃ i, xs = [.int i] ∧ Q (.int i) H) ∨ ∃ k, xs = [.bl k] ∧ Q (.int (if k then 1 else 0)) H) := k1_ok fun x z v R H Q hz rv s q n => by
  cases rv <;> first | (cases hz; exact .inl ⟨_, rfl, q _ (.int _)⟩) | (cases hz; exact .inr ⟨_, rfl, q _ (.int _)⟩) | cases hz
def itemsD : D → Option (List D)
  | .lst xs => some xs
  | .rd xs => some xs
  | .tup xs => some xs
  | _ => none
theorem itemsD_ok {R H : Hp} {x : D} {v : V} {xs : List D} (h : itemsD x = some xs) (r : Rep K R x v) (s : Same R H) : ∃ p vs, v = .ref p ∧ (SqL K H p vs ∨ SqT K H p vs) ∧ RepL K R xs vs := by
  cases r with
  | lst h1 l1 => cases h; exact ⟨_, _, rfl, .inl (SqL.of (s _ _ h1)), l1⟩
  | rd h1 l1 => cases h; exact ⟨_, _, rfl, .inl (s.seq h1), l1⟩
  | tup h1 l1 => cases h; exact ⟨_, _, rfl, .inr ((SqT.of (s _ _ h1))), l1⟩
  | _ => cases h
def kList (keep : Option Nat) : List W → Ev := fun ws e => match ws with
  | [.d x] => match itemsD x with | some xs => newL keep xs e | none => .fail
  | [.loc n] => match e.cell n with
    | some (.lst xs) => newL keep xs e
    | _ => .fail
  | _ => .fail
theorem kList_ok {keep : Option Nat} : CallD K Wx (kList keep) (fun xs H Q => ∃ p ys, xs = [.ref p] ∧ (SqL K H p ys ∨ SqT K H p ys) ∧ ∀ l, H l = none → Q (.ref l) (upd H l (.lst ys))) := fun b R ρ e σ H ws vs Q m rp q => by
  unfold kList at q
  split at q
  · rename_i x
    obtain ⟨v, e1, rv⟩ := pair1 rp
    subst e1
    cases hx : itemsD x with
    | none => simp only [hx] at q; exact q.elim
    | some xs =>
      simp only [hx] at q
      obtain ⟨p, vs, e1, h1, l1⟩ := itemsD_ok (K := K) hx rv m.sub
      subst e1
      exact ⟨p, vs, rfl, h1, fun l hl => newL_ok m q l1 hl⟩
  · rename_i n
    obtain ⟨v, e1, rv⟩ := pair1 rp
    subst e1
    have e1 : v = .ref (ρ n) := rv
    subst e1
    split at q
    · rename_i xs hc
      obtain ⟨vs, h1, l1⟩ := m.cell n _ hc
      exact ⟨_, vs, rfl, .inl (SqL.of h1), fun l hl => newL_ok m q l1 hl⟩
    · exact q.elim
  · exact q.elim
def intsD : List D → Option (List Int)
  | [] => some []
  | .int i :: r => match intsD r with | some s => some (i :: s) | none => none
  | _ :: _ => none
theorem intsD_eq : ∀ {xs : List D} {ns : List Int}, intsD xs = some ns → xs = ns.map D.int
  | [], _, h => by cases h; rfl
  | .int i :: r, _, h => by
    unfold intsD at h
    cases q : intsD r with
    | none => rw [q] at h; cases h
    | some s => rw [q] at h; cases h; rw [intsD_eq q]; rfl
  | .non :: _, _, h => by cases h
  | .bl _ :: _, _, h => by cases h
  | .str _ :: _, _, h => by cases h
  | .lst _ :: _, _, h => by cases h
  | .tup _ :: _, _, h => by cases h
  | .rd _ :: _, _, h => by cases h
  | .dic _ :: _, _, h => by cases h
  | .obj _ _ :: _, _, h => by cases h
  | .dct _ :: _, _, h => by cases h
theorem intsD_map : ∀ ns : List Int, intsD (ns.map D.int) = some ns
  | [] => rfl
  | n :: ns => by rw [List.map_cons, intsD, intsD_map ns]
def sumD : D → Option D
  | .lst xs => match intsD xs with | some ns => some (.int ns.sum) | none => none
  | .rd xs => match intsD xs with | some ns => some (.int ns.sum) | none => none
  | _ => none
theorem kSum_ok : CallD K Wx (k1 sumD) (rSum K) := k1_ok fun x z v R H Q hz rv s q n => by
  have fin : ∀ {xs : List D} {p : Addr} {vs : List V}, (match intsD xs with | some ns => some (D.int ns.sum) | none => none) = some z → SqL K H p vs → RepL K R xs vs → rSum K [.ref p] H Q := fun {xs p vs} h h1 l1 => by
    cases hi : intsD xs with
    | none => rw [hi] at h; cases h
    | some ns =>
      rw [hi] at h; cases h
      rw [intsD_eq hi] at l1
      rw [l1.ints_inv] at h1
      exact ⟨p, ns, rfl, h1, q _ (.int _)⟩
  cases rv with
  | lst h1 l1 => exact fin hz (SqL.of (s _ _ h1)) l1
  | rd h1 l1 => exact fin hz (s.seq h1) l1
  | _ => cases hz
/-! min, max of two ints; abs -/
def k2 (g : D → D → Option D) : List W → Ev := fun ws e => match ws with
  | [.d x, .d y] => okO (g x y) e
  | _ => .fail
theorem k2_ok {g : D → D → Option D} {r : List V → Hp → VK → Prop} (h : ∀ (x y z : D) (v u : V) (R H : Hp) (Q : VK), g x y = some z → Rep K R x v → Rep K R y u → Same R H → (∀ u, Rep K R z u → Q u H) → r [v, u] H Q) : CallD K Wx (k2 g) r := fun b R ρ e σ H ws vs Q m rp q => by
  unfold k2 at q
  split at q
  · rename_i x y
    obtain ⟨v, u, e1, rv, ru⟩ := pair2 rp
    subst e1
    obtain ⟨z, hz, q⟩ := okO_ok q
    exact h x y z v u R H Q hz rv ru m.sub (fun u ru => q.fin m ru)
  · exact q.elim
def maxD : D → D → Option D := intD fun i j => some (if j > i then j else i)
def minD : D → D → Option D := intD fun i j => some (if j < i then j else i)
theorem kMax2_ok : CallD K Wx (k2 maxD) (fun xs H Q => ∃ i j, xs = [.int i, .int j] ∧ Q (.int (if j > i then j else i)) H) := k2_ok fun x y z v u R H Q hz r1 r2 s q => by
  cases r1 <;> first | (cases r2 <;> first | (cases hz; exact ⟨_, _, rfl, q _ (.int _)⟩) | cases hz) | cases hz
theorem kMin2_ok : CallD K Wx (k2 minD) (fun xs H Q => ∃ i j, xs = [.int i, .int j] ∧ Q (.int (if j < i then j else i)) H) := k2_ok fun x y z v u R H Q hz r1 r2 s q => by
  cases r1 <;> first | (cases r2 <;> first | (cases hz; exact ⟨_, _, rfl, q _ (.int _)⟩) | cases hz) | cases hz

/-! isinstance(x, T), T a built-in class -/
def tyD : D → Option String
  | .non => some "NoneType"
  | .bl _ => some "bool"
  | .int _ => some "int"
  | .str _ => some "str"
  | .lst _ => some "list"
  | .rd _ => none
  | .tup _ => some "tuple"
  | .dic _ => some "dict"
  | .obj _ _ => none
  | .dct _ => none
  | .fn _ => none
theorem tyT {H : Hp} {p : Addr} {vs : List V} (h : SqT K H p vs) : TyX K H (.ref p) (.type "tuple") := by
  rcases h with (h | ⟨o, h⟩) | ⟨o, its, n, h, c, _⟩
  · exact .base (.tup h)
  · exact .fTuple h
  · exact .kTuple h c
theorem tyD_ok {R H : Hp} {x : D} {v : V} {t : String} (h : tyD x = some t) (r : Rep K R x v) (s : Same R H) : TyX K H v (.type t) := by
  cases r with
  | non => cases h; exact .base .non
  | bl k => cases h; exact .base (.bl k)
  | int k => cases h; exact .base (.int k)
  | str k => cases h; exact .base (.str k)
  | lst h1 l1 => cases h; exact .base (.lst (s _ _ h1))
  | rd h1 l1 => cases h
  | tup h1 l1 => cases h; exact tyT ((SqT.of (s _ _ h1)))
  | dic h1 h2 l1 => cases h; exact .base (.dK (s _ _ h1))
  | obj h1 h2 l1 => cases h
  | dct h1 h2 l1 => cases h
  | fn f => cases h
def isiD (T : String) : D → Option D := fun x => match tyD x with | some t => (match kitB t T with | some k => some (.bl k) | none => none) | none => none
/-- isinstance(x, T): the class's name is evaluated as a value that is no data -/
def eIsi (T : String) (f : Ev) : Ev := fun e => (f e).bind fun w e1 => match w with | .d x => okO (isiD T x) e1 | _ => .fail
theorem d_isi {T : String} {f : Ev} {y : Str} {p p2 : Pos} (hg : Gl X "isinstance") (hm : X.mg "isinstance" = none) (hf : PE X a (tD X.K Wx f)) (hT : PE X (.Name y p2) (tC (.ty T)))
    (he : starEach [a, .Name y p2] X.env = (false, eval a X.env) :: starEach [.Name y p2] X.env := by rfl) (he2 : starEach [.Name y p2] X.env = (false, eval (.Name y p2) X.env) :: starEach [] X.env := by rfl) (hpl : (backTo pos (starEach [.Name y p2] X.env)).any (·.1) = false := by rfl) :
    PE X (.Call (.Name "isinstance" p) [a, .Name y p2] [] pos) (tD X.K Wx (eIsi T f)) := by
  refine (pe_callB (x := "isinstance") call_isi hg hm (by decide +kernel) (pa_cons hf (pa_cons hT pa_nil he2) he) (by decide) (by decide) he hpl).imp fun σ H Q h => ?_
  refine tG_one h fun bs R ρ e H w v m r q => ?_
  split at q
  · rename_i x
    obtain ⟨z, hz, q⟩ := okO_ok q
    unfold isiD at hz
    cases ht : tyD x with
    | none => rw [ht] at hz; cases hz
    | some t =>
      rw [ht] at hz
      simp only at hz
      cases hk : kitB t T with
      | none => rw [hk] at hz; cases hz
      | some k =>
        rw [hk] at hz; cases hz
        exact ⟨v, .ty T, .type t, .type T, k, rfl, .ty T, tyD_ok ht r m.sub, kit_ty hk, q.fin m (Rep.bl k)⟩
  · exact q.elim
end
end Dl
end
section
set_option Elab.async false
set_option linter.all false
set_option maxRecDepth 100000
set_option maxHeartbeats 4000000
namespace Dl
open PySem L2

/-! displays -/
section
variable {X : Cx} {Wx : WX} {a c : Expr} {es : List Expr} {pos : Pos} {K : PySem.W.Frag}
def kDisp (keep : Option Nat) : List W → Ev := fun ws e => if ws.length ≤ sizeLine then
    (match toDs ws with
      | some ds => newL keep ds e
      | none => match keep with
        | some k => if (ws.all fun w => !isLoc k w) = true then newC k (.lw ws) e else .fail
        | none => .fail)
  else .fail
def kTup : List W → Ev := fun ws e => if ws.length ≤ sizeLine then
    (match toDs ws with
      | some ds => .ok (.d (.tup ds)) e
      | none => .fail)
  else .fail
theorem lw_setR {R : Hp} {e : Env} {ρ : Nat → Addr} {k : Nat} {p : Addr} : ∀ {ws : List W} {vs : List V}, Paired (RepW K R ρ) ws vs → (∀ w ∈ ws, isLoc k w = false) → Paired (RepW K R (setR ρ k p)) ws vs := fun h hn =>
  Paired.monoMem h fun w v hm r => by
    cases w with
    | d x => exact r
    | loc n =>
      show v = .ref (setR ρ k p n)
      rw [setR_ne (fun z => by have := hn _ hm; subst z; simp [isLoc] at this)]
      exact r
theorem d_list {keep : Option Nat} {fs : List Ev} (ha : PA X es (tDA X.K Wx (evA fs))) : PE X (.List es pos) (tD X.K Wx (eCB (kDisp keep) fs)) := (pe_lst ha).imp fun σ H Q h =>
  tG_one h fun bs R ρ e H ws vs m r q => by
    unfold kDisp at q
    split at q
    · rename_i hl
      refine ⟨by rw [← Paired.lengthEq r]; exact hl, fun p hp => ?_⟩
      split at q
      · rename_i ds hd
        exact newL_ok m q (toDs_rep hd r) hp
      · rename_i hd
        split at q
        · rename_i k
          split at q
          · rename_i hw
            exact newC_ok m q hp ⟨vs, upd_same, lw_setR (e := e) r fun w hm => by
              have := List.all_eq_true.mp hw w hm
              simpa using this⟩
          · exact q.elim
        · exact q.elim
    · exact q.elim
theorem d_tup {fs : List Ev} {x1} (ha : PA X es (tDA X.K Wx (evA fs))) : PE X (.Tuple es x1 pos) (tD X.K Wx (eCB kTup fs)) := (pe_tup ha).imp fun σ H Q h =>
  tG_one h fun bs R ρ e H ws vs m r q => by
    unfold kTup at q
    split at q
    · rename_i hl
      refine ⟨by rw [← Paired.lengthEq r]; exact hl, fun p hp => ?_⟩
      split at q
      · rename_i ds hd
        exact OkR.finD q m hp (.tup upd_same (RepL.mono (same_upd (m.freshR hp)) (toDs_rep hd r)))
      · exact q.elim
    · exact q.elim

/-! methods of built-in types -/
def MethD (K : PySem.W.Frag) (Wx : WX) (k : W → List W → Ev) (r : V → List V → Hp → VK → Prop) : Prop :=
  ∀ (b : Bs) (R : Hp) (ρ : Nat → Addr) (e : Env) (σ : St) (H : Hp) (w : W) (v : V) (ws : List W) (vs : List V) (Q : VK), Md K b R ρ e σ H → RepW K R ρ w v → Paired (RepW K R ρ) ws vs → OkR K Wx (lW K) b R ρ e σ Q (k w ws e) → r v vs H Q
def TyD (K : PySem.W.Frag) (ty : Env → W → Bool) (T : String) : Prop := ∀ (b : Bs) (R : Hp) (ρ : Nat → Addr) (e : Env) (σ : St) (H : Hp) (w : W) (v : V), Md K b R ρ e σ H → RepW K R ρ w v → ty e w = true → tyV K T v H
def isLst (e : Env) : W → Bool
  | .d (.lst _) => true
  | .d (.rd _) => true
  | .d _ => false
  | .loc n => match e.cell n with | some (.lst _) => true | some (.lw _) => true | _ => false
def isStr (e : Env) : W → Bool
  | .d (.str _) => true
  | _ => false
theorem isLst_ok : TyD K isLst "list" := fun b R ρ e σ H w v m r h => by
  unfold isLst at h
  split at h
  · have r : Rep K R _ v := r
    cases r with
    | lst h1 l1 => exact .inl ⟨rfl, _, SqL.of (m.sub _ _ h1)⟩
  · have r : Rep K R _ v := r
    cases r with
    | rd h1 l1 => exact .inl ⟨rfl, _, m.sub.seq h1⟩
  · cases h
  · rename_i n
    have e1 : v = .ref (ρ n) := r
    subst e1
    split at h
    · rename_i hc
      obtain ⟨vs, h1, _⟩ := m.cell n _ hc
      exact .inl ⟨rfl, _, SqL.of h1⟩
    · rename_i hc
      obtain ⟨vs, h1, _⟩ := m.cell n _ hc
      exact .inl ⟨rfl, _, SqL.of h1⟩
    · cases h
theorem isStr_ok : TyD K isStr "str" := fun b R ρ e σ H w v m r h => by
  unfold isStr at h
  split at h
  · have r : Rep K R _ v := r
    cases r
    rfl
  · cases h
def eM (ty : Env → W → Bool) (k : W → List W → Ev) (f : Ev) (fs : List Ev) : Ev := fun e => (f e).bind fun w e1 => if (ty e1 w && wl e1 w) = true then (evA fs e1).bind (k w) else .fail
theorem d_meth {ty : Env → W → Bool} {k : W → List W → Ev} {T id : String} {r : V → List V → Hp → VK → Prop} {name : Str} {apos cpos : Pos} {o x : Expr} {f : Ev} {fs : List Ev} (pa : PlainAttrs T) (slot : Slot T name id) (hty : typeOf (.builtin id) = pure (.type "method_descriptor")) (hm : MtR X id r)
    (ht : TyD X.K ty T) (hk : MethD X.K Wx k r) (ho : PE X o (tD X.K Wx f)) (ha : PA X (x :: es) (tDA X.K Wx (evA fs)))
    (hbase : attributeBase o name X.env (eval o X.env) = eval o X.env := by rfl)
    (hfew : ((backTo cpos (starEach (x :: es) X.env)).all (fun x => !x.1) && (backToKw cpos (keywordEach [] X.env)).all (fun x => x.1.isSome)
      && decide ((x :: es).length + ([] : List Keyword).length + (if ([] : List Keyword).isEmpty then 0 else 1) < 30)) = true := by rfl)
    (hline : (apos.endLine == cpos.line) = true := by rfl) (hs : starEach (x :: es) X.env = (false, eval x X.env) :: starEach es X.env := by rfl) (hplain : (backTo cpos (starEach es X.env)).any (·.1) = false := by rfl) :
    PE X (.Call (.Attribute o name apos) (x :: es) [] cpos) (tD X.K Wx (eM ty k f fs)) := (pe_bm pa slot hty hm ho ha hbase hfew hline hs hplain).imp fun σ H Q h =>
  tG_one h fun bs R ρ e H w v m r q => by
    split at q
    · rename_i h1
      rw [Bool.and_eq_true] at h1
      refine ⟨ht bs R ρ e σ H w v m r h1.1, bs, R, ρ, e, m, (OkR.bind (L := lA X.K) q).imp fun vs H2 h2 => ?_⟩
      obtain ⟨R2, ρ2, e2, ws, s2, l2, m2, r2, _, q3⟩ := h2
      exact hk bs R2 ρ2 e2 σ H2 w v ws vs Q m2 (r.later h1.2 s2 l2) r2 q3
    · exact q.elim
theorem d_meth0 {ty : Env → W → Bool} {k : W → List W → Ev} {T id : String} {r : V → List V → Hp → VK → Prop} {name : Str} {apos cpos : Pos} {o : Expr} {f : Ev} (pa : PlainAttrs T) (slot : Slot T name id) (hty : typeOf (.builtin id) = pure (.type "method_descriptor")) (hm : MtR X id r)
    (ht : TyD X.K ty T) (hk : MethD X.K Wx k r) (ho : PE X o (tD X.K Wx f))
    (hbase : attributeBase o name X.env (eval o X.env) = eval o X.env := by rfl) (hline : (apos.endLine == cpos.line) = true := by rfl) :
    PE X (.Call (.Attribute o name apos) [] [] cpos) (tD X.K Wx (eM ty k f [])) := (pe_bm0 pa slot hty hm ho hbase hline).imp fun σ H Q h =>
  tG_one h fun bs R ρ e H w v m r q => by
    split at q
    · rename_i h1
      rw [Bool.and_eq_true] at h1
      exact ⟨ht bs R ρ e σ H w v m r h1.1, hk bs R ρ e σ H w v [] [] Q m r .nil q⟩
    · exact q.elim

/-! list methods on own cells -/
section
variable {b : Bs} {R : Hp} {ρ : Nat → Addr} {e : Env} {σ : St} {H : Hp}
theorem wr_ok {n : Nat} {c c' : Cell} {o : HO} {z : D} {u : V} {Q : VK} (m : Md K b R ρ e σ H) (q : OkR K Wx (lW K) b R ρ e σ Q (.ok (.d z) (e.setC n (some c')))) (hc : e.cell n = some c) (hc' : CellAt K R ρ (upd H (ρ n) o) (ρ n) c') (r : Rep K R z u) : Q u (upd H (ρ n) o) :=
  q R ρ u _ (Same.refl R) (fun k c1 h => ⟨rfl, by
    rw [Env.cell_setC]
    by_cases z : n = k
    · subst z; rw [if_pos rfl, if_pos (Env.cell_lt hc)]; exact ⟨_, rfl⟩
    · rw [if_neg z]; exact ⟨c1, h⟩⟩) (m.write hc hc') r
theorem lst_lw {xs : List D} {vs : List V} (r : RepL K R xs vs) : Paired (RepW K R ρ) (xs.map W.d) vs := by
  induction xs generalizing vs with
  | nil => cases r; exact .nil
  | cons x xs ih => cases r with
    | cons a t => exact .cons a (ih t)
theorem Paired.app {α β : Type} {F : α → β → Prop} : ∀ {l l' : List α} {m m' : List β}, Paired F l m → Paired F l' m' → Paired F (l ++ l') (m ++ m')
  | _, _, _, _, .nil, h => h
  | _, _, _, _, .cons a t, h => .cons a (Paired.app t h)
theorem Paired.setAt {α β : Type} {F : α → β → Prop} : ∀ {l : List α} {m : List β} (i : Nat) {a : α} {c : β}, Paired F l m → F a c → Paired F (l.set i a) (m.set i c)
  | _, _, _, _, _, .nil, _ => .nil
  | _, _, 0, _, _, .cons _ t, h => .cons h t
  | _, _, i + 1, _, _, .cons a t, h => .cons a (Paired.setAt i t h)
theorem Paired.dropLastP {α β : Type} {F : α → β → Prop} {l : List α} {m : List β} (h : Paired F l m) : Paired F l.dropLast m.dropLast := by
  induction h with
  | nil => exact .nil
  | cons r t ih => cases t with
    | nil => exact .nil
    | cons q t' => exact .cons r ih
theorem RepL.dropLast {xs : List D} {vs : List V} (h : RepL K R xs vs) : RepL K R xs.dropLast vs.dropLast := by
  induction xs generalizing vs with
  | nil => cases h; exact .nil
  | cons x xs ih => cases h with
    | cons r t =>
      cases t with
      | nil => exact .nil
      | cons r2 t2 => exact .cons r (ih (.cons r2 t2))
end
def pushC (c : Cell) (w : W) : Option Cell := match c, w with
  | .lst xs, .d y => if xs.length < sizeLine then some (.lst (xs ++ [y])) else none
  | .lst xs, .loc m => if xs.length < sizeLine then some (.lw (xs.map W.d ++ [.loc m])) else none
  | .lw us, w => if us.length < sizeLine then some (.lw (us ++ [w])) else none
  | _, _ => none
theorem pushC_ok {R : Hp} {ρ : Nat → Addr} {H : Hp} {a : Addr} {c c' : Cell} {w : W} {v : V} (h : pushC c w = some c') (ca : CellAt K R ρ H a c) (r : RepW K R ρ w v) : ∃ vs, H a = some (.lst vs) ∧ vs.length < sizeLine ∧ CellAt K R ρ (upd H a (.lst (vs ++ [v]))) a c' := by
  cases c with
  | lst xs =>
    obtain ⟨vs, h1, l1⟩ := ca
    cases w with
    | d y =>
      have h : (if xs.length < sizeLine then some (Cell.lst (xs ++ [y])) else none) = some c' := h
      by_cases hl : xs.length < sizeLine
      · rw [if_pos hl] at h; cases h
        exact ⟨vs, h1, by rw [← l1.length]; exact hl, _, upd_same, l1.append (.cons r .nil)⟩
      · rw [if_neg hl] at h; cases h
    | loc m =>
      have h : (if xs.length < sizeLine then some (Cell.lw (xs.map W.d ++ [.loc m])) else none) = some c' := h
      by_cases hl : xs.length < sizeLine
      · rw [if_pos hl] at h; cases h
        exact ⟨vs, h1, by rw [← l1.length]; exact hl, _, upd_same, Paired.app (lst_lw l1) (.cons r .nil)⟩
      · rw [if_neg hl] at h; cases h
  | lw us =>
    obtain ⟨vs, h1, l1⟩ := ca
    have h : (if us.length < sizeLine then some (Cell.lw (us ++ [w])) else none) = some c' := by cases w <;> exact h
    by_cases hl : us.length < sizeLine
    · rw [if_pos hl] at h; cases h
      exact ⟨vs, h1, by rw [← Paired.lengthEq l1]; exact hl, _, upd_same, Paired.app l1 (.cons r .nil)⟩
    · rw [if_neg hl] at h; cases h
  | dic kvs => cases w <;> cases h
  | dct kvs => cases w <;> cases h
  | obj C fs => cases w <;> cases h
def kAppend (w : W) (ws : List W) : Ev := fun e => match w, ws with
  | .loc n, [y] => match e.cell n with
    | some c => match pushC c y with
      | some c' => .ok (.d .non) (e.setC n (some c'))
      | none => .fail
    | none => .fail
  | _, _ => .fail
theorem kAppend_ok : MethD K Wx kAppend rAppend := fun b R ρ e σ H w v ws vs Q m r rs q => by
  unfold kAppend at q
  split at q
  · rename_i n y
    have e1 : v = .ref (ρ n) := r
    subst e1
    obtain ⟨u, e2, ru⟩ := pair1 rs
    subst e2
    cases hc : e.cell n with
    | none => simp only [hc] at q; exact q.elim
    | some c =>
      simp only [hc] at q
      cases hp : pushC c y with
      | none => simp only [hp] at q; exact q.elim
      | some c' =>
        simp only [hp] at q
        obtain ⟨us, h1, h2, h3⟩ := pushC_ok hp (m.cell n c hc) ru
        exact ⟨_, us, u, rfl, rfl, h1, h2, wr_ok m q hc h3 .non⟩
  · exact q.elim
def kPop (w : W) (ws : List W) : Ev := fun e => match w, ws with
  | .loc n, [] => match e.cell n with
    | some (.lst xs) => match xs[xs.length - 1]? with
      | some y => .ok (.d y) (e.setC n (some (.lst xs.dropLast)))
      | none => .fail
    | some (.lw xs) => match xs[xs.length - 1]? with
      | some (.d y) => .ok (.d y) (e.setC n (some (.lw xs.dropLast)))
      | _ => .fail
    | _ => .fail
  | _, _ => .fail
theorem kPop_ok : MethD K Wx kPop rPop := fun b R ρ e σ H w v ws vs Q m r rs q => by
  unfold kPop at q
  split at q
  · rename_i n
    have e1 : v = .ref (ρ n) := r
    subst e1
    cases rs
    split at q
    · rename_i xs hc
      obtain ⟨us, h1, l1⟩ := m.cell n _ hc
      split at q
      · rename_i y hy
        obtain ⟨u, hu, ru⟩ := l1.get hy
        exact ⟨_, us, u, rfl, rfl, h1, by rw [← l1.length]; exact hu, wr_ok (c' := .lst xs.dropLast) m q hc ⟨_, upd_same, l1.dropLast⟩ ru⟩
      · exact q.elim
    · rename_i xs hc
      obtain ⟨us, h1, l1⟩ := m.cell n _ hc
      split at q
      · rename_i y hy
        obtain ⟨u, hu, ru⟩ := Paired.get2 l1 hy
        exact ⟨_, us, u, rfl, rfl, h1, by rw [← Paired.lengthEq l1]; exact hu, wr_ok (c' := .lw xs.dropLast) m q hc ⟨_, upd_same, Paired.dropLastP l1⟩ ru⟩
      · exact q.elim
    · exact q.elim
  · exact q.elim
def kExtend (w : W) (ws : List W) : Ev := fun e => match w, ws with
  | .loc n, [.d (.lst ys)] => match e.cell n with
    | some (.lst xs) => if xs.length + ys.length ≤ sizeLine then .ok (.d .non) (e.setC n (some (.lst (xs ++ ys)))) else .fail
    | _ => .fail
  | _, _ => .fail
theorem kExtend_ok : MethD K Wx kExtend rExtend := fun b R ρ e σ H w v ws vs Q m r rs q => by
  unfold kExtend at q
  split at q
  · rename_i n ys
    have e1 : v = .ref (ρ n) := r
    subst e1
    obtain ⟨u, e2, ru⟩ := pair1 rs
    subst e2
    have ru : Rep K R (.lst ys) u := ru
    cases ru with
    | lst h3 l3 =>
      split at q
      · rename_i xs hc
        obtain ⟨us, h1, l1⟩ := m.cell n _ hc
        split at q
        · rename_i hl
          exact ⟨_, _, us, _, rfl, rfl, h1, m.sub _ _ h3, by rw [← l1.length, ← l3.length]; exact hl, wr_ok (c' := .lst (xs ++ ys)) m q hc ⟨_, upd_same, l1.append l3⟩ .non⟩
        · exact q.elim
      · exact q.elim
  · exact q.elim

/-! attributes -/
def fldO (C : Addr) (f : Str) (w : W) (e : Env) : Option W := match w with
  | .d (.obj C' fs) => if C' = C then (match fs.lookup f with | some d => some (.d d) | none => none) else none
  | .loc n => match e.cell n with
    | some (.obj C' fs) => if C' = C then fs.lookup f else none
    | _ => none
  | _ => none
def eFld (C : Addr) (f : Str) (g : Ev) : Ev := fun e => (g e).bind fun w e1 => okW (fldO C f w e1) e1
theorem lookup_rep {α β : Type} {F : α → β → Prop} (f : Str) : ∀ {fs : List (Str × α)} {ws : List (Str × β)} {a : α}, ws.map (·.1) = fs.map (·.1) → Paired F (fs.map (·.2)) (ws.map (·.2)) → fs.lookup f = some a → ∃ c, ws.lookup f = some c ∧ F a c
  | [], _, _, _, _, h => by simp at h
  | (g, x) :: fs, [], _, h1, _, _ => by simp at h1
  | (g, x) :: fs, (g', y) :: ws, a, h1, h2, h => by
    rw [List.map_cons, List.map_cons] at h1
    injection h1 with e1 e2
    have e1 : g' = g := e1
    subst e1
    cases h2 with
    | cons r t =>
      by_cases hq : f = g'
      · subst hq
        simp only [List.lookup, beq_self_eq_true] at h ⊢
        cases h
        exact ⟨y, rfl, r⟩
      · have hb : (f == g') = false := beq_eq_false_iff_ne.mpr hq
        simp only [List.lookup, hb] at h ⊢
        exact lookup_rep f e2 t h
theorem RepL.paired {R : Hp} : ∀ {ds : List D} {vs : List V}, RepL K R ds vs → Paired (Rep K R) ds vs
  | _, _, .nil => .nil
  | _, _, .cons a t => .cons a t.paired
theorem d_fld {C : Addr} {f : Str} {g : Ev} (cl : Cls X.K C) (na : NoAttr X.K C f) (he : PE X a (tD X.K Wx g)) (hb : attributeBase a f X.env (eval a X.env) = eval a X.env := by rfl) : PE X (.Attribute a f pos) (tD X.K Wx (eFld C f g)) := (pe_fld he hb).imp fun σ H Q h =>
  tG_one h fun bs R ρ e H w v m r q => by
    obtain ⟨w', hw, q2⟩ := okW_ok q
    clear q
    unfold fldO at hw
    split at hw
    · rename_i C' fs
      split at hw
      · rename_i hC
        subst hC
        have r : Rep X.K R (.obj C' fs) v := r
        cases r with
        | obj h1 h2 l1 =>
          cases hl : fs.lookup f with
          | none => rw [hl] at hw; cases hw
          | some d =>
            rw [hl] at hw; cases hw
            obtain ⟨u, hu, ru⟩ := lookup_rep f h2 l1.paired hl
            exact ⟨_, C', _, _, u, rfl, m.sub _ _ h1, cl, na, hu, q2.fin (L := lW X.K) (a := .d d) m ru⟩
      · cases hw
    · rename_i n
      have e1 : v = .ref (ρ n) := r
      subst e1
      split at hw
      · rename_i C' fs hc
        split at hw
        · rename_i hC
          subst hC
          obtain ⟨dx, ws, h1, h2, l1⟩ := m.cell n _ hc
          obtain ⟨u, hu, ru⟩ := lookup_rep f h2 l1 hw
          exact ⟨_, C', _, _, u, rfl, h1, cl, na, hu, q2.fin m ru⟩
        · cases hw
      · cases hw
    · cases hw
end
end Dl
end
section
set_option Elab.async false
set_option linter.all false
set_option maxRecDepth 100000
set_option maxHeartbeats 4000000
namespace Dl
open PySem L2

/-! statements -/
inductive SR where
  | nx (e : Env)
  | rt (w : W) (e : Env)
  | bk (e : Env)
  | ct (e : Env)
  | exn (x : Xn) (e : Env)
  | fail
abbrev Sv := Env → SR
def Rs.to {α : Type} (r : Rs α) (k : α → Env → SR) : SR := match r with
  | .ok a e => k a e
  | .exn x e => .exn x e
  | .fail => .fail

section
variable {K : PySem.W.Frag} {Wx : WX} {b : Bs} {R : Hp} {ρ : Nat → Addr} {e : Env} {σ : St} {H : Hp} {α β : Type}
def OkS (K : PySem.W.Frag) (Wx : WX) (b : Bs) (R : Hp) (D : Ends) : SR → Prop
  | .nx e' => ∀ R' ρ' σ' H', Same R R' → Md K b R' ρ' e' σ' H' → D.nx σ' H'
  | .rt w e' => ∀ R' ρ' σ' H' v, Same R R' → Md K b R' ρ' e' σ' H' → RepW K R' ρ' w v → D.rt v H'
  | .bk e' => ∀ R' ρ' σ' H', Same R R' → Md K b R' ρ' e' σ' H' → D.bk σ' H'
  | .ct e' => ∀ R' ρ' σ' H', Same R R' → Md K b R' ρ' e' σ' H' → D.ct σ' H'
  | .exn x e' => ∀ R' ρ' σ' H' cls d, Same R R' → Md K b R' ρ' e' σ' H' → ExR K R' x cls d → Wx cls d σ' H'
  | .fail => False
def tS (K : PySem.W.Frag) (Wx : WX) (f : Sv) : TS := fun D σ H => ∃ b R ρ e, Md K b R ρ e σ H ∧ OkS K Wx b R D (f e)
theorem OkS.rebase {R1 : Hp} {D : Ends} {r : SR} (s : Same R R1) (h : OkS K Wx b R D r) : OkS K Wx b R1 D r := by
  cases r with
  | nx e' => exact fun R' ρ' σ' H' s' m => h R' ρ' σ' H' (s.trans s') m
  | rt w e' => exact fun R' ρ' σ' H' v s' m r => h R' ρ' σ' H' v (s.trans s') m r
  | bk e' => exact fun R' ρ' σ' H' s' m => h R' ρ' σ' H' (s.trans s') m
  | ct e' => exact fun R' ρ' σ' H' s' m => h R' ρ' σ' H' (s.trans s') m
  | exn x e' => exact fun R' ρ' σ' H' cls d s' m r => h R' ρ' σ' H' cls d (s.trans s') m r
  | fail => exact h
/-- an expression, then what becomes of its value -/
theorem OkS.to {L : Rl α β} {D : Ends} {r : Rs α} {k : α → Env → SR} (h : OkS K Wx b R D (r.to k)) :
    OkR K Wx L b R ρ e σ (fun v H1 => ∃ R1 ρ1 e1 a, Same R R1 ∧ Live e e1 ρ ρ1 ∧ Md K b R1 ρ1 e1 σ H1 ∧ L R1 ρ1 a v ∧ OkS K Wx b R1 D (k a e1)) r := by
  cases r with
  | ok a e' => exact fun R' ρ' v H' s l m rp => ⟨R', ρ', e', a, s, l, m, rp, OkS.rebase s h⟩
  | exn x e' => exact h
  | fail => exact h
theorem tS_one {L : Rl α β} {f : Env → Rs α} {k : α → Env → SR} {D : Ends} {Z : β → Hp → Prop} (h : tS K Wx (fun e => (f e).to k) D σ H)
    (z : ∀ b R ρ e H a v, Md K b R ρ e σ H → L R ρ a v → OkS K Wx b R D (k a e) → Z v H) : tG K Wx L f σ H Z := by
  obtain ⟨b, R, ρ, e, m, h⟩ := h
  refine ⟨b, R, ρ, e, m, (OkS.to (L := L) h).imp fun v H1 h1 => ?_⟩
  obtain ⟨R1, ρ1, e1, a, s1, l1, m1, r1, q⟩ := h1
  exact z b R1 ρ1 e1 H1 a v m1 r1 q
/-- one statement after the other -/
def SR.seq (r : SR) (k : Sv) : SR := match r with
  | .nx e => k e
  | r => r
def sSeq (f g : Sv) : Sv := fun e => (f e).seq g
def sNil : Sv := fun e => .nx e
theorem OkS.seq {D : Ends} {r : SR} {g : Sv} (h : OkS K Wx b R D (r.seq g)) : OkS K Wx b R { D with nx := tS K Wx g D } r := by
  cases r with
  | nx e' => exact fun R' ρ' σ' H' s m => ⟨b, R', ρ', e', m, OkS.rebase s h⟩
  | rt w e' => exact h
  | bk e' => exact h
  | ct e' => exact h
  | exn x e' => exact h
  | fail => exact h
theorem OkS.imp {D D' : Ends} {r : SR} (h : OkS K Wx b R D r) (h1 : ∀ σ H, D.nx σ H → D'.nx σ H) (h2 : ∀ v H, D.rt v H → D'.rt v H) (h3 : ∀ σ H, D.bk σ H → D'.bk σ H) (h4 : ∀ σ H, D.ct σ H → D'.ct σ H) : OkS K Wx b R D' r := by
  cases r with
  | nx e' => exact fun R' ρ' σ' H' s' m => h1 _ _ (h R' ρ' σ' H' s' m)
  | rt w e' => exact fun R' ρ' σ' H' v s' m r => h2 _ _ (h R' ρ' σ' H' v s' m r)
  | bk e' => exact fun R' ρ' σ' H' s' m => h3 _ _ (h R' ρ' σ' H' s' m)
  | ct e' => exact fun R' ρ' σ' H' s' m => h4 _ _ (h R' ρ' σ' H' s' m)
  | exn x e' => exact h
  | fail => exact h
end

section
variable {X : Cx} {Wx : WX} {a c : Expr} {st : Stmt} {sts sts' : List Stmt} {pos : Pos} {K : PySem.W.Frag}
theorem s_nil : PSs X [] (tS X.K Wx sNil) := pss_nil.imp fun D σ H ⟨b, R, ρ, e, m, q⟩ => q R ρ σ H (Same.refl R) m
theorem s_cons {f g : Sv} (h1 : PS X st (tS X.K Wx f)) (h2 : PSs X sts (tS X.K Wx g)) : PSs X (st :: sts) (tS X.K Wx (sSeq f g)) := (pss_cons h1 h2).imp fun D σ H ⟨b, R, ρ, e, m, q⟩ => ⟨b, R, ρ, e, m, OkS.seq q⟩
theorem s_one {f : Sv} (h1 : PS X st (tS X.K Wx f)) : PSs X [st] (tS X.K Wx f) := pss_one h1
/-- a ghost step ahead: a cell is frozen -/
def sFrz (k : Nat) (f : Sv) : Sv := fun e => match frz k e with | some e' => f e' | none => .fail
theorem s_frz {k : Nat} {f : Sv} (h : PS X st (tS X.K Wx f)) : PS X st (tS X.K Wx (sFrz k f)) := h.imp fun D σ H ⟨b, R, ρ, e, m, q⟩ => by
  unfold sFrz at q
  cases hf : frz k e with
  | none => simp only [hf] at q; exact q.elim
  | some e' =>
    simp only [hf] at q
    obtain ⟨R', s, m'⟩ := m.frz hf
    exact ⟨b, R', ρ, e', m', OkS.rebase s q⟩
/-- slots forgotten -/
def clrL (ws : List (Option W)) : List Nat → List (Option W)
  | [] => ws
  | v :: vs => (clrL ws vs).set v none
def Env.clr (e : Env) (vs : List Nat) : Env := { e with ws := clrL e.ws vs }
theorem clrL_length (ws : List (Option W)) : ∀ vs : List Nat, (clrL ws vs).length = ws.length
  | [] => rfl
  | v :: vs => by unfold clrL; rw [List.length_set, clrL_length ws vs]
theorem clrL_some {ws : List (Option W)} {i : Nat} {w : W} : ∀ {vs : List Nat}, ((clrL ws vs)[i]?).join = some w → (ws[i]?).join = some w ∧ i ∉ vs
  | [], h => ⟨h, by simp⟩
  | v :: vs, h => by
    unfold clrL at h
    rw [List.getElem?_set] at h
    by_cases hi : v = i
    · subst hi
      rw [if_pos rfl] at h
      split at h <;> cases h
    · rw [if_neg hi] at h
      obtain ⟨h1, h2⟩ := clrL_some h
      exact ⟨h1, by simp only [List.mem_cons, not_or]; exact ⟨fun z => hi z.symm, h2⟩⟩
theorem clr_slot {e : Env} {vs : List Nat} {i : Nat} {w : W} (h : (e.clr vs).slot i = some w) : e.slot i = some w ∧ i ∉ vs := clrL_some h
theorem Md.clr {b : Bs} {R : Hp} {ρ : Nat → Addr} {e : Env} {σ : St} {H : Hp} (m : Md K b R ρ e σ H) (vs : List Nat) : Md K b R ρ (e.clr vs) σ H := m.less (fun i w h => (clr_slot h).1) (fun n c h => h) rfl (clrL_length _ _)

def sExpr (f : Ev) : Sv := fun e => (f e).to fun _ e' => .nx e'
theorem s_expr {f : Ev} (he : PE X a (tD X.K Wx f)) (hs : swapsWith a none pos.line X.env = pure false := by rfl) : PS X (.Expr a pos) (tS X.K Wx (sExpr f)) := (ps_expr he hs).imp fun D σ H h =>
  tS_one h fun b R ρ e H w v m r q => q R ρ σ H (Same.refl R) m
theorem s_doc {x j pos pos'} : PS X (.Expr (.Constant (.str x) j pos) pos') (tS X.K Wx sNil) := ps_doc.imp fun D σ H ⟨b, R, ρ, e, m, q⟩ => q R ρ σ H (Same.refl R) m
theorem s_pass : PS X (.Pass pos) (tS X.K Wx sNil) := ps_pass.imp fun D σ H ⟨b, R, ρ, e, m, q⟩ => q R ρ σ H (Same.refl R) m
theorem s_break : PS X (.Break pos) (tS X.K Wx fun e => .bk e) := ps_break.imp fun D σ H ⟨b, R, ρ, e, m, q⟩ => q R ρ σ H (Same.refl R) m
theorem s_continue : PS X (.Continue pos) (tS X.K Wx fun e => .ct e) := ps_continue.imp fun D σ H ⟨b, R, ρ, e, m, q⟩ => q R ρ σ H (Same.refl R) m
def sRet (f : Ev) : Sv := fun e => (f e).to fun w e' => .rt w e'
theorem s_ret {f : Ev} (he : PE X a (tD X.K Wx f)) : PS X (.Return (some a) pos) (tS X.K Wx (sRet f)) := (ps_ret he).imp fun D σ H h =>
  tS_one h fun b R ρ e H w v m r q => q R ρ σ H v (Same.refl R) m r
theorem s_retN : PS X (.Return none pos) (tS X.K Wx fun e => .rt (.d .non) e) := ps_retN.imp fun D σ H ⟨b, R, ρ, e, m, q⟩ => q R ρ σ H .non (Same.refl R) m .non
def sIf (t : Env → Rs Bool) (f g : Sv) : Sv := fun e => (t e).to fun k e1 => if k = true then f e1 else g e1
theorem s_if {t : Env → Rs Bool} {f g : Sv} (hc : PT X a (tDT X.K Wx t)) (ha : PSs X sts (tS X.K Wx f)) (hb : PSs X sts' (tS X.K Wx g)) : PS X (.If a sts sts' pos) (tS X.K Wx (sIf t f g)) := (ps_if hc ha hb).imp fun D σ H h =>
  tS_one h fun b R ρ e H k v m r q => by
    have e1 : k = v := r
    subst e1
    cases k with
    | true => exact ⟨b, R, ρ, e, m, q⟩
    | false => exact ⟨b, R, ρ, e, m, q⟩
/-- code that is never come to -/
theorem s_never : PS X st (tS X.K Wx fun _ => .fail) := ps_never.imp fun D σ H ⟨b, R, ρ, e, m, q⟩ => q.elim
theorem ss_never : PSs X sts (tS X.K Wx fun _ => .fail) := pss_never.imp fun D σ H ⟨b, R, ρ, e, m, q⟩ => q.elim
/-- name = value -/
def sSet (i : Nat) (f : Ev) : Sv := fun e => (f e).to fun w e' => .nx (e'.setS i (some w))
theorem s_set0 {i : Nat} {x : Str} {pos' : Pos} {f : Ev} (h : PS X (.Assign [.Name x pos'] a pos) (tAsg (tD X.K Wx f) (gName i))) : PS X (.Assign [.Name x pos'] a pos) (tS X.K Wx (sSet i f)) := h.imp fun D σ H h =>
  tS_one h fun b R ρ e H w v m r q => q R ρ _ H (Same.refl R) (m.setS r)
theorem s_set {i : Nat} {x : Str} {pos' : Pos} {f : Ev} (hN : X.N.Nodup) (hi : X.N[i]? = some x) (hx : Loc X.env.scope x) (he : PE X a (tD X.K Wx f)) (hs : swapsWith a (some (.Name x pos')) pos.line X.env = pure false := by rfl) (hf : X.fn x = true ∨ X.env.scope.names.lookup x = some .local := by first | exact .inl rfl | exact .inr rfl | assumption) :
    PS X (.Assign [.Name x pos'] a pos) (tS X.K Wx (sSet i f)) := s_set0 (ps_set hN hi hx he hs hf)

/-! targets of frozen data -/
abbrev Tg := D → Env → Option Env
def TgD (K : PySem.W.Frag) (g : Tg) (vs : List Nat) (t : TG) : Prop :=
  (∀ d e e', g d e = some e' → e'.M = e.M) ∧ ∀ (b : Bs) (R : Hp) (ρ : Nat → Addr) (e e' : Env) (d : D) (v : V) (σ : St) (H : Hp) (Q : St → Hp → Prop), Md K b R ρ e σ H → Rep K R d v → g d e = some e' →
    (∀ σ', Md K b R ρ e' σ' H → (∀ j, j ∉ vs → σ'[j]? = σ[j]?) → σ'.length = σ.length → Q σ' H) → t v σ H Q
def tgName (i : Nat) : Tg := fun d e => some (e.setS i (some (.d d)))
theorem tgName_ok (i : Nat) : TgD K (tgName i) [i] (gName i) := ⟨fun d e e' h => (by cases h; rfl), fun b R ρ e e' d v σ H Q m r h q => by
  cases h
  refine q _ (m.setS (w := .d d) r) (fun j hj => ?_) (List.length_set)
  rw [List.getElem?_set_ne (fun z => hj (by rw [z]; exact List.mem_singleton.mpr rfl))]⟩
/-- several -/
def tgL : List Tg → List D → Env → Option Env
  | [], [], e => some e
  | g :: gs, d :: ds, e => match g d e with | some e1 => tgL gs ds e1 | none => none
  | _, _, _ => none
def TgsD (K : PySem.W.Frag) (gs : List Tg) (vs : List Nat) (t : TGs) : Prop :=
  (∀ ds e e', tgL gs ds e = some e' → e'.M = e.M) ∧ ∀ (b : Bs) (R : Hp) (ρ : Nat → Addr) (e e' : Env) (ds : List D) (us : List V) (σ : St) (H : Hp) (Q : St → Hp → Prop), Md K b R ρ e σ H → RepL K R ds us → tgL gs ds e = some e' →
    (∀ σ', Md K b R ρ e' σ' H → (∀ j, j ∉ vs → σ'[j]? = σ[j]?) → σ'.length = σ.length → Q σ' H) → t us σ H Q
theorem tgs_nil : TgsD K [] [] gNil := ⟨fun ds e e' h => (by
  cases ds with
  | nil => cases h; rfl
  | cons d ds => cases h), fun b R ρ e e' ds us σ H Q m r h q => by
  cases r with
  | nil => cases h; exact ⟨rfl, q σ m (fun _ _ => rfl) rfl⟩
  | cons a t => cases h⟩
theorem tgs_cons {g : Tg} {gs : List Tg} {vs vs' : List Nat} {t : TG} {u : TGs} (h1 : TgD K g vs t) (h2 : TgsD K gs vs' u) : TgsD K (g :: gs) (vs ++ vs') (gCons t u) := ⟨fun ds e e' h => (by
  cases ds with
  | nil => cases h
  | cons d ds =>
    unfold tgL at h
    cases hg : g d e with
    | none => rw [hg] at h; cases h
    | some e1 => rw [hg] at h; exact (h2.1 ds e1 e' h).trans (h1.1 d e e1 hg)), fun b R ρ e e' ds us σ H Q m r h q => by
  cases r with
  | nil => cases h
  | cons a tl =>
    rename_i d v ds us
    unfold tgL at h
    cases hg : g d e with
    | none => rw [hg] at h; cases h
    | some e1 =>
      rw [hg] at h
      refine ⟨_, _, rfl, h1.2 b R ρ e e1 d v σ H _ m a hg fun σ1 m1 k1 l1 => ?_⟩
      refine h2.2 b R ρ e1 e' ds us σ1 H Q m1 tl h fun σ2 m2 k2 l2 => q σ2 m2 (fun j hj => ?_) (l2.trans l1)
      rw [k2 j fun z => hj (List.mem_append_right _ z), k1 j fun z => hj (List.mem_append_left _ z)]⟩
def tgTup (gs : List Tg) : Tg := fun d e => match d with | .tup ds => tgL gs ds e | _ => none
theorem tgTup_ok {gs : List Tg} {vs : List Nat} {u : TGs} {n : Nat} (hn : gs.length = n) (h2 : TgsD K gs vs u) : TgD K (tgTup gs) vs (gTup K n u) := ⟨fun d e e' h => (by
  cases d with
  | tup ds => exact h2.1 ds e e' h
  | _ => cases h), fun b R ρ e e' d v σ H Q m r h q => by
  cases r with
  | tup h1 l1 =>
    rename_i ds p us
    have h : tgL gs ds e = some e' := h
    refine ⟨p, us, rfl, (SqT.of (m.sub _ _ h1)), ?_, h2.2 b R ρ e e' ds us σ H Q m l1 h q⟩
    have hl : ∀ (gs : List Tg) (ds : List D) (e e' : Env), tgL gs ds e = some e' → ds.length = gs.length := by
      intro gs
      induction gs with
      | nil => intro ds e e' h; cases ds with
        | nil => rfl
        | cons d ds => cases h
      | cons g gs ih => intro ds e e' h; cases ds with
        | nil => cases h
        | cons d ds =>
          unfold tgL at h
          cases hg : g d e with
          | none => rw [hg] at h; cases h
          | some e1 => rw [hg] at h; rw [List.length_cons, List.length_cons, ih ds e1 e' h]
    rw [← l1.length, hl gs ds e e' h, hn]
  | _ => cases h⟩
/-- target = value, the value frozen data -/
def sAsg (g : Tg) (f : Ev) : Sv := fun e => (f e).to fun w e1 => match w with | .d d => (match g d e1 with | some e2 => .nx e2 | none => .fail) | _ => .fail
theorem s_asg {tg : Expr} {f : Ev} {g : Tg} {vs : List Nat} {t : TG} (he : PE X a (tD X.K Wx f)) (hg : PG X tg t) (hd : TgD X.K g vs t) (hs : swapsWithSole [tg] a pos.line X.env = pure false := by rfl) (hw : swappedStores [tg] a X.env = pure none := by rfl)
    (h1 : (assignEach [tg] X.env).map (·.2) = [assign tg X.env] := by rfl) : PS X (.Assign [tg] a pos) (tS X.K Wx (sAsg g f)) := (ps_asg he hg hs hw h1).imp fun D σ H h =>
  tS_one h fun b R ρ e H w v m r q => by
    split at q
    · rename_i d
      split at q
      · rename_i e2 h2
        exact hd.2 b R ρ e e2 d v σ H _ m r h2 fun σ' m' _ _ => q R ρ σ' H (Same.refl R) m'
      · exact q.elim
    · exact q.elim

/-! stores at o[i] -/
def setC (c : Cell) (i : Int) (w : W) : Option Cell := match c, w with
  | .lst xs, .d y => match ixN xs.length i with | some j => some (.lst (xs.set j y)) | none => none
  | .lw us, w => match ixN us.length i with | some j => some (.lw (us.set j w)) | none => none
  | _, _ => none
theorem setC_ok {R : Hp} {ρ : Nat → Addr} {H : Hp} {p : Addr} {c c' : Cell} {i : Int} {w : W} {v : V} (h : setC c i w = some c') (ca : CellAt K R ρ H p c) (r : RepW K R ρ w v) : ∃ vs j, H p = some (.lst vs) ∧ ixN vs.length i = some j ∧ CellAt K R ρ (upd H p (.lst (vs.set j v))) p c' := by
  cases c with
  | lst xs =>
    obtain ⟨vs, h1, l1⟩ := ca
    cases w with
    | d y =>
      have h : (match ixN xs.length i with | some j => some (Cell.lst (xs.set j y)) | none => none) = some c' := h
      cases hj : ixN xs.length i with
      | none => rw [hj] at h; cases h
      | some j =>
        rw [hj] at h; cases h
        exact ⟨vs, j, h1, by rw [← l1.length]; exact hj, _, upd_same, l1.set j r⟩
    | loc m => cases h
  | lw us =>
    obtain ⟨vs, h1, l1⟩ := ca
    have h : (match ixN us.length i with | some j => some (Cell.lw (us.set j w)) | none => none) = some c' := by cases w <;> exact h
    cases hj : ixN us.length i with
    | none => rw [hj] at h; cases h
    | some j =>
      rw [hj] at h; cases h
      exact ⟨vs, j, h1, by rw [← Paired.lengthEq l1]; exact hj, _, upd_same, Paired.setAt j l1 r⟩
  | dic kvs => cases w <;> cases h
  | dct kvs => cases w <;> cases h
  | obj C fs => cases w <;> cases h
def kSetI (w o i : W) : Sv := fun e => match o, i with
  | .loc n, .d (.int k) => match e.cell n with
    | some c => match setC c k w with
      | some c' => .nx (e.setC n (some c'))
      | none => .fail
    | none => .fail
  | _, _ => .fail
def sSetI (fo fi fv : Ev) : Sv := fun e => (fv e).to fun w e1 => if wl e1 w = true then (fo e1).to fun o e2 => if (wl e2 w && wl e2 o) = true then (fi e2).to fun i e3 => kSetI w o i e3 else .fail else .fail
theorem s_setI {o i : Expr} {fo fi fv : Ev} {p' : Pos} (hv : PE X a (tD X.K Wx fv)) (ho : PE X o (tD X.K Wx fo)) (hi : PE X i (tD X.K Wx fi))
    (ha : ∀ v, assign (.Subscript o i p') X.env v = (do
      let ov ← holding [v] (eval o X.env)
      let iv ← holding [v, ov] (eval i X.env)
      standAt p'
      holding [v, ov, iv] (setItem ov iv v)
      release [v, ov, iv] []) := by intro _; rfl)
    (hs : swapsWithSole [.Subscript o i p'] a pos.line X.env = pure false := by rfl) (hw : swappedStores [.Subscript o i p'] a X.env = pure none := by rfl)
    (h1 : (assignEach [.Subscript o i p'] X.env).map (·.2) = [assign (.Subscript o i p') X.env] := by rfl) : PS X (.Assign [.Subscript o i p'] a pos) (tS X.K Wx (sSetI fo fi fv)) := (ps_asg hv (pg_sub ho hi set_list ha) hs hw h1).imp fun D σ H h =>
  tS_one h fun b R ρ e H w v m r q => by
    split at q
    · rename_i hl
      refine ⟨b, R, ρ, e, m, (OkS.to (L := lW X.K) q).imp fun ov H2 h2 => ?_⟩
      obtain ⟨R2, ρ2, e2, wo, s2, l2, m2, r2, q2⟩ := h2
      split at q2
      · rename_i hl2
        rw [Bool.and_eq_true] at hl2
        refine ⟨b, R2, ρ2, e2, m2, (OkS.to (L := lW X.K) q2).imp fun iv H3 h3 => ?_⟩
        obtain ⟨R3, ρ3, e3, wi, s3, l3, m3, r3, q3⟩ := h3
        have rv := (r.later hl s2 l2).later hl2.1 s3 l3
        have ro := r2.later hl2.2 s3 l3
        unfold kSetI at q3
        split at q3
        · rename_i n k
          have e1 : ov = .ref (ρ3 n) := ro
          subst e1
          have r3 : Rep X.K R3 (.int k) iv := r3
          cases r3
          cases hc : e3.cell n with
          | none => simp only [hc] at q3; exact q3.elim
          | some c =>
            simp only [hc] at q3
            cases hp : setC c k w with
            | none => simp only [hp] at q3; exact q3.elim
            | some c' =>
              simp only [hp] at q3
              obtain ⟨vs, j, g1, g2, g3⟩ := setC_ok hp (m3.cell n c hc) rv
              exact ⟨_, vs, k, j, rfl, rfl, g1, g2, q3 R3 ρ3 σ _ (Same.refl R3) (m3.write hc g3)⟩
        · exact q3.elim
      · exact q2.elim
    · exact q.elim

/-! stores at o.f -/
def putW (f : Str) (w : W) : List (Str × W) → List (Str × W)
  | [] => [(f, w)]
  | (g, x) :: r => if g = f then (g, w) :: r else (g, x) :: putW f w r
theorem putW_rep {F : W → V → Prop} (f : Str) {w : W} {v : V} (r : F w v) : ∀ {fs : List (Str × W)} {ws : List (Str × V)}, ws.map (·.1) = fs.map (·.1) → Paired F (fs.map (·.2)) (ws.map (·.2)) →
    (putF f v ws).map (·.1) = (putW f w fs).map (·.1) ∧ Paired F ((putW f w fs).map (·.2)) ((putF f v ws).map (·.2))
  | [], [], _, _ => ⟨rfl, .cons r .nil⟩
  | [], _ :: _, h, _ => by simp at h
  | _ :: _, [], h, _ => by simp at h
  | (g, x) :: fs, (g', y) :: ws, h1, h2 => by
    rw [List.map_cons, List.map_cons] at h1
    injection h1 with e1 e2
    have e1 : g' = g := e1
    subst e1
    cases h2 with
    | cons a t =>
      by_cases hq : g' = f
      · subst hq
        rw [show putF g' v ((g', y) :: ws) = (g', v) :: ws from if_pos rfl, show putW g' w ((g', x) :: fs) = (g', w) :: fs from if_pos rfl]
        exact ⟨by rw [List.map_cons, List.map_cons, e2], .cons r t⟩
      · rw [show putF f v ((g', y) :: ws) = (g', y) :: putF f v ws from if_neg hq, show putW f w ((g', x) :: fs) = (g', x) :: putW f w fs from if_neg hq]
        obtain ⟨h3, h4⟩ := putW_rep f r e2 t
        exact ⟨by rw [List.map_cons, List.map_cons, h3], .cons a h4⟩
def kSetF (C : Addr) (f : Str) (w o : W) : Sv := fun e => match o with
  | .loc n => match e.cell n with
    | some (.obj C' fs) => if C' = C ∧ fs.length < 1000 then .nx (e.setC n (some (.obj C' (putW f w fs)))) else .fail
    | _ => .fail
  | _ => .fail
def sSetF (C : Addr) (f : Str) (fo fv : Ev) : Sv := fun e => (fv e).to fun w e1 => if wl e1 w = true then (fo e1).to fun o e2 => kSetF C f w o e2 else .fail
theorem s_setF {C : Addr} {f : Str} {o : Expr} {fo fv : Ev} {p' : Pos} (cl : Cls X.K C) (na : NoAttr X.K C f) (ho : PE X o (tD X.K Wx fo)) (hv : PE X a (tD X.K Wx fv)) (hs : swapsWith a (some (.Attribute o f p')) pos.line X.env = pure false := by rfl) :
    PS X (.Assign [.Attribute o f p'] a pos) (tS X.K Wx (sSetF C f fo fv)) := (ps_fld ho hv hs).imp fun D σ H h =>
  tS_one h fun b R ρ e H w v m r q => by
    split at q
    · rename_i hl
      refine ⟨b, R, ρ, e, m, (OkS.to (L := lW X.K) q).imp fun ov H2 h2 => ?_⟩
      obtain ⟨R2, ρ2, e2, wo, s2, l2, m2, r2, q2⟩ := h2
      have rv := r.later hl s2 l2
      unfold kSetF at q2
      split at q2
      · rename_i n
        have e1 : ov = .ref (ρ2 n) := r2
        subst e1
        split at q2
        · rename_i C' fs hc
          split at q2
          · rename_i hC
            obtain ⟨hC, hlen⟩ := hC
            subst hC
            obtain ⟨dx, ws, g1, g2, g3⟩ := m2.cell n _ hc
            have e3 := congrArg List.length g2
            rw [List.length_map, List.length_map] at e3
            obtain ⟨p1, p2⟩ := putW_rep f rv g2 g3
            exact ⟨_, C', dx, ws, rfl, g1, cl, na, by rw [e3]; exact hlen, q2 R2 ρ2 σ _ (Same.refl R2) (m2.write (c' := .obj C' (putW f w fs)) hc ⟨dx, _, upd_same, p1, p2⟩)⟩
          · exact q2.elim
        · exact q2.elim
      · exact q2.elim
    · exact q.elim

/-! x op= e at a name, plain data -/
def sAug (i : Nat) (g : D → D → Option D) (f : Ev) : Sv := fun e => match e.slot i with
  | some (.d x) => (f e).to fun w e1 => match w with
    | .d y => match g x y with
      | some z => .nx (e1.setS i (some (.d z)))
      | none => .fail
    | _ => .fail
  | _ => .fail
theorem s_aug {i : Nat} {x : Str} {f : Ev} {op : Operator} {r : R2} {g : D → D → Option D} {pos' : Pos} (hN : X.N.Nodup) (hi : X.N[i]? = some x) (hx : Loc X.env.scope x) (he : PE X a (tD X.K Wx f)) (ho : OpR X (inplaceOp op) r) (hd : OpD X.K g r) (hf : X.fn x = true ∨ X.env.scope.names.lookup x = some .local := by first | exact .inl rfl | exact .inr rfl | assumption) :
    PS X (.AugAssign (.Name x pos') op a pos) (tS X.K Wx (sAug i g f)) := (ps_aug (ti := r) hN hi hx he ho hf).imp fun D σ H ⟨b, R, ρ, e, m, q⟩ => by
  unfold sAug at q
  split at q
  · rename_i x hs
    obtain ⟨v, h1, h2⟩ := m.slot i _ hs
    refine ⟨v, h1, b, R, ρ, e, m, (OkS.to (L := lW X.K) q).imp fun u H2 h3 => ?_⟩
    obtain ⟨R2, ρ2, e2, w, s2, l2, m2, r2, q2⟩ := h3
    split at q2
    · rename_i y
      split at q2
      · rename_i z hz
        refine hd x y z v u R2 H2 _ hz (Rep.mono s2 h2) r2 m2.sub (fun u' ru => q2 R2 ρ2 _ H2 (Same.refl R2) (m2.setS (w := .d z) ru)) fun p o hp rp => ?_
        exact q2 _ ρ2 _ _ (same_upd (m2.freshR hp)) ((m2.freshD hp o).setS (w := .d z) rp)
      · exact q2.elim
    · exact q2.elim
  · exact q.elim
end
end Dl
end
section
set_option Elab.async false
set_option linter.all false
set_option maxRecDepth 100000
set_option maxHeartbeats 4000000
namespace Dl
open PySem L2

/-! what a for walks -/
structure Itr where
  items : List D
  chk : Env → Prop
def ItOk (K : PySem.W.Frag) (R : Hp) (ρ : Nat → Addr) (a : Itr) (J : It) : Prop :=
  ∀ (b : Bs) (R' : Hp) (ρ' : Nat → Addr) (e : Env) (σ : St) (H : Hp), Same R R' → (∀ n, n < e.np → ρ' n = ρ n) → Md K b R' ρ' e σ H → a.chk e →
    (∀ i, i < a.items.length → J.go i H ∧ ∀ x H', J.yld i H x H' → ∃ R'' d, a.items[i]? = some d ∧ Same R' R'' ∧ Md K b R'' ρ' e σ H' ∧ Rep K R'' d x) ∧ J.stop a.items.length H
abbrev lI (K : PySem.W.Frag) : Rl Itr It := fun R ρ a J => ItOk K R ρ a J
abbrev tDI (K : PySem.W.Frag) (Wx : WX) (f : Env → Rs Itr) : TI := tG K Wx (lI K) f

section
variable {K : PySem.W.Frag} {R : Hp} {ρ : Nat → Addr}
theorem ItOk.list {xs : List D} {vs : List V} {p : Addr} (hs : SqL K R p vs) (l : RepL K R xs vs) : ItOk K R ρ ⟨xs, fun _ => True⟩ (Itl K p) := fun b R' ρ' e σ H s _ m _ => by
  have w := walk_list (K := K) (a := p) (xs := vs)
  have hq : SqL K H p vs := m.sub.seq (s.seq hs)
  have hl := l.length
  refine ⟨fun i hi => ⟨w.goes i H (by rw [← hl]; exact hi) hq, fun x H' y => ?_⟩, by
    show (Itl K p).stop xs.length H
    rw [hl]; exact w.stops H hq⟩
  obtain ⟨e1, hx⟩ := w.yields i H x H' (by rw [← hl]; exact hi) hq y
  subst e1
  obtain ⟨d, hd, r⟩ := (RepL.mono s l).get2 hx
  exact ⟨R', d, hd, Same.refl _, m, r⟩
theorem ItOk.tup {xs : List D} {vs : List V} {p : Addr} (hs : SqT K R p vs) (l : RepL K R xs vs) : ItOk K R ρ ⟨xs, fun _ => True⟩ (Itt K p) := fun b R' ρ' e σ H s _ m _ => by
  have w := walk_tup (K := K) (a := p) (xs := vs)
  have hq : SqT K H p vs := sameT m.sub (sameT s hs)
  have hl := l.length
  refine ⟨fun i hi => ⟨w.goes i H (by rw [← hl]; exact hi) hq, fun x H' y => ?_⟩, by
    show (Itt K p).stop xs.length H
    rw [hl]; exact w.stops H hq⟩
  obtain ⟨e1, hx⟩ := w.yields i H x H' (by rw [← hl]; exact hi) hq y
  subst e1
  obtain ⟨d, hd, r⟩ := (RepL.mono s l).get2 hx
  exact ⟨R', d, hd, Same.refl _, m, r⟩
/-- an own list of the caller's: it must stand as it stood -/
theorem ItOk.own {xs : List D} {n : Nat} : ItOk K R ρ ⟨xs, fun e => e.cell n = some (.lst xs) ∧ n < e.np⟩ (Itl K (ρ n)) := fun b R' ρ' e σ H s hr m hc => by
  obtain ⟨hc, hn⟩ := hc
  obtain ⟨vs, h1, l⟩ := m.cell n _ hc
  rw [hr n hn] at h1
  have w := walk_list (K := K) (a := ρ n) (xs := vs)
  have hq : SqL K H (ρ n) vs := SqL.of h1
  have hl := l.length
  refine ⟨fun i hi => ⟨w.goes i H (by rw [← hl]; exact hi) hq, fun x H' y => ?_⟩, by
    show (Itl K (ρ n)).stop xs.length H
    rw [hl]; exact w.stops H hq⟩
  obtain ⟨e1, hx⟩ := w.yields i H x H' (by rw [← hl]; exact hi) hq y
  subst e1
  obtain ⟨d, hd, r⟩ := l.get2 hx
  exact ⟨R', d, hd, Same.refl _, m, r⟩
def rangeL (lo : Int) (n : Nat) : List D := (List.range n).map fun i => D.int (lo + (i : Nat))
theorem rangeL_get {lo : Int} {n i : Nat} (h : i < n) : (rangeL lo n)[i]? = some (.int (lo + (i : Nat))) := by
  unfold rangeL
  rw [List.getElem?_map, List.getElem?_range h]
  rfl
theorem rangeL_len (lo : Int) (n : Nat) : (rangeL lo n).length = n := by unfold rangeL; rw [List.length_map, List.length_range]
theorem ItOk.range {lo : Int} {n : Nat} : ItOk K R ρ ⟨rangeL lo n, fun _ => True⟩ (L2.Itr lo n) := fun b R' ρ' e σ H s hr m hc => by
  refine ⟨fun i hi => ?_, by show n ≤ (rangeL lo n).length; rw [rangeL_len]; exact Nat.le_refl _⟩
  have hi' : i < n := by
    have : i < (rangeL lo n).length := hi
    rw [rangeL_len] at this; exact this
  refine ⟨hi', fun x H' y => ?_⟩
  obtain ⟨e1, e2⟩ := y
  subst e1; subst e2
  exact ⟨R', _, rangeL_get hi', Same.refl _, m, .int _⟩
/-- enumerate, zip: new pairs -/
theorem pair_new {b : Bs} {e : Env} {σ : St} {H H' : Hp} {R' : Hp} {ρ' : Nat → Addr} {v x y : V} {d d' : D} {T : Addr} (m : Md K b R' ρ' e σ H) (hT : H T = none) (e1 : v = .ref T) (e2 : H' = upd H T (.tup [x, y])) (rx : Rep K R' d x) (ry : Rep K R' d' y) :
    ∃ R'', Same R' R'' ∧ Md K b R'' ρ' e σ H' ∧ Rep K R'' (.tup [d, d']) v := by
  subst e1; subst e2
  have fr := m.freshR hT
  exact ⟨_, same_upd fr, m.freshD hT _, .tup upd_same (.cons (Rep.mono (same_upd fr) rx) (.cons (Rep.mono (same_upd fr) ry) .nil))⟩
def enumL (xs : List D) : List D := xs.mapIdx fun i d => .tup [.int (i : Nat), d]
theorem enumL_len (xs : List D) : (enumL xs).length = xs.length := by unfold enumL; rw [List.length_mapIdx]
theorem ItOk.enum {xs : List D} {vs : List V} {p : Addr} (hs : SqL K R p vs) (l : RepL K R xs vs) : ItOk K R ρ ⟨enumL xs, fun _ => True⟩ (Ite K p) := fun b R' ρ' e σ H s _ m _ => by
  have w := walk_enum (K := K) (a := p) (xs := vs)
  have hq : SqL K H p vs := m.sub.seq (s.seq hs)
  have hl := l.length
  refine ⟨fun i hi => ?_, by
    show (Ite K p).stop (enumL xs).length H
    rw [enumL_len, hl]; exact w.stops H hq⟩
  have hi' : i < xs.length := by
    have : i < (enumL xs).length := hi
    rw [enumL_len] at this; exact this
  refine ⟨w.goes i H (by rw [← hl]; exact hi') hq, fun x H' y => ?_⟩
  obtain ⟨T, x1, y1, e1, hT, e2, hx, hy⟩ := w.yields i H x H' (by rw [← hl]; exact hi') hq y
  obtain ⟨d, hd, r⟩ := (RepL.mono s l).get2 hy
  have e3 : V.int (i : Nat) = x1 := Option.some.inj hx
  subst e3
  obtain ⟨R'', s2, m2, r2⟩ := pair_new m hT e1 e2 (.int _) r
  refine ⟨R'', _, ?_, s2, m2, r2⟩
  show (enumL xs)[i]? = _
  unfold enumL
  rw [List.getElem?_mapIdx, hd]
  rfl
theorem ItOk.enumOwn {xs : List D} {n : Nat} : ItOk K R ρ ⟨enumL xs, fun e => e.cell n = some (.lst xs) ∧ n < e.np⟩ (Ite K (ρ n)) := fun b R' ρ' e σ H s hr m hc => by
  obtain ⟨hc, hn⟩ := hc
  obtain ⟨vs, h1, l⟩ := m.cell n _ hc
  rw [hr n hn] at h1
  have w := walk_enum (K := K) (a := ρ n) (xs := vs)
  have hq : SqL K H (ρ n) vs := SqL.of h1
  have hl := l.length
  refine ⟨fun i hi => ?_, by
    show (Ite K (ρ n)).stop (enumL xs).length H
    rw [enumL_len, hl]; exact w.stops H hq⟩
  have hi' : i < xs.length := by
    have : i < (enumL xs).length := hi
    rw [enumL_len] at this; exact this
  refine ⟨w.goes i H (by rw [← hl]; exact hi') hq, fun x H' y => ?_⟩
  obtain ⟨T, x1, y1, e1, hT, e2, hx, hy⟩ := w.yields i H x H' (by rw [← hl]; exact hi') hq y
  obtain ⟨d, hd, r⟩ := l.get2 hy
  have e3 : V.int (i : Nat) = x1 := Option.some.inj hx
  subst e3
  obtain ⟨R'', s2, m2, r2⟩ := pair_new m hT e1 e2 (.int _) r
  refine ⟨R'', _, ?_, s2, m2, r2⟩
  show (enumL xs)[i]? = _
  unfold enumL
  rw [List.getElem?_mapIdx, hd]
  rfl
def zipL (xs ys : List D) : List D := List.zipWith (fun a c => D.tup [a, c]) xs ys
theorem zipL_len (xs ys : List D) : (zipL xs ys).length = min xs.length ys.length := by unfold zipL; rw [List.length_zipWith]
theorem ItOk.zip {xs ys : List D} {vs us : List V} {p p' : Addr} (hs : SqL K R p vs) (l : RepL K R xs vs) (hs' : SqL K R p' us) (l' : RepL K R ys us) : ItOk K R ρ ⟨zipL xs ys, fun _ => True⟩ (Itz K p p') := fun b R' ρ' e σ H s _ m _ => by
  have w := walk_zip (K := K) (a := p) (b := p') (xs := vs) (ys := us) (n := min xs.length ys.length) (by rw [l.length, l'.length])
  have hq : SqL K H p vs ∧ SqL K H p' us := ⟨m.sub.seq (s.seq hs), m.sub.seq (s.seq hs')⟩
  refine ⟨fun i hi => ?_, by
    show (Itz K p p').stop (zipL xs ys).length H
    rw [zipL_len]; exact w.stops H hq⟩
  have hi' : i < min xs.length ys.length := by
    have : i < (zipL xs ys).length := hi
    rw [zipL_len] at this; exact this
  refine ⟨w.goes i H hi' hq, fun x H' y => ?_⟩
  obtain ⟨T, x1, y1, e1, hT, e2, hx, hy⟩ := w.yields i H x H' hi' hq y
  obtain ⟨d, hd, r⟩ := (RepL.mono s l).get2 hx
  obtain ⟨d', hd', r'⟩ := (RepL.mono s l').get2 hy
  obtain ⟨R'', s2, m2, r2⟩ := pair_new m hT e1 e2 r r'
  refine ⟨R'', _, ?_, s2, m2, r2⟩
  show (zipL xs ys)[i]? = _
  unfold zipL
  rw [List.getElem?_zipWith, hd, hd']
theorem ItOk.rev {xs : List D} {vs : List V} {p : Addr} (hs : SqL K R p vs) (l : RepL K R xs vs) : ItOk K R ρ ⟨xs.reverse, fun _ => True⟩ (Itv K p vs.length) := fun b R' ρ' e σ H s _ m _ => by
  have w := walk_rev (K := K) (a := p) (xs := vs)
  have hq : SqL K H p vs := m.sub.seq (s.seq hs)
  have hl := l.length
  refine ⟨fun i hi => ?_, by
    show (Itv K p vs.length).stop xs.reverse.length H
    rw [List.length_reverse, hl]; exact w.stops H hq⟩
  have hi' : i < xs.length := by
    have : i < xs.reverse.length := hi
    rw [List.length_reverse] at this; exact this
  refine ⟨w.goes i H (by rw [← hl]; exact hi') hq, fun x H' y => ?_⟩
  obtain ⟨e1, hx⟩ := w.yields i H x H' (by rw [← hl]; exact hi') hq y
  subst e1
  obtain ⟨d, hd, r⟩ := (RepL.mono s l).get2 hx
  refine ⟨R', d, ?_, Same.refl _, m, r⟩
  show xs.reverse[i]? = some d
  rw [List.getElem?_reverse hi', hl]
  exact hd
def strL (z : Str) : List D := z.cps.toList.map fun c => .str ⟨#[c]⟩
theorem ItOk.str {z : Str} : ItOk K R ρ ⟨strL z, fun _ => True⟩ (Its z) := fun b R' ρ' e σ H s hr m hc => by
  have hl : (strL z).length = z.cps.size := by unfold strL; rw [List.length_map, Array.length_toList]
  refine ⟨fun i hi => ?_, by show z.cps.size ≤ (strL z).length; rw [hl]; exact Nat.le_refl _⟩
  have hi' : i < z.cps.size := by
    have : i < (strL z).length := hi
    rw [hl] at this; exact this
  refine ⟨hi', fun x H' y => ?_⟩
  obtain ⟨e1, c, hc, e2⟩ := y
  subst e1; subst e2
  refine ⟨R', _, ?_, Same.refl _, m, .str _⟩
  show (strL z)[i]? = _
  unfold strL
  rw [List.getElem?_map, Array.getElem?_toList, hc]
  rfl
end

section
variable {X : Cx} {Wx : WX} {a c tg : Expr} {es : List Expr} {pos : Pos}
def kItL (w : W) : Env → Rs Itr := fun e => match w with
  | .d (.lst xs) => .ok ⟨xs, fun _ => True⟩ e
  | .d (.rd xs) => .ok ⟨xs, fun _ => True⟩ e
  | .loc n => match e.cell n with
    | some (.lst xs) => .ok ⟨xs, fun e' => e'.cell n = some (.lst xs) ∧ n < e'.np⟩ e
    | _ => .fail
  | _ => .fail
def iL (f : Ev) : Env → Rs Itr := fun e => (f e).bind kItL
theorem i_list {f : Ev} (h : PE X a (tD X.K Wx f)) : PI X tg a (tDI X.K Wx (iL f)) := (pi_list h).imp fun σ H Q q =>
  tG_one q fun bs R ρ e H w v m r q2 => by
    unfold kItL at q2
    split at q2
    · have r : Rep X.K R _ v := r
      cases r with
      | lst h1 l1 => exact ⟨_, rfl, ⟨_, SqL.of (m.sub _ _ h1)⟩, q2.fin m (ItOk.list (SqL.of h1) l1)⟩
    · have r : Rep X.K R _ v := r
      cases r with
      | rd h1 l1 => exact ⟨_, rfl, ⟨_, m.sub.seq h1⟩, q2.fin m (ItOk.list h1 l1)⟩
    · rename_i n
      have e1 : v = .ref (ρ n) := r
      subst e1
      split at q2
      · rename_i xs hc
        obtain ⟨vs, h1, l⟩ := m.cell n _ hc
        exact ⟨_, rfl, ⟨vs, SqL.of h1⟩, q2.fin m ItOk.own⟩
      · exact q2.elim
    · exact q2.elim
def kItT (w : W) : Env → Rs Itr := fun e => match w with
  | .d (.tup xs) => .ok ⟨xs, fun _ => True⟩ e
  | _ => .fail
def iT (f : Ev) : Env → Rs Itr := fun e => (f e).bind kItT
theorem i_tup {f : Ev} (h : PE X a (tD X.K Wx f)) : PI X tg a (tDI X.K Wx (iT f)) := (pi_tup h).imp fun σ H Q q =>
  tG_one q fun bs R ρ e H w v m r q2 => by
    unfold kItT at q2
    split at q2
    · have r : Rep X.K R _ v := r
      cases r with
      | tup h1 l1 => exact ⟨_, rfl, ⟨_, (SqT.of (m.sub _ _ h1))⟩, q2.fin m (ItOk.tup (SqT.of h1) l1)⟩
    · exact q2.elim
def kItS (w : W) : Env → Rs Itr := fun e => match w with
  | .d (.str z) => .ok ⟨strL z, fun _ => True⟩ e
  | _ => .fail
def iS (f : Ev) : Env → Rs Itr := fun e => (f e).bind kItS
theorem i_str {f : Ev} (h : PE X a (tD X.K Wx f)) : PI X tg a (tDI X.K Wx (iS f)) := (pi_str h).imp fun σ H Q q =>
  tG_one q fun bs R ρ e H w v m r q2 => by
    unfold kItS at q2
    split at q2
    · have r : Rep X.K R _ v := r
      cases r with
      | str z => exact ⟨_, rfl, q2.fin m ItOk.str⟩
    · exact q2.elim
def kRng1 (ws : List W) : Env → Rs Itr := fun e => match ws with
  | [.d (.int j)] => if -(2 ^ 62) ≤ j ∧ j < 2 ^ 62 then .ok ⟨rangeL 0 j.toNat, fun _ => True⟩ e else .fail
  | _ => .fail
def iRg1 (f : Ev) : Env → Rs Itr := fun e => (evA [f] e).bind kRng1
theorem i_range1 {f : Ev} {p : Pos} (hg : Gl X "range") (hm : X.mg "range" = none) (ha : PA X [a] (tDA X.K Wx (evA [f]))) (hs : starEach [a] X.env = [(false, eval a X.env)] := by rfl) : PI X tg (.Call (.Name "range" p) [a] [] pos) (tDI X.K Wx (iRg1 f)) := (pi_range1 hg hm ha hs).imp fun σ H Q q =>
  tG_one q fun bs R ρ e H ws vs m r q2 => by
    unfold kRng1 at q2
    split at q2
    · rename_i j
      obtain ⟨v, e1, rv⟩ := pair1 r
      subst e1
      have rv : Rep X.K R (.int j) v := rv
      cases rv
      split at q2
      · rename_i hj
        exact ⟨j, rfl, hj.1, hj.2, q2.fin m ItOk.range⟩
      · exact q2.elim
    · exact q2.elim
def kRng2 (ws : List W) : Env → Rs Itr := fun e => match ws with
  | [.d (.int i), .d (.int j)] => if -(2 ^ 62) ≤ i ∧ i < 2 ^ 62 ∧ -(2 ^ 62) ≤ j ∧ j < 2 ^ 62 then .ok ⟨rangeL i (j - i).toNat, fun _ => True⟩ e else .fail
  | _ => .fail
def iRg2 (f g : Ev) : Env → Rs Itr := fun e => (evA [f, g] e).bind kRng2
theorem i_range2 {f g : Ev} {p : Pos} (hg : Gl X "range") (hm : X.mg "range" = none) (ha : PA X [a, c] (tDA X.K Wx (evA [f, g]))) (hs : starEach [a, c] X.env = [(false, eval a X.env), (false, eval c X.env)] := by rfl) (hs2 : starEach [c] X.env = [(false, eval c X.env)] := by rfl) : PI X tg (.Call (.Name "range" p) [a, c] [] pos) (tDI X.K Wx (iRg2 f g)) := (pi_range2 hg hm ha hs hs2).imp fun σ H Q q =>
  tG_one q fun bs R ρ e H ws vs m r q2 => by
    unfold kRng2 at q2
    split at q2
    · rename_i i j
      obtain ⟨v, u, e1, rv, ru⟩ := pair2 r
      subst e1
      have rv : Rep X.K R (.int i) v := rv
      have ru : Rep X.K R (.int j) u := ru
      cases rv
      cases ru
      split at q2
      · rename_i hj
        exact ⟨i, j, rfl, hj, q2.fin m ItOk.range⟩
      · exact q2.elim
    · exact q2.elim
def kEnum (ws : List W) : Env → Rs Itr := fun e => match ws with
  | [.d (.lst xs)] => .ok ⟨enumL xs, fun _ => True⟩ e
  | [.d (.rd xs)] => .ok ⟨enumL xs, fun _ => True⟩ e
  | [.loc n] => match e.cell n with
    | some (.lst xs) => .ok ⟨enumL xs, fun e' => e'.cell n = some (.lst xs) ∧ n < e'.np⟩ e
    | _ => .fail
  | _ => .fail
def iEnu (f : Ev) : Env → Rs Itr := fun e => (evA [f] e).bind kEnum
theorem i_enum {f : Ev} {p tpos : Pos} {elts : List Expr} {kk : Nat} (hg : Gl X "enumerate") (hm : X.mg "enumerate" = none) (ha : PA X [a] (tDA X.K Wx (evA [f]))) (hs : starEach [a] X.env = [(false, eval a X.env)] := by rfl) : PI X (.Tuple elts kk tpos) (.Call (.Name "enumerate" p) [a] [] pos) (tDI X.K Wx (iEnu f)) := (pi_enum hg hm ha hs).imp fun σ H Q q =>
  tG_one q fun bs R ρ e H ws vs m r q2 => by
    unfold kEnum at q2
    split at q2
    · obtain ⟨v, e1, rv⟩ := pair1 r
      subst e1
      have rv : Rep X.K R _ v := rv
      cases rv with
      | lst h1 l1 => exact ⟨_, _, rfl, SqL.of (m.sub _ _ h1), q2.fin m (ItOk.enum (SqL.of h1) l1)⟩
    · obtain ⟨v, e1, rv⟩ := pair1 r
      subst e1
      have rv : Rep X.K R _ v := rv
      cases rv with
      | rd h1 l1 => exact ⟨_, _, rfl, m.sub.seq h1, q2.fin m (ItOk.enum h1 l1)⟩
    · rename_i n
      obtain ⟨v, e1, rv⟩ := pair1 r
      subst e1
      have e1 : v = .ref (ρ n) := rv
      subst e1
      split at q2
      · rename_i xs hc
        obtain ⟨vs, h1, l⟩ := m.cell n _ hc
        exact ⟨_, vs, rfl, SqL.of h1, q2.fin m ItOk.enumOwn⟩
      · exact q2.elim
    · exact q2.elim
def kZip (ws : List W) : Env → Rs Itr := fun e => match ws with
  | [.d (.lst xs), .d (.lst ys)] => .ok ⟨zipL xs ys, fun _ => True⟩ e
  | _ => .fail
def iZp (f g : Ev) : Env → Rs Itr := fun e => (evA [f, g] e).bind kZip
theorem i_zip {f g : Ev} {t : TI} (h : PI X tg a t) (ht : t = iZip X.K (tDA X.K Wx (evA [f, g]))) : PI X tg a (tDI X.K Wx (iZp f g)) := by
  subst ht
  exact h.imp fun σ H Q q =>
    tG_one q fun bs R ρ e H ws vs m r q2 => by
      unfold kZip at q2
      split at q2
      · obtain ⟨v, u, e1, rv, ru⟩ := pair2 r
        subst e1
        have rv : Rep X.K R _ v := rv
        have ru : Rep X.K R _ u := ru
        cases rv with
        | lst h1 l1 =>
          cases ru with
          | lst h2 l2 => exact ⟨_, _, _, _, rfl, SqL.of (m.sub _ _ h1), SqL.of (m.sub _ _ h2), q2.fin m (ItOk.zip (SqL.of h1) l1 (SqL.of h2) l2)⟩
      · exact q2.elim
def kRev (ws : List W) : Env → Rs Itr := fun e => match ws with
  | [.d (.lst xs)] => .ok ⟨xs.reverse, fun _ => True⟩ e
  | [.d (.rd xs)] => .ok ⟨xs.reverse, fun _ => True⟩ e
  | _ => .fail
def iRv (f : Ev) : Env → Rs Itr := fun e => (evA [f] e).bind kRev
theorem i_rev {f : Ev} {p : Pos} (hg : Gl X "reversed") (hm : X.mg "reversed" = none) (ha : PA X [a] (tDA X.K Wx (evA [f]))) (hs : starEach [a] X.env = [(false, eval a X.env)] := by rfl) : PI X tg (.Call (.Name "reversed" p) [a] [] pos) (tDI X.K Wx (iRv f)) := (pi_reversed hg hm ha hs).imp fun σ H Q q =>
  tG_one q fun bs R ρ e H ws vs m r q2 => by
    unfold kRev at q2
    split at q2
    · obtain ⟨v, e1, rv⟩ := pair1 r
      subst e1
      have rv : Rep X.K R _ v := rv
      cases rv with
      | lst h1 l1 => exact ⟨_, _, rfl, SqL.of (m.sub _ _ h1), q2.fin m (ItOk.rev (SqL.of h1) l1)⟩
    · obtain ⟨v, e1, rv⟩ := pair1 r
      subst e1
      have rv : Rep X.K R _ v := rv
      cases rv with
      | rd h1 l1 => exact ⟨_, _, rfl, m.sub.seq h1, q2.fin m (ItOk.rev h1 l1)⟩
    · exact q2.elim

/-! for -/
open Classical in
noncomputable def forD (g : Tg) (chk : Env → Prop) (body : Sv) (fg : List Nat) : List D → Sv
  | [], e => if chk e then .nx e else .fail
  | d :: ds, e => if chk e then
      (match g d e with
        | none => .fail
        | some e1 => match body e1 with
          | .nx e2 => forD g chk body fg ds (e2.clr fg)
          | .ct e2 => forD g chk body fg ds (e2.clr fg)
          | .bk e2 => .nx e2
          | r => r)
    else .fail
noncomputable def sFor (it : Env → Rs Itr) (g : Tg) (fg : List Nat) (body : Sv) : Sv := fun e => (it e).to fun a e1 => forD g a.chk body fg a.items e1
theorem s_for {it : Expr} {body : List Stmt} {f : Env → Rs Itr} {g : Tg} {fg : List Nat} {vs : List Nat} {t : TG} {fb : Sv} (hp : PassesOwn (model X.prog X.w) X.A X.env X.xe) (hc : X.calm = true) (hi : PI X tg it (tDI X.K Wx f)) (hg : PG X tg t) (hd : TgD X.K g vs t) (hb : PSs X body (tS X.K Wx fb))
    (hs : ∀ x, foldedSetIterable it X.env x = pure x := by intro _; rfl) : PS X (.For tg it body [] pos) (tS X.K Wx (sFor f g fg fb)) := (ps_for hp hc hi hg hb hs).imp fun D σ H h => by
  refine tS_one h fun b R1 ρ1 e1 H1 a J m1 it1 q1 => ?_
  refine ⟨fun i m σ H => m = a.items.length - i ∧ i ≤ a.items.length ∧ ∃ R' ρ' e', Same R1 R' ∧ Md X.K b R' ρ' e' σ H ∧ OkS X.K Wx b R' D (forD g a.chk fb fg (a.items.drop i) e'), ⟨a.items.length, rfl, Nat.zero_le _, R1, ρ1, e1, Same.refl _, m1, q1⟩, ?_⟩
  rintro i m σ' H' ⟨rfl, hi, R', ρ', e', s', m', q'⟩
  have hnp : ∀ n, n < e'.np → ρ' n = ρ1 n := fun n h2 => by
    have h3 := m'.par n h2
    have h4 := m1.par n (by rw [← m1.npl, m'.npl]; exact h2)
    rw [h4] at h3
    exact (Option.some.inj h3).symm
  by_cases hlt : i < a.items.length
  · have hdrop : a.items.drop i = a.items[i] :: a.items.drop (i + 1) := List.drop_eq_getElem_cons hlt
    rw [hdrop] at q'
    unfold forD at q'
    by_cases hchk : a.chk e'
    · rw [if_pos hchk] at q'
      have io := it1 b R' ρ' e' σ' H' s' hnp m' hchk
      · obtain ⟨go, yl⟩ := io.1 i hlt
        refine .inr ⟨go, fun σ2 H2 => ∃ m2, m2 < a.items.length - i ∧ (m2 = a.items.length - (i + 1) ∧ i + 1 ≤ a.items.length ∧ ∃ R2 ρ2 e2, Same R1 R2 ∧ Md X.K b R2 ρ2 e2 σ2 H2 ∧ OkS X.K Wx b R2 D (forD g a.chk fb fg (a.items.drop (i + 1)) e2)), fun σ2 H2 n2 => n2, fun x H2 y => ?_⟩
        obtain ⟨R'', d, hd1, s2, m2, r2⟩ := yl x H2 y
        have ed : a.items[i] = d := by
          rw [List.getElem?_eq_getElem hlt] at hd1
          exact Option.some.inj hd1
        rw [ed] at q'
        cases hge : g d e' with
        | none => simp only [hge] at q'; exact q'.elim
        | some e2 =>
          simp only [hge] at q'
          refine hd.2 b R'' ρ' e' e2 d x σ' H2 _ m2 r2 hge fun σ3 m3 _ _ => ⟨b, R'', ρ', e2, m3, ?_⟩
          have q2 := OkS.rebase s2 q'
          cases hbe : fb e2 with
          | nx e3 =>
            simp only [hbe] at q2
            exact fun R4 ρ4 σ4 H4 s4 m4 => ⟨_, by omega, rfl, by omega, R4, ρ4, e3.clr fg, s'.trans (s2.trans s4), m4.clr fg, OkS.rebase s4 q2⟩
          | ct e3 =>
            simp only [hbe] at q2
            exact fun R4 ρ4 σ4 H4 s4 m4 => ⟨_, by omega, rfl, by omega, R4, ρ4, e3.clr fg, s'.trans (s2.trans s4), m4.clr fg, OkS.rebase s4 q2⟩
          | bk e3 => simp only [hbe] at q2; exact q2
          | rt w e3 => simp only [hbe] at q2; exact q2
          | exn x e3 => simp only [hbe] at q2; exact q2
          | fail => simp only [hbe] at q2; exact q2
    · rw [if_neg hchk] at q'; exact q'.elim
  · have e0 : i = a.items.length := by omega
    subst e0
    rw [List.drop_length] at q'
    unfold forD at q'
    by_cases hchk : a.chk e'
    · rw [if_pos hchk] at q'
      have io := it1 b R' ρ' e' σ' H' s' hnp m' hchk
      · exact .inl ⟨io.2, q' R' ρ' σ' H' (Same.refl _) m'⟩
    · rw [if_neg hchk] at q'; exact q'.elim
end
end Dl
end
section
set_option Elab.async false
set_option linter.all false
set_option maxRecDepth 100000
set_option maxHeartbeats 4000000
namespace Dl
open PySem L2

section
variable {X : Cx} {Wx : WX} {a c tg : Expr} {es : List Expr} {pos : Pos}
/-! while -/
def whD (t : Env → Rs Bool) (body : Sv) (fg : List Nat) : Nat → Sv
  | 0, _ => .fail
  | n + 1, e => (t e).to fun k e1 => if k = true then
      (match body e1 with
        | .nx e2 => whD t body fg n (e2.clr fg)
        | .ct e2 => whD t body fg n (e2.clr fg)
        | .bk e2 => .nx e2
        | r => r)
    else .nx e1
def sWhile (fuel : Env → Nat) (t : Env → Rs Bool) (fg : List Nat) (body : Sv) : Sv := fun e => whD t body fg (fuel e) e
theorem s_while {fuel : Env → Nat} {t : Env → Rs Bool} {fg : List Nat} {fb : Sv} {body : List Stmt} (hp : PassesOwn (model X.prog X.w) X.A X.env X.xe) (hc : PT X a (tDT X.K Wx t)) (hb : PSs X body (tS X.K Wx fb)) : PS X (.While a body [] pos) (tS X.K Wx (sWhile fuel t fg fb)) := (ps_while hp hc hb).imp fun D σ H h => by
  obtain ⟨b, R, ρ, e, m, q⟩ := h
  refine ⟨fun n σ H => ∃ R' ρ' e', Same R R' ∧ Md X.K b R' ρ' e' σ H ∧ OkS X.K Wx b R' D (whD t fb fg n e'), ⟨fuel e, R, ρ, e, Same.refl _, m, q⟩, ?_⟩
  rintro n σ' H' ⟨R', ρ', e', s', m', q'⟩
  cases n with
  | zero => exact q'.elim
  | succ n =>
    unfold whD at q'
    refine ⟨b, R', ρ', e', m', (OkS.to (L := lB) q').imp fun k H2 h2 => ?_⟩
    obtain ⟨R2, ρ2, e2, k', s2, l2, m2, r2, q2⟩ := h2
    have e0 : k' = k := r2
    subst e0
    cases k' with
    | false => exact q2 R2 ρ2 σ' H2 (Same.refl _) m2
    | true =>
      rw [if_pos rfl] at q2 ⊢
      refine ⟨fun σ3 H3 => ∃ R3 ρ3 e3, Same R R3 ∧ Md X.K b R3 ρ3 e3 σ3 H3 ∧ OkS X.K Wx b R3 D (whD t fb fg n e3), fun σ3 H3 n3 => ⟨n, by omega, n3⟩, b, R2, ρ2, e2, m2, ?_⟩
      cases hbe : fb e2 with
      | nx e3 =>
        simp only [hbe] at q2
        exact fun R4 ρ4 σ4 H4 s4 m4 => ⟨R4, ρ4, e3.clr fg, s'.trans (s2.trans s4), m4.clr fg, OkS.rebase s4 q2⟩
      | ct e3 =>
        simp only [hbe] at q2
        exact fun R4 ρ4 σ4 H4 s4 m4 => ⟨R4, ρ4, e3.clr fg, s'.trans (s2.trans s4), m4.clr fg, OkS.rebase s4 q2⟩
      | bk e3 => simp only [hbe] at q2; exact q2
      | rt w e3 => simp only [hbe] at q2; exact q2
      | exn x e3 => simp only [hbe] at q2; exact q2
      | fail => simp only [hbe] at q2; exact q2

/-! comprehensions -/
def Rs.bindF {α γ : Type} (r : Rs α) (k : α → Env → Rs γ) : Rs γ :=
  match r with
  | .ok a e => k a e
  | .exn _ _ => .fail
  | .fail => .fail
def pushK (k : Nat) (w : W) (e : Env) : Option Env := match e.cell k, w with
  | some (.lst acc), .d y => if acc.length < sizeLine then some (e.setC k (some (.lst (acc ++ [y])))) else none
  | _, _ => none
open Classical in
noncomputable def lcD (g : Tg) (chk : Env → Prop) (t : Env → Rs Bool) (f : Ev) (k : Nat) (vs : List Nat) : List D → Env → Rs Unit
  | [], e => if chk e then .ok () e else .fail
  | d :: ds, e => if chk e then
      (match g d (e.clr vs) with
        | none => .fail
        | some e1 => (t e1).bindF fun c e2 => if c = true then
            (f e2).bindF fun w e3 => (match pushK k w e3 with
              | some e4 => lcD g chk t f k vs ds (e4.clr vs)
              | none => .fail)
          else lcD g chk t f k vs ds (e2.clr vs))
    else .fail
/-- the end: the new list stays own, or is frozen -/
def endL (keep : Bool) (k : Nat) : Ev := fun e => match e.cell k with
  | some (.lst xs) => if keep = true then .ok (.loc k) e else .ok (.d (.lst xs)) (e.setC k none)
  | _ => .fail
noncomputable def eLc (it : Env → Rs Itr) (g : Tg) (t : Env → Rs Bool) (f : Ev) (k : Nat) (keep : Bool) (vs : List Nat) : Ev := fun e => (it e).bind fun a e1 =>
  if e1.open k = true then (lcD g a.chk t f k vs a.items (e1.setC k (some (.lst [])))).bind fun _ e2 => endL keep k e2 else .fail

theorem Md.drop {K : PySem.W.Frag} {b : Bs} {R : Hp} {ρ : Nat → Addr} {e : Env} {σ : St} {H : Hp} {k : Nat} {xs : List D} (m : Md K b R ρ e σ H) (hk : e.cell k = some (.lst xs)) (hnp : e.np ≤ k) : ∃ R', Same R R' ∧ Md K b R' ρ (e.setC k none) σ H ∧ Rep K R' (.lst xs) (.ref (ρ k)) := by
  obtain ⟨vs, h1, l1⟩ := m.cell k _ hk
  have hR := (m.own k _ hk).1
  have sR : Same R (upd R (ρ k) (.lst vs)) := same_upd hR
  have old : ∀ {n c}, (e.setC k none).cell n = some c → n ≠ k ∧ e.cell n = some c := fun {n c} h => by
    rw [Env.cell_setC] at h
    by_cases q : k = n
    · subst q; rw [if_pos rfl] at h; split at h <;> cases h
    · rw [if_neg q] at h; exact ⟨Ne.symm q, h⟩
  refine ⟨_, sR, ⟨fun i w h => ?_, fun n c h => ?_, fun n n' c1 c2 h1 h2 q => ?_, fun n c h => ?_, m.par, m.npl, fun a u h => ?_, m.ext.trans sR, fun a u h => ?_, m.frame, m.there, m.len⟩, .lst upd_same (RepL.mono sR l1)⟩
  · obtain ⟨v, q1, q2⟩ := m.slot i w h
    exact ⟨v, q1, q2.mono sR⟩
  · exact (m.cell n c (old h).2).mono sR rfl fun _ _ => rfl
  · exact m.inj n n' c1 c2 (old h1).2 (old h2).2 q
  · obtain ⟨hn, hc⟩ := old h
    exact ⟨by rw [upd_ne fun z => hn (m.inj n k c _ hc hk z)]; exact (m.own n c hc).1, (m.own n c hc).2⟩
  · by_cases q : a = ρ k
    · subst q; rw [upd_same] at h; cases h; exact h1
    · rw [upd_ne q] at h; exact m.sub a u h
  · by_cases q : a = ρ k
    · subst q
      rcases (m.own k _ hk).2 with z | z
      · omega
      · exact .inr z
    · rw [upd_ne q] at h; exact m.new a u h

theorem wipe_get (σ : St) (j : Nat) : ∀ vs : List Nat, (wipe σ vs)[j]? = if j ∈ vs then (if j < σ.length then some none else none) else σ[j]?
  | [] => by simp [wipe]
  | v :: vs => by
    unfold wipe
    rw [List.getElem?_set, wipe_length, wipe_get σ j vs]
    by_cases h : v = j
    · subst h
      simp
    · have h' : j ≠ v := Ne.symm h
      simp [h, h']
theorem wipe_eq {σ σ2 : St} {vs : List Nat} (hl : σ2.length = σ.length) (h : ∀ j, j ∉ vs → σ2[j]? = σ[j]?) : wipe σ2 vs = wipe σ vs := by
  apply List.ext_getElem?
  intro j
  rw [wipe_get, wipe_get, hl]
  split
  · rfl
  · rename_i hj; exact h j hj

/-- the block's slots are the frame's, the block's own names apart -/
theorem Md.into {K : PySem.W.Frag} {b : Bs} {R : Hp} {ρ : Nat → Addr} {e : Env} {σ : St} {H : Hp} (m : Md K b R ρ e σ H) (vs : List Nat) : Md K b R ρ (e.clr vs) (wipe σ vs) H where
  slot := fun i w h => by
    obtain ⟨h1, h2⟩ := clr_slot h
    obtain ⟨v, h3, h4⟩ := m.slot i w h1
    exact ⟨v, by rw [wipe_get, if_neg h2]; exact h3, h4⟩
  cell := m.cell
  inj := m.inj
  own := m.own
  par := m.par
  npl := m.npl
  sub := m.sub
  ext := m.ext
  new := m.new
  frame := m.frame
  there := m.there
  len := by rw [wipe_length]; exact m.len.trans (clrL_length _ _).symm
theorem Md.outof {K : PySem.W.Frag} {b : Bs} {R : Hp} {ρ : Nat → Addr} {e : Env} {σ σ2 : St} {H : Hp} {vs : List Nat} (m : Md K b R ρ e σ2 H) (hs : ∀ j, j ∉ vs → σ2[j]? = σ[j]?) (hl : σ2.length = σ.length) : Md K b R ρ (e.clr vs) σ H where
  slot := fun i w h => by
    obtain ⟨h1, h2⟩ := clr_slot h
    obtain ⟨v, h3, h4⟩ := m.slot i w h1
    exact ⟨v, by rw [← hs i h2]; exact h3, h4⟩
  cell := m.cell
  inj := m.inj
  own := m.own
  par := m.par
  npl := m.npl
  sub := m.sub
  ext := m.ext
  new := m.new
  frame := m.frame
  there := m.there
  len := by rw [← hl]; exact m.len.trans (clrL_length _ _).symm

theorem OkR.bindF {K : PySem.W.Frag} {b : Bs} {R : Hp} {ρ : Nat → Addr} {e : Env} {σ : St} {α β γ : Type} {L : Rl α β} {r : Rs α} {k : α → Env → Rs γ} {Z : Rs γ → Prop} (hf : ¬ Z .fail) (h : Z (r.bindF k)) :
    OkR K (fun _ _ _ _ => False) L b R ρ e σ (fun v H1 => ∃ R1 ρ1 e1 a, Same R R1 ∧ Live e e1 ρ ρ1 ∧ Md K b R1 ρ1 e1 σ H1 ∧ L R1 ρ1 a v ∧ Z (k a e1)) r := by
  cases r with
  | ok a e' => exact fun R' ρ' v H' s l m rp => ⟨R', ρ', e', a, s, l, m, rp, h⟩
  | exn x e' => exact absurd h hf
  | fail => exact absurd h hf
abbrev W0 : WX := fun _ _ _ _ => False

theorem lc_read {K : PySem.W.Frag} {it : Env → Rs Itr} {g : Tg} {t : Env → Rs Bool} {f : Ev} {k : Nat} {keep : Bool} {vs vs' : List Nat} {tG0 : TG} {σ : St} {H : Hp} {Q : VK} (hd : TgD K g vs' tG0) (hv : ∀ i ∈ vs', i ∈ vs) (h : tD K Wx (eLc it g t f k keep vs) σ H Q) :
    tLc (tDI K Wx it) tG0 (tDT K W0 t) (tD K W0 f) vs σ H Q := by
  refine tG_one h fun b R1 ρ1 e1 H1 a J m1 it1 q1 => ?_
  intro D hD
  split at q1
  case isFalse => exact q1.elim
  case isTrue ho =>
  obtain ⟨o1, o2, o3, o4⟩ := Env.open_of ho
  have mk := m1.freshC (o := .lst []) hD o2 o1 o4 (c := .lst []) ⟨[], upd_same, .nil⟩
  have lk : Live e1 (e1.setC k (some (.lst []))) ρ1 (setR ρ1 k D) := fun n c hc => by
    have hn : n ≠ k := fun z => by subst z; rw [o2] at hc; cases hc
    exact ⟨setR_ne hn, c, by rw [Env.cell_setC, if_neg (Ne.symm hn)]; exact hc⟩
  have ck : (e1.setC k (some (.lst []))).cell k = some (.lst []) := by rw [Env.cell_setC, if_pos rfl, if_pos o3]
  refine ⟨fun i m H => m = a.items.length - i ∧ i ≤ a.items.length ∧ ∃ R' ρ' e', Same R1 R' ∧ Live e1 e' ρ1 ρ' ∧ ρ' k = D ∧ (∃ c, e'.cell k = some c) ∧ Md K b R' ρ' e' σ H ∧ OkR K Wx (lW K) b R1 ρ1 e1 σ Q ((lcD g a.chk t f k vs (a.items.drop i) e').bind fun _ e2 => endL keep k e2),
    ⟨a.items.length, rfl, Nat.zero_le _, R1, _, _, Same.refl _, lk, setR_same _ _ _, ⟨_, ck⟩, mk, q1⟩, ?_⟩
  rintro i m H2 ⟨rfl, hi, R', ρ', e', s', l', hk, ⟨ck0, hck0⟩, m', q'⟩
  have hnp : ∀ n, n < e'.np → ρ' n = ρ1 n := fun n h2 => by
    have h3 := m'.par n h2
    have h4 := m1.par n (by rw [← m1.npl, m'.npl]; exact h2)
    rw [h4] at h3
    exact (Option.some.inj h3).symm
  by_cases hlt : i < a.items.length
  · have hdrop : a.items.drop i = a.items[i] :: a.items.drop (i + 1) := List.drop_eq_getElem_cons hlt
    rw [hdrop] at q'
    unfold lcD at q'
    by_cases hchk : a.chk e'
    · rw [if_pos hchk] at q'
      have io := it1 b R' ρ' e' σ H2 s' hnp m' hchk
      obtain ⟨go, yl⟩ := io.1 i hlt
      refine .inr ⟨go, fun H3 => ∃ R3 ρ3 e3, Same R1 R3 ∧ Live e1 e3 ρ1 ρ3 ∧ ρ3 k = D ∧ (∃ c, e3.cell k = some c) ∧ Md K b R3 ρ3 e3 σ H3 ∧ OkR K Wx (lW K) b R1 ρ1 e1 σ Q ((lcD g a.chk t f k vs (a.items.drop (i + 1)) e3).bind fun _ e2 => endL keep k e2),
        fun H3 n3 => ⟨_, by omega, rfl, by omega, n3⟩, fun x H3 y => ?_⟩
      obtain ⟨R'', d, hd1, s2, m2, r2⟩ := yl x H3 y
      have ed : a.items[i] = d := by
        rw [List.getElem?_eq_getElem hlt] at hd1
        exact Option.some.inj hd1
      rw [ed] at q'
      cases hge : g d (e'.clr vs) with
      | none => simp only [hge] at q'; exact q'.elim
      | some e2 =>
        simp only [hge] at q'
        have hM : e2.M = (e'.clr vs).M := hd.1 d _ _ hge
        have hM : e2.M = e'.M := hM
        have hcell : ∀ n, e2.cell n = e'.cell n := fun n => by unfold Env.cell; rw [hM]
        refine hd.2 b R'' ρ' (e'.clr vs) e2 d x (wipe σ vs) H3 _ (m2.into vs) r2 hge fun σ3 m3 k3 l3 => ?_
        have hσ : ∀ j, j ∉ vs → σ3[j]? = σ[j]? := fun j hj => by
          rw [k3 j fun z => hj (hv j z), wipe_get, if_neg hj]
        have hσl : σ3.length = σ.length := by rw [l3, wipe_length]
        refine ⟨wipe_eq hσl hσ, b, R'', ρ', e2, m3, ?_⟩
        have q2 := q'
        refine (OkR.bindF (L := lB) (Z := fun r => OkR K Wx (lW K) b R1 ρ1 e1 σ Q (r.bind fun _ e2 => endL keep k e2)) (fun z => z) q2).imp fun kb H4 h4 => ?_
        obtain ⟨R4, ρ4, e4, kb', s4, l4, m4, r4, q4⟩ := h4
        have e0 : kb' = kb := r4
        subst e0
        have lv4 : Live e' e4 ρ' ρ4 := fun n c hc => l4 n c (by rw [hcell]; exact hc)
        obtain ⟨hk4, c4, hc4⟩ := lv4 k ck0 hck0
        cases kb' with
        | false =>
          rw [if_neg Bool.false_ne_true]
          rw [if_neg Bool.false_ne_true] at q4
          exact ⟨R4, ρ4, e4.clr vs, s'.trans (s2.trans s4), l'.trans lv4, hk4.trans hk, ⟨c4, hc4⟩, m4.outof hσ hσl, q4⟩
        | true =>
          rw [if_pos rfl]
          rw [if_pos rfl] at q4
          refine ⟨b, R4, ρ4, e4, m4, ?_⟩
          refine (OkR.bindF (L := lW K) (Z := fun r => OkR K Wx (lW K) b R1 ρ1 e1 σ Q (r.bind fun _ e2 => endL keep k e2)) (fun z => z) q4).imp fun v5 H5 h5 => ?_
          obtain ⟨R5, ρ5, e5, w5, s5, l5, m5, r5, q5⟩ := h5
          obtain ⟨hk5, c5, hc5⟩ := l5 k c4 hc4
          cases hpk : pushK k w5 e5 with
          | none => simp only [hpk] at q5; exact q5.elim
          | some e6 =>
            simp only [hpk] at q5
            unfold pushK at hpk
            split at hpk
            · rename_i acc y hca
              split at hpk
              · rename_i hlen
                have hpk := Option.some.inj hpk
                subst hpk
                obtain ⟨us, g1, g2⟩ := m5.cell k _ hca
                have hρ5 : ρ5 k = D := hk5.trans (hk4.trans hk)
                rw [hρ5] at g1
                refine ⟨us, g1, by rw [← g2.length]; exact hlen, R5, ρ5, _, s'.trans (s2.trans (s4.trans s5)), (l'.trans (lv4.trans l5)).trans (fun n c hc => ⟨rfl, ?_⟩), hρ5, ⟨.lst (acc ++ [y]), ?_⟩, (?_ : Md K b R5 ρ5 ((e5.setC k (some (.lst (acc ++ [y])))).clr vs) σ _), q5⟩
                · show ∃ c', (e5.setC k (some (.lst (acc ++ [y])))).cell n = some c'
                  rw [Env.cell_setC]
                  by_cases z : k = n
                  · subst z; rw [if_pos rfl, if_pos (Env.cell_lt hca)]; exact ⟨_, rfl⟩
                  · rw [if_neg z]; exact ⟨_, hc⟩
                · show (e5.setC k (some (.lst (acc ++ [y])))).cell k = _
                  rw [Env.cell_setC, if_pos rfl, if_pos (Env.cell_lt hca)]
                · have mw := m5.write (o := .lst (us ++ [v5])) (c' := .lst (acc ++ [y])) hca ⟨_, upd_same, g2.append (.cons r5 .nil)⟩
                  rw [hρ5] at mw
                  exact mw.outof hσ hσl
              · cases hpk
            · cases hpk
    · rw [if_neg hchk] at q'; exact q'.elim
  · have e0 : i = a.items.length := by omega
    subst e0
    rw [List.drop_length] at q'
    unfold lcD at q'
    by_cases hchk : a.chk e'
    · rw [if_pos hchk] at q'
      have io := it1 b R' ρ' e' σ H2 s' hnp m' hchk
      refine .inl ⟨io.2, ?_⟩
      have q' : OkR K Wx (lW K) b R1 ρ1 e1 σ Q (endL keep k e') := q'
      unfold endL at q'
      split at q'
      · rename_i xs hc
        split at q'
        · rw [← hk]
          exact q' R' ρ' _ H2 s' l' m' rfl
        · have hknp : e'.np ≤ k := by rw [← m'.npl, m1.npl]; exact o1
          obtain ⟨R7, s7, m7, r7⟩ := m'.drop hc hknp
          rw [hk] at r7
          refine q' R7 ρ' (.ref D) H2 (s'.trans s7) (fun n c hcn => ?_) m7 r7
          obtain ⟨h8, c8, h9⟩ := l' n c hcn
          have hn : n ≠ k := fun z => by subst z; rw [o2] at hcn; cases hcn
          exact ⟨h8, c8, by rw [Env.cell_setC, if_neg (Ne.symm hn)]; exact h9⟩
      · exact q'.elim
    · rw [if_neg hchk] at q'; exact q'.elim
end
end Dl
end
section
set_option Elab.async false
set_option linter.all false
set_option maxRecDepth 100000
set_option maxHeartbeats 4000000
namespace Dl
open PySem L2

/-! comprehensions in code -/
section
variable {X : Cx} {Wx : WX} {elt tg iter c : Expr} {ifs : List Expr} {scope : Scope} {own : List (Str × Nat)} {pos : Pos}
theorem ts_nil : PTs X [] (tDT X.K Wx fun e => .ok true e) := ⟨fun pins s σ H Q I h => pts_nil.run pins s σ H Q I (by
  obtain ⟨b, R, ρ, e, m, q⟩ := h
  exact q.fin m rfl)⟩
theorem ts_one {t : Env → Rs Bool} (h : PT X c (tDT X.K Wx t)) : PTs X [c] (tDT X.K Wx t) := pts_one h
theorem d_lc {it : Env → Rs Itr} {g : Tg} {t : Env → Rs Bool} {f : Ev} {k : Nat} {keep : Bool} {vs' : List Nat} {tG0 : TG} (hc : X.calm = true) (hN : X.N.Nodup) (hi : PI X tg iter (tDI X.K Wx it)) (ok : BlkOk X.N X.env.scope scope own)
    (hg : ∀ (s : Shared) (H : Hp) (C : Addr) (cl : List (Str × Addr)) (fp : List Addr), PG (X.blk s H scope (compEnvC scope cl C X.env) fp) tg tG0) (hd : TgD X.K g vs' tG0) (hv : ∀ i ∈ vs', i ∈ own.map (·.2))
    (ht : ∀ (s : Shared) (H : Hp) (C : Addr) (cl : List (Str × Addr)) (fp : List Addr), PTs (X.blk s H scope (compEnvC scope cl C X.env) fp) ifs (tDT X.K W0 t))
    (he : ∀ (s : Shared) (H : Hp) (C : Addr) (cl : List (Str × Addr)) (fp : List Addr), PE (X.blk s H scope (compEnvC scope cl C X.env) fp) elt (tD X.K W0 f)) (hs : ∀ x, foldedSetIterable iter X.env x = pure x := by intro _; rfl) :
    PE X (.ListComp elt [⟨tg, iter, ifs, 0⟩] scope pos) (tD X.K Wx (eLc it g t f k keep (own.map (·.2)))) := (pe_lc hc hN hi ok hg ht he hs).imp fun σ H Q h => lc_read hd hv h
theorem s_setLc {it : Env → Rs Itr} {g : Tg} {t : Env → Rs Bool} {f : Ev} {k : Nat} {keep : Bool} {vs' : List Nat} {tG0 : TG} {i : Nat} {y : Str} {py spos : Pos} (hc : X.calm = true) (hN : X.N.Nodup) (hy : X.N[i]? = some y) (hyl : X.env.scope.names.lookup y = some .local)
    (hsw : swapsWith (.ListComp elt [⟨tg, iter, ifs, 0⟩] scope pos) (some (.Name y py)) spos.line X.env = pure true) (hi : PI X tg iter (tDI X.K Wx it)) (ok : BlkOk X.N X.env.scope scope own)
    (hg : ∀ (s : Shared) (H : Hp) (C : Addr) (cl : List (Str × Addr)) (fp : List Addr), PG (X.blk s H scope (compEnvC scope cl C X.env) fp) tg tG0) (hd : TgD X.K g vs' tG0) (hv : ∀ i ∈ vs', i ∈ own.map (·.2))
    (ht : ∀ (s : Shared) (H : Hp) (C : Addr) (cl : List (Str × Addr)) (fp : List Addr), PTs (X.blk s H scope (compEnvC scope cl C X.env) fp) ifs (tDT X.K W0 t))
    (he : ∀ (s : Shared) (H : Hp) (C : Addr) (cl : List (Str × Addr)) (fp : List Addr), PE (X.blk s H scope (compEnvC scope cl C X.env) fp) elt (tD X.K W0 f)) (hs : ∀ x, foldedSetIterable iter X.env x = pure x := by intro _; rfl) :
    PS X (.Assign [.Name y py] (.ListComp elt [⟨tg, iter, ifs, 0⟩] scope pos) spos) (tS X.K Wx (sSet i (eLc it g t f k keep (own.map (·.2))))) := (ps_setLc hc hN hy hyl hsw hi ok hg ht he hs).imp fun D σ H h =>
  lc_read (Q := fun x H1 => gName i x σ H1 D.nx) hd hv (by
    obtain ⟨b, R, ρ, e, m, h⟩ := h
    refine ⟨b, R, ρ, e, m, (OkS.to (L := lW X.K) h).imp fun v H1 h1 => ?_⟩
    obtain ⟨R1, ρ1, e1, w, s1, l1, m1, r1, q⟩ := h1
    exact q R1 ρ1 _ H1 (Same.refl _) (m1.setS r1))
end
end Dl
end
section
set_option Elab.async false
set_option linter.all false
set_option maxRecDepth 100000
set_option maxHeartbeats 4000000
namespace Dl
open PySem L2

/-! a def as a function of data -/
inductive CR where
  | ok (w : W) (cs : List Cell)
  | exn (x : Xn) (cs : List Cell)
  | fail
abbrev Fd := List W → List Cell → CR

structure Back (K : PySem.W.Frag) (R : Hp) (ρ : Nat → Addr) (n : Nat) (H : Hp) (cs : List Cell) (R' : Hp) (ρ' : Nat → Addr) (H' : Hp) : Prop where
  sR : Same R R'
  sub : Same R' H'
  kp : ∀ i, i < n → ρ' i = ρ i
  ln : n ≤ cs.length
  cell : ∀ i c, cs[i]? = some c → CellAt K R' ρ' H' (ρ' i) c
  own : ∀ i, i < cs.length → R' (ρ' i) = none ∧ (i < n ∨ H (ρ' i) = none)
  inj : ∀ i j, i < cs.length → j < cs.length → ρ' i = ρ' j → i = j
  new : ∀ a o, R' a = some o → R a = some o ∨ H a = none
  frame : ∀ a o, H a = some o → (∀ i, i < n → ρ i ≠ a) → H' a = some o
  there : ∀ a o, H a = some o → ∃ o', H' a = some o'

def spD (K : PySem.W.Frag) (P : Nat) (F : Fd) : Sp := fun vs H Q E => vs.length = P ∧ ∃ R ρ ws cs, Same R H ∧ Paired (RepW K R ρ) ws vs ∧ (∀ i c, cs[i]? = some c → CellAt K R ρ H (ρ i) c) ∧ (∀ i, i < cs.length → R (ρ i) = none) ∧
  (∀ i j, i < cs.length → j < cs.length → ρ i = ρ j → i = j) ∧
  match F ws cs with
  | .ok w cs' => ∀ R' ρ' v H', Back K R ρ cs.length H cs' R' ρ' H' → RepW K R' ρ' w v → Q v H'
  | .exn x cs' => ∀ R' ρ' H' cls d, Back K R ρ cs.length H cs' R' ρ' H' → ExR K R' x cls d → E cls d H'
  | .fail => False

def takeC : Nat → List (Option Cell) → Option (List Cell)
  | 0, _ => some []
  | n + 1, some c :: M => match takeC n M with | some cs => some (c :: cs) | none => none
  | _ + 1, _ => none
theorem takeC_get : ∀ {n : Nat} {M : List (Option Cell)} {cs : List Cell}, takeC n M = some cs → cs.length = n ∧ ∀ (i : Nat) (c : Cell), cs[i]? = some c → (M[i]?).join = some c
  | 0, _, _, h => by cases h; exact ⟨rfl, fun i c h => by simp at h⟩
  | n + 1, [], _, h => by cases h
  | n + 1, none :: M, _, h => by cases h
  | n + 1, some c :: M, cs, h => by
    unfold takeC at h
    cases q : takeC n M with
    | none => rw [q] at h; cases h
    | some ds =>
      rw [q] at h; cases h
      obtain ⟨h1, h2⟩ := takeC_get q
      refine ⟨by rw [List.length_cons, h1], fun i c' hi => ?_⟩
      cases i with
      | zero => simpa using hi
      | succ i => simpa using h2 i c' (by simpa using hi)
def env0 (N m : Nat) (ws : List W) (cs : List Cell) : Env := ⟨ws.map some ++ List.replicate (N - ws.length) none, cs.map some ++ List.replicate (m - cs.length) none, cs.length⟩
/-- N: the slots; m: the registers; r: how many cells are handed back -/
def mkF (N m r : Nat) (f : Sv) : Fd := fun ws cs => match f (env0 N m ws cs) with
  | .rt w e => match takeC (max cs.length r) e.M with | some cs' => .ok w cs' | none => .fail
  | .nx e => match takeC (max cs.length r) e.M with | some cs' => .ok (.d .non) cs' | none => .fail
  | .exn x e => match takeC cs.length e.M with | some cs' => .exn x cs' | none => .fail
  | _ => .fail

theorem join_app {α : Type} {l : List α} {n i : Nat} {a : α} (h : ((l.map some ++ List.replicate n none)[i]?).join = some a) : l[i]? = some a := by
  by_cases hi : i < l.length
  · rw [List.getElem?_append_left (by rw [List.length_map]; exact hi), List.getElem?_map] at h
    cases q : l[i]? with
    | none => rw [q] at h; cases h
    | some x => rw [q] at h; exact h
  · rw [List.getElem?_append_right (by rw [List.length_map]; omega), List.getElem?_replicate] at h
    split at h <;> cases h

section
variable {K : PySem.W.Frag}
theorem Md.start {R : Hp} {ρ : Nat → Addr} {H : Hp} {ws : List W} {vs : List V} {cs : List Cell} {N : List Str} {m : Nat} (sR : Same R H) (rs : Paired (RepW K R ρ) ws vs) (hc : ∀ i c, cs[i]? = some c → CellAt K R ρ H (ρ i) c) (hn : ∀ i, i < cs.length → R (ρ i) = none)
    (hi : ∀ i j, i < cs.length → j < cs.length → ρ i = ρ j → i = j) : Md K ⟨R, H, (List.range cs.length).map ρ⟩ R ρ (env0 N.length m ws cs) (L2.start N vs) H where
  slot := fun i w h => by
    obtain ⟨v, h1, h2⟩ := Paired.get2 rs (join_app h)
    refine ⟨v, ?_, h2⟩
    unfold L2.start
    have hlt : i < vs.length := (List.getElem?_eq_some_iff.mp h1).1
    rw [List.getElem?_append_left (by rw [List.length_map]; exact hlt), List.getElem?_map, h1]
    rfl
  cell := fun n c h => hc n c (join_app h)
  inj := fun n k c c' h h' q => hi n k (List.getElem?_eq_some_iff.mp (join_app h)).1 (List.getElem?_eq_some_iff.mp (join_app h')).1 q
  own := fun n c h => by
    have q := (List.getElem?_eq_some_iff.mp (join_app h)).1
    exact ⟨hn n q, .inl q⟩
  par := fun n h => by
    show ((List.range cs.length).map ρ)[n]? = some (ρ n)
    have h : n < cs.length := h
    rw [List.getElem?_map, List.getElem?_range h]
    rfl
  npl := by
    show ((List.range cs.length).map ρ).length = cs.length
    rw [List.length_map, List.length_range]
  sub := sR
  ext := Same.refl R
  new := fun a o h => .inl h
  frame := fun a o h _ => h
  there := fun a o h => ⟨o, h⟩
  len := by
    unfold L2.start
    show (vs.map some ++ List.replicate (N.length - vs.length) none).length = (ws.map some ++ List.replicate (N.length - ws.length) none).length
    have e := Paired.lengthEq rs
    simp only [List.length_append, List.length_map, List.length_replicate]
    omega
theorem Md.back {R R' : Hp} {ρ ρ' : Nat → Addr} {H H' : Hp} {n : Nat} {e' : Env} {σ' : St} {r : Nat} {cs' : List Cell} (m : Md K ⟨R, H, (List.range n).map ρ⟩ R' ρ' e' σ' H') (ht : takeC r e'.M = some cs') (hr : n ≤ r) : Back K R ρ n H cs' R' ρ' H' := by
  obtain ⟨h1, h2⟩ := takeC_get ht
  have hnp : e'.np = n := by
    have := m.npl
    rw [List.length_map, List.length_range] at this
    exact this.symm
  have live : ∀ i, i < cs'.length → ∃ c, e'.cell i = some c := fun i hi => ⟨_, h2 i _ (List.getElem?_eq_getElem hi)⟩
  have hk : ∀ i, i < n → ρ' i = ρ i := fun i hi => by
    have q := m.par i (by rw [hnp]; exact hi)
    have q2 : ((List.range n).map ρ)[i]? = some (ρ' i) := q
    rw [List.getElem?_map, List.getElem?_range hi] at q2
    exact (Option.some.inj q2).symm
  refine ⟨m.ext, m.sub, hk, by omega, fun i c hc => m.cell i c (h2 i c hc), fun i hi => ?_, fun i j hi hj q => ?_, m.new, fun a o h q => m.frame a o h fun z => ?_, m.there⟩
  · obtain ⟨c, hc⟩ := live i hi
    have q := m.own i c hc
    rw [hnp] at q
    exact q
  · obtain ⟨c, hc⟩ := live i hi
    obtain ⟨c', hc'⟩ := live j hj
    exact m.inj i j c c' hc hc' q
  · obtain ⟨i, hi, e⟩ := List.mem_map.mp z
    exact q i (List.mem_range.mp hi) e
end

section
variable {P : Program} {w : World} {K : PySem.W.Frag} {mg : Str → Option Value} {base : Heap} {x qual : Str} {params : Arguments} {body : List Stmt} {scope : Scope} {dvs : List V} {kws : List (Str × V)} {f : Addr} {fd : FuncData}
abbrev WofE (E : XK) : WX := fun cls d _ H => E cls d H
/-- a def is worth mkF of its body -/
theorem fnD {N ps : List Str} {k m r : Nat} {fb : Sv} (F : FunD K x qual params body scope dvs kws f fd) (S : FnScope N ps scope)
    (hb : ∀ (cdv : Value) (A : Around) (outer : List Env) (s : Shared) (H : Hp) (E : XK), True) : True := trivial
theorem fnD_ok {N ps : List Str} {k m r : Nat} {fb : Sv} (F : FunD K x qual params body scope dvs kws f fd) (S : FnScope N ps scope)
    (hb : ∀ (cdv : Value) (A : Around) (outer : List PySem.Env) (s : Shared) (H : Hp) (E : XK), Room k (A.deeper (PyProof.Rows.envOfC qual scope s.heap.objs.size f cdv)) →
      PSs (cxOf (L2.CX P w) P w K mg base N qual scope f cdv A outer s H E) body (tS K (WofE E) fb)) : FnOk P w K mg base (L2.CX P w) (k + 1) f fd ps (spD K ps.length (mkF N.length m r fb)) := by
  refine F.ok (CX := L2.CX P w) S (fun vs H Q E h => h.1) (fun cdv A outer s H vs Q E hr h => ⟨_, hb cdv A outer s H E hr, ?_⟩)
  obtain ⟨hl, R, ρ, ws, cs, sR, rs, hc, hn, hi, q⟩ := h
  refine ⟨_, R, ρ, env0 N.length m ws cs, Md.start sR rs hc hn hi, ?_⟩
  unfold mkF at q
  cases hf : fb (env0 N.length m ws cs) with
  | nx e =>
    simp only [hf] at q
    cases ht : takeC (max cs.length r) e.M with
    | none => simp only [ht] at q
    | some cs' =>
      simp only [ht] at q
      exact fun R' ρ' σ' H' s' m' => q R' ρ' .non H' (m'.back ht (Nat.le_max_left _ _)) .non
  | rt w e =>
    simp only [hf] at q
    cases ht : takeC (max cs.length r) e.M with
    | none => simp only [ht] at q
    | some cs' =>
      simp only [ht] at q
      exact fun R' ρ' σ' H' v s' m' rv => q R' ρ' v H' (m'.back ht (Nat.le_max_left _ _)) rv
  | exn x e =>
    simp only [hf] at q
    cases ht : takeC cs.length e.M with
    | none => simp only [ht] at q
    | some cs' =>
      simp only [ht] at q
      exact fun R' ρ' σ' H' cls d s' m' rx => q R' ρ' H' cls d (m'.back ht (Nat.le_refl _)) rx
  | bk e => simp only [hf] at q
  | ct e => simp only [hf] at q
  | fail => simp only [hf] at q
/-- the promise told by another function that is the same where it matters -/
theorem FnOk.as {k n : Nat} {ps : List Str} {F G : Fd} (h : FnOk P w K mg base (L2.CX P w) k f fd ps (spD K n F)) (e : ∀ ws cs, G ws cs ≠ .fail → F ws cs = G ws cs) : FnOk P w K mg base (L2.CX P w) k f fd ps (spD K n G) :=
  h.imp fun vs H Q E ⟨hl, R, ρ, ws, cs, sR, rs, hc, hn, hi, q⟩ => ⟨hl, R, ρ, ws, cs, sR, rs, hc, hn, hi, by
    have hg : G ws cs ≠ .fail := fun z => by rw [z] at q; exact q
    rw [e ws cs hg]
    exact q⟩
end

/-! calls -/
def renW (L : List Nat) : W → Option W
  | .d x => some (.d x)
  | .loc n => if n ∈ L then some (.loc (L.idxOf n)) else none
def backW (L : List Nat) : W → Option W
  | .d x => some (.d x)
  | .loc i => match L[i]? with | some n => some (.loc n) | none => none
def mapW (g : W → Option W) : List W → Option (List W)
  | [] => some []
  | w :: ws => match g w, mapW g ws with | some w', some ws' => some (w' :: ws') | _, _ => none
def mapF (g : W → Option W) : List (Str × W) → Option (List (Str × W))
  | [] => some []
  | (n, w) :: ws => match g w, mapF g ws with | some w', some ws' => some ((n, w') :: ws') | _, _ => none
def mapCell (g : W → Option W) : Cell → Option Cell
  | .lst xs => some (.lst xs)
  | .dic kvs => some (.dic kvs)
  | .dct kvs => some (.dct kvs)
  | .obj C fs => match mapF g fs with | some fs' => some (.obj C fs') | none => none
  | .lw us => match mapW g us with | some us' => some (.lw us') | none => none
def mapCs (g : W → Option W) : List Cell → Option (List Cell)
  | [] => some []
  | c :: cs => match mapCell g c, mapCs g cs with | some c', some cs' => some (c' :: cs') | _, _ => none
def cellsOf (e : Env) : List Nat → Option (List Cell)
  | [] => some []
  | n :: ns => match e.cell n, cellsOf e ns with | some c, some cs => some (c :: cs) | _, _ => none
def upds (M : List (Option Cell)) : List Nat → List Cell → List (Option Cell)
  | n :: ns, c :: cs => (upds M ns cs).set n (some c)
  | _, _ => M
def nodup : List Nat → Bool
  | [] => true
  | n :: ns => !ns.contains n && nodup ns
theorem nodup_iff : ∀ {l : List Nat}, nodup l = true → l.Nodup
  | [], _ => List.nodup_nil
  | n :: ns, h => by
    unfold nodup at h
    rw [Bool.and_eq_true] at h
    refine List.nodup_cons.mpr ⟨fun z => ?_, nodup_iff h.2⟩
    have q := h.1
    rw [List.contains_iff_mem.mpr z] at q
    cases q
def runF (F : Fd) (L Ln : List Nat) (ws : List W) : Ev := fun e =>
  if (nodup (L ++ Ln) && Ln.all e.open) = true then
    (match mapW (renW L) ws, cellsOf e L with
      | some ws', some cs0 => (match mapCs (renW L) cs0 with
        | some cs => (match F ws' cs with
          | .ok w cs2 => (match mapCs (backW (L ++ Ln)) cs2, backW (L ++ Ln) w with
            | some cs3, some w3 => if cs2.length = (L ++ Ln).length then .ok w3 { e with M := upds e.M (L ++ Ln) cs3 } else .fail
            | _, _ => .fail)
          | .exn x cs2 => (match mapCs (backW L) cs2 with
            | some cs3 => if cs2.length = L.length then .exn x { e with M := upds e.M L cs3 } else .fail
            | none => .fail)
          | .fail => .fail)
        | none => .fail)
      | _, _ => .fail)
  else .fail

section
variable {K : PySem.W.Frag} {R R' : Hp} {ρ ρ' : Nat → Addr}
theorem mapW_rep {g : W → Option W} (h : ∀ w w' v, g w = some w' → RepW K R ρ w v → RepW K R' ρ' w' v) : ∀ {ws ws' : List W} {vs : List V}, mapW g ws = some ws' → Paired (RepW K R ρ) ws vs → Paired (RepW K R' ρ') ws' vs
  | [], _, _, e, .nil => by cases e; exact .nil
  | w :: ws, _, _, e, .cons a t => by
    unfold mapW at e
    cases h1 : g w with
    | none => rw [h1] at e; cases e
    | some w' =>
      cases h2 : mapW g ws with
      | none => rw [h1, h2] at e; cases e
      | some ws' => rw [h1, h2] at e; cases e; exact .cons (h _ _ _ h1 a) (mapW_rep h h2 t)
theorem mapF_rep {g : W → Option W} (h : ∀ w w' v, g w = some w' → RepW K R ρ w v → RepW K R' ρ' w' v) : ∀ {ws ws' : List (Str × W)} {vs : List V}, mapF g ws = some ws' → Paired (RepW K R ρ) (ws.map (·.2)) vs → ws'.map (·.1) = ws.map (·.1) ∧ Paired (RepW K R' ρ') (ws'.map (·.2)) vs
  | [], _, _, e, .nil => by cases e; exact ⟨rfl, .nil⟩
  | (n, w) :: ws, _, _, e, .cons a t => by
    unfold mapF at e
    cases h1 : g w with
    | none => rw [h1] at e; cases e
    | some w' =>
      cases h2 : mapF g ws with
      | none => rw [h1, h2] at e; cases e
      | some ws' =>
        rw [h1, h2] at e; cases e
        obtain ⟨q1, q2⟩ := mapF_rep h h2 t
        exact ⟨by rw [List.map_cons, List.map_cons, q1], .cons (h _ _ _ h1 a) q2⟩
theorem mapCell_at {g : W → Option W} {H : Hp} {a : Addr} {c c' : Cell} (h : ∀ w w' v, g w = some w' → RepW K R ρ w v → RepW K R' ρ' w' v) (s : Same R R') (e : mapCell g c = some c') (ca : CellAt K R ρ H a c) : CellAt K R' ρ' H a c' := by
  cases c with
  | lst xs => cases e; obtain ⟨vs, h1, l⟩ := ca; exact ⟨vs, h1, RepL.mono s l⟩
  | dic xs => cases e; obtain ⟨vs, h1, h2, l⟩ := ca; exact ⟨vs, h1, h2, RepL.mono s l⟩
  | dct xs => cases e; obtain ⟨vs, h1, h2, l⟩ := ca; exact ⟨vs, h1, h2, RepL.mono s l⟩
  | obj C fs =>
    have e : (match mapF g fs with | some fs' => some (Cell.obj C fs') | none => none) = some c' := e
    cases h2 : mapF g fs with
    | none => rw [h2] at e; cases e
    | some fs' =>
      rw [h2] at e; cases e
      obtain ⟨dx, ws, g1, g2, g3⟩ := ca
      obtain ⟨q1, q2⟩ := mapF_rep h h2 g3
      exact ⟨dx, ws, g1, g2.trans q1.symm, q2⟩
  | lw us =>
    have e : (match mapW g us with | some fs' => some (Cell.lw fs') | none => none) = some c' := e
    cases h2 : mapW g us with
    | none => rw [h2] at e; cases e
    | some fs' =>
      rw [h2] at e; cases e
      obtain ⟨vs, g1, g3⟩ := ca
      exact ⟨vs, g1, mapW_rep h h2 g3⟩
theorem mapCs_get {g : W → Option W} : ∀ {cs cs' : List Cell}, mapCs g cs = some cs' → cs'.length = cs.length ∧ ∀ (i : Nat) (c' : Cell), cs'[i]? = some c' → ∃ c, cs[i]? = some c ∧ mapCell g c = some c'
  | [], _, e => by cases e; exact ⟨rfl, fun i c h => by simp at h⟩
  | c :: cs, _, e => by
    unfold mapCs at e
    cases h1 : mapCell g c with
    | none => rw [h1] at e; cases e
    | some c' =>
      cases h2 : mapCs g cs with
      | none => rw [h1, h2] at e; cases e
      | some cs' =>
        rw [h1, h2] at e; cases e
        obtain ⟨q1, q2⟩ := mapCs_get h2
        refine ⟨by rw [List.length_cons, List.length_cons, q1], fun i d hd => ?_⟩
        cases i with
        | zero => simp at hd; subst hd; exact ⟨c, rfl, h1⟩
        | succ i =>
          obtain ⟨d', h3, h4⟩ := q2 i d (by simpa using hd)
          exact ⟨d', by simpa using h3, h4⟩
theorem cellsOf_get {e : Env} : ∀ {L : List Nat} {cs : List Cell}, cellsOf e L = some cs → cs.length = L.length ∧ ∀ (i : Nat) (c : Cell), cs[i]? = some c → ∃ n, L[i]? = some n ∧ e.cell n = some c
  | [], _, h => by cases h; exact ⟨rfl, fun i c h => by simp at h⟩
  | n :: L, _, h => by
    unfold cellsOf at h
    cases h1 : e.cell n with
    | none => rw [h1] at h; cases h
    | some c =>
      cases h2 : cellsOf e L with
      | none => rw [h1, h2] at h; cases h
      | some cs =>
        rw [h1, h2] at h; cases h
        obtain ⟨q1, q2⟩ := cellsOf_get h2
        refine ⟨by rw [List.length_cons, List.length_cons, q1], fun i d hd => ?_⟩
        cases i with
        | zero => simp at hd; subst hd; exact ⟨n, rfl, h1⟩
        | succ i =>
          obtain ⟨d', h3, h4⟩ := q2 i d (by simpa using hd)
          exact ⟨d', by simpa using h3, h4⟩
theorem upds_len (M : List (Option Cell)) : ∀ (L : List Nat) (cs : List Cell), (upds M L cs).length = M.length
  | [], _ => by unfold upds; rfl
  | n :: ns, [] => by unfold upds; rfl
  | n :: ns, c :: cs => by unfold upds; rw [List.length_set, upds_len M ns cs]
theorem upds_get {M : List (Option Cell)} : ∀ {L : List Nat} {cs : List Cell} {n : Nat} {c : Cell}, ((upds M L cs)[n]?).join = some c → cs.length = L.length → (∃ i : Nat, L[i]? = some n ∧ cs[i]? = some c) ∨ (n ∉ L ∧ (M[n]?).join = some c)
  | [], cs, n, c, h, _ => by unfold upds at h; exact .inr ⟨by simp, h⟩
  | k :: ns, [], n, c, h, hl => by simp at hl
  | k :: ns, d :: cs, n, c, h, hl => by
    unfold upds at h
    rw [List.getElem?_set] at h
    by_cases q : k = n
    · subst q
      rw [if_pos rfl] at h
      split at h
      · cases h; exact .inl ⟨0, rfl, rfl⟩
      · cases h
    · rw [if_neg q] at h
      rcases upds_get h (by simpa using hl) with ⟨i, h1, h2⟩ | ⟨h1, h2⟩
      · exact .inl ⟨i + 1, by simpa using h1, by simpa using h2⟩
      · exact .inr ⟨by simp only [List.mem_cons, not_or]; exact ⟨Ne.symm q, h1⟩, h2⟩
theorem upds_live {M : List (Option Cell)} : ∀ {L : List Nat} {cs : List Cell} {n : Nat} {c : Cell}, (M[n]?).join = some c → ∃ c', ((upds M L cs)[n]?).join = some c'
  | [], cs, n, c, h => by unfold upds; exact ⟨c, h⟩
  | k :: ns, [], n, c, h => by unfold upds; exact ⟨c, h⟩
  | k :: ns, d :: cs, n, c, h => by
    unfold upds
    rw [List.getElem?_set]
    by_cases q : k = n
    · subst q
      have hlt : k < (upds M ns cs).length := by
        rw [upds_len]
        by_cases z : k < M.length
        · exact z
        · rw [List.getElem?_eq_none (by omega)] at h; cases h
      rw [if_pos rfl, if_pos hlt]
      exact ⟨d, rfl⟩
    · rw [if_neg q]; exact upds_live h
theorem idx_get {L : List Nat} {n : Nat} (h : n ∈ L) : L[L.idxOf n]? = some n := by
  have := List.idxOf_lt_length_of_mem h
  rw [List.getElem?_eq_getElem this, List.getElem_idxOf]
theorem idx_of {L : List Nat} (hn : L.Nodup) {i n : Nat} (h : L[i]? = some n) : L.idxOf n = i := by
  obtain ⟨hi, e⟩ := List.getElem?_eq_some_iff.mp h
  subst e
  exact hn.idxOf_getElem i hi
end
end Dl
end
section
set_option Elab.async false
set_option linter.all false
set_option maxRecDepth 100000
set_option maxHeartbeats 4000000
namespace Dl
open PySem L2

section
variable {K : PySem.W.Frag} {Wx : WX} {b : Bs} {R R' : Hp} {ρ ρ' : Nat → Addr} {e : Env} {σ : St} {H H' : Hp}
def rhoC (ρ : Nat → Addr) (L : List Nat) : Nat → Addr := fun i => ρ (L.getD i 0)
def rhoN (ρ ρ' : Nat → Addr) (L : List Nat) : Nat → Addr := fun n => if n ∈ L then ρ' (L.idxOf n) else ρ n
theorem rhoC_at {L : List Nat} {i n : Nat} (h : L[i]? = some n) : rhoC ρ L i = ρ n := by
  unfold rhoC
  rw [List.getD_eq_getElem?_getD, h]
  rfl
theorem ren_rep {L : List Nat} (w w' : W) (v : V) (h : renW L w = some w') (r : RepW K R ρ w v) : RepW K R (rhoC ρ L) w' v := by
  cases w with
  | d x => cases h; exact r
  | loc n =>
    have h : (if n ∈ L then some (W.loc (L.idxOf n)) else none) = some w' := h
    by_cases hn : n ∈ L
    · rw [if_pos hn] at h
      cases h
      show v = .ref (rhoC ρ L (L.idxOf n))
      rw [rhoC_at (idx_get hn)]
      exact r
    · rw [if_neg hn] at h; cases h
theorem back_rep {L : List Nat} (hnd : L.Nodup) (w w' : W) (v : V) (h : backW L w = some w') (r : RepW K R ρ' w v) : RepW K R (rhoN ρ ρ' L) w' v := by
  cases w with
  | d x => cases h; exact r
  | loc i =>
    unfold backW at h
    cases q : L[i]? with
    | none => simp only [q] at h; cases h
    | some n =>
      simp only [q] at h
      cases h
      show v = .ref (rhoN ρ ρ' L n)
      unfold rhoN
      rw [if_pos (List.mem_of_getElem? q), idx_of hnd q]
      exact r
theorem after_call {L Ln : List Nat} {cs2 cs3 : List Cell} (m : Md K b R ρ e σ H) (hnd : (L ++ Ln).Nodup) (hop : ∀ n ∈ Ln, e.open n = true) (hL : ∀ n ∈ L, ∃ c, e.cell n = some c) (bk : Back K R (rhoC ρ L) L.length H cs2 R' ρ' H')
    (hm : mapCs (backW (L ++ Ln)) cs2 = some cs3) (hlen : cs2.length = (L ++ Ln).length) :
    Md K b R' (rhoN ρ ρ' (L ++ Ln)) { e with M := upds e.M (L ++ Ln) cs3 } σ H' ∧ Live e { e with M := upds e.M (L ++ Ln) cs3 } ρ (rhoN ρ ρ' (L ++ Ln)) := by
  obtain ⟨hl3, hg3⟩ := mapCs_get hm
  have hl3' : cs3.length = (L ++ Ln).length := hl3.trans hlen
  have closed : ∀ {n : Nat} {c : Cell}, e.cell n = some c → n ∉ Ln := fun {n c} h z => by
    have := (Env.open_of (hop n z)).2.1
    rw [h] at this; cases this
  -- ρ stays at live cells
  have keep : ∀ {n : Nat}, n ∉ Ln → rhoN ρ ρ' (L ++ Ln) n = ρ n := fun {n} hn => by
    unfold rhoN
    by_cases hm2 : n ∈ L ++ Ln
    · rw [if_pos hm2]
      have hnL : n ∈ L := (List.mem_append.mp hm2).resolve_right hn
      have hi := idx_get hm2
      have hlt : (L ++ Ln).idxOf n < L.length := by
        have z := idx_get hnL
        have zl : L.idxOf n < L.length := List.idxOf_lt_length_of_mem hnL
        rw [idx_of hnd (i := L.idxOf n) (by rw [List.getElem?_append_left zl]; exact z)]
        exact zl
      rw [bk.kp _ hlt]
      rw [List.getElem?_append_left hlt] at hi
      exact rhoC_at hi
    · rw [if_neg hm2]
  have at_ : ∀ {i n : Nat}, (L ++ Ln)[i]? = some n → rhoN ρ ρ' (L ++ Ln) n = ρ' i := fun {i n} h => by
    unfold rhoN
    rw [if_pos (List.mem_of_getElem? h), idx_of hnd h]
  have cellD : ∀ {n : Nat} {c : Cell}, (⟨e.ws, upds e.M (L ++ Ln) cs3, e.np⟩ : Env).cell n = some c → (∃ i : Nat, (L ++ Ln)[i]? = some n ∧ cs3[i]? = some c) ∨ (n ∉ L ++ Ln ∧ e.cell n = some c) := fun {n c} h => upds_get h hl3'
  have iLt : ∀ {i : Nat} {c : Cell}, cs3[i]? = some c → i < cs2.length := fun {i c} h => by
    rw [← hl3]; exact (List.getElem?_eq_some_iff.mp h).1
  -- an address of the call's, and one of an old cell that was not handed over
  have apart : ∀ {i n k : Nat} {c' : Cell}, i < cs2.length → (L ++ Ln)[i]? = some n → k ∉ L ++ Ln → e.cell k = some c' → ρ' i ≠ ρ k := fun {i n k c'} hi hn hk hc' hq => by
    by_cases hiL : i < L.length
    · rw [bk.kp i hiL] at hq
      rw [List.getElem?_append_left hiL] at hn
      rw [rhoC_at hn] at hq
      obtain ⟨c2, h2⟩ := hL n (List.mem_of_getElem? hn)
      have := m.inj n k c2 c' h2 hc' hq
      subst this
      exact hk (List.mem_append_left _ (List.mem_of_getElem? hn))
    · obtain ⟨o, ho⟩ := (m.cell k c' hc').some
      have q2 := ((bk.own i hi).2).resolve_left hiL
      rw [hq, ho] at q2; cases q2
  refine ⟨⟨fun i w h => ?_, fun n c h => ?_, fun n n' c1 c2 h1 h2 q => ?_, fun n c h => ?_, fun n h => ?_, m.npl, bk.sub, m.ext.trans bk.sR, fun a o h => ?_, fun a o h hn => ?_, fun a o h => ?_, m.len⟩, fun n c h => ?_⟩
  · obtain ⟨v, h1, h2⟩ := m.slot i w h
    refine ⟨v, h1, ?_⟩
    cases w with
    | d x => exact Rep.mono bk.sR h2
    | loc n =>
      show v = .ref (rhoN ρ ρ' (L ++ Ln) n)
      rw [keep fun z => ?_]
      · exact h2
      · have := Env.noRef_slot (Env.open_of (hop n z)).2.2.2 h
        simp [isLoc] at this
  · rcases cellD h with ⟨i, h1, h2⟩ | ⟨h1, h2⟩
    · obtain ⟨c0, h3, h4⟩ := hg3 i c h2
      rw [at_ h1]
      exact mapCell_at (back_rep hnd) (Same.refl _) h4 (bk.cell i c0 h3)
    · have hc := m.cell n c h2
      obtain ⟨o, ho⟩ := hc.some
      rw [keep (closed h2)]
      refine hc.mono bk.sR ?_ fun k hk => keep fun z => ?_
      · rw [ho]
        refine bk.frame _ _ ho fun i hi hq => ?_
        obtain ⟨k, hk⟩ : ∃ k, L[i]? = some k := ⟨_, List.getElem?_eq_getElem hi⟩
        rw [rhoC_at hk] at hq
        obtain ⟨c2, h2'⟩ := hL k (List.mem_of_getElem? hk)
        have := m.inj k n c2 c h2' h2 hq
        subst this
        exact h1 (List.mem_append_left _ (List.mem_of_getElem? hk))
      · have := Env.noRef_cell (Env.open_of (hop k z)).2.2.2 h2
        rw [this] at hk; cases hk
  · rcases cellD h1 with ⟨i, g1, g2⟩ | ⟨g1, g2⟩
    · rcases cellD h2 with ⟨j, k1, k2⟩ | ⟨k1, k2⟩
      · rw [at_ g1, at_ k1] at q
        have := bk.inj i j (iLt g2) (iLt k2) q
        subst this
        rw [g1] at k1
        exact Option.some.inj k1
      · rw [at_ g1, keep (closed k2)] at q
        exact absurd q (apart (iLt g2) g1 k1 k2)
    · rcases cellD h2 with ⟨j, k1, k2⟩ | ⟨k1, k2⟩
      · rw [at_ k1, keep (closed g2)] at q
        exact absurd q.symm (apart (iLt k2) k1 g1 g2)
      · rw [keep (closed g2), keep (closed k2)] at q
        exact m.inj n n' c1 c2 g2 k2 q
  · rcases cellD h with ⟨i, g1, g2⟩ | ⟨g1, g2⟩
    · rw [at_ g1]
      refine ⟨(bk.own i (iLt g2)).1, ?_⟩
      rcases (bk.own i (iLt g2)).2 with hi | hi
      · rw [bk.kp i hi]
        rw [List.getElem?_append_left hi] at g1
        rw [rhoC_at g1]
        obtain ⟨c2, h2'⟩ := hL n (List.mem_of_getElem? g1)
        exact (m.own n c2 h2').2
      · exact .inr (m.fresh0 hi)
    · rw [keep (closed g2)]
      refine ⟨?_, (m.own n c g2).2⟩
      cases hR : R' (ρ n) with
      | none => rfl
      | some o =>
        rcases bk.new _ _ hR with z | z
        · rw [(m.own n c g2).1] at z; cases z
        · obtain ⟨o2, ho⟩ := (m.cell n c g2).some
          rw [z] at ho; cases ho
  · have h : n < e.np := h
    rw [keep fun z => ?_]
    · exact m.par n h
    · have := (Env.open_of (hop n z)).1
      omega
  · rcases bk.new a o h with z | z
    · exact m.new a o z
    · exact .inr (m.fresh0 z)
  · refine bk.frame a o (m.frame a o h hn) fun i hi hq => ?_
    obtain ⟨k, hk⟩ : ∃ k, L[i]? = some k := ⟨_, List.getElem?_eq_getElem hi⟩
    rw [rhoC_at hk] at hq
    obtain ⟨c2, h2'⟩ := hL k (List.mem_of_getElem? hk)
    rcases (m.own k c2 h2').2 with z | z
    · exact hn (by rw [← hq]; exact List.mem_of_getElem? (m.par k z))
    · rw [hq, h] at z; cases z
  · obtain ⟨o2, h2⟩ := m.there a o h
    exact bk.there a o2 h2
  · exact ⟨keep (closed h), upds_live h⟩

theorem call_run {P : Nat} {F : Fd} {L Ln : List Nat} {ws : List W} {vs : List V} {Q : VK} (m : Md K b R ρ e σ H) (rs : Paired (RepW K R ρ) ws vs) (hP : vs.length = P) (q : OkR K Wx (lW K) b R ρ e σ Q (runF F L Ln ws e)) :
    spD K P F vs H Q (fun cls d H' => Wx cls d σ H') := by
  unfold runF at q
  split at q
  case isFalse => exact q.elim
  case isTrue hcond =>
  rw [Bool.and_eq_true] at hcond
  have hnd := nodup_iff hcond.1
  have hop : ∀ n ∈ Ln, e.open n = true := fun n hn => List.all_eq_true.mp hcond.2 n hn
  cases hws : mapW (renW L) ws with
  | none => simp only [hws] at q; exact q.elim
  | some ws' =>
    cases hc0 : cellsOf e L with
    | none => simp only [hws, hc0] at q; exact q.elim
    | some cs0 =>
      simp only [hws, hc0] at q
      cases hcs : mapCs (renW L) cs0 with
      | none => simp only [hcs] at q; exact q.elim
      | some cs =>
        simp only [hcs] at q
        obtain ⟨l0, g0⟩ := cellsOf_get hc0
        obtain ⟨l1, g1⟩ := mapCs_get hcs
        have lcs : cs.length = L.length := l1.trans l0
        have hL : ∀ n ∈ L, ∃ c, e.cell n = some c := fun n hn => by
          obtain ⟨i, hi⟩ := List.mem_iff_getElem?.mp hn
          have hlt : i < cs0.length := by rw [l0]; exact (List.getElem?_eq_some_iff.mp hi).1
          obtain ⟨n', h1, h2⟩ := g0 i _ (List.getElem?_eq_getElem hlt)
          rw [hi] at h1
          cases h1
          exact ⟨_, h2⟩
        have lget : ∀ i, i < cs.length → ∃ n c, L[i]? = some n ∧ e.cell n = some c := fun i hi => by
          have h1 : L[i]? = some L[i] := List.getElem?_eq_getElem (by rw [← lcs]; exact hi)
          obtain ⟨c, h2⟩ := hL _ (List.mem_of_getElem? h1)
          exact ⟨_, c, h1, h2⟩
        have ndL : L.Nodup := (List.nodup_append.mp hnd).1
        refine ⟨hP, R, rhoC ρ L, ws', cs, m.sub, mapW_rep ren_rep hws rs, fun i c hi => ?_, fun i hi => ?_, fun i j hi hj hq => ?_, ?_⟩
        · obtain ⟨c0, h1, h2⟩ := g1 i c hi
          obtain ⟨n, h3, h4⟩ := g0 i c0 h1
          rw [rhoC_at h3]
          exact mapCell_at ren_rep (Same.refl _) h2 (m.cell n c0 h4)
        · obtain ⟨n, c, h1, h2⟩ := lget i hi
          rw [rhoC_at h1]
          exact (m.own n c h2).1
        · obtain ⟨n, c, h1, h2⟩ := lget i hi
          obtain ⟨n', c', h3, h4⟩ := lget j hj
          rw [rhoC_at h1, rhoC_at h3] at hq
          have := m.inj n n' c c' h2 h4 hq
          subst this
          rw [← idx_of ndL h1, ← idx_of ndL h3]
        · cases hF : F ws' cs with
          | fail => simp only [hF] at q; exact q.elim
          | ok w cs2 =>
            simp only [hF] at q
            cases h3 : mapCs (backW (L ++ Ln)) cs2 with
            | none => simp only [h3] at q; exact q.elim
            | some cs3 =>
              cases h4 : backW (L ++ Ln) w with
              | none => simp only [h3, h4] at q; exact q.elim
              | some w3 =>
                simp only [h3, h4] at q
                by_cases hlen : cs2.length = (L ++ Ln).length
                · rw [if_pos hlen] at q
                  intro R' ρ' v H' bk rv
                  rw [lcs] at bk
                  obtain ⟨m', lv⟩ := after_call m hnd hop hL bk h3 hlen
                  exact q R' _ v H' bk.sR lv m' (back_rep hnd w w3 v h4 rv)
                · rw [if_neg hlen] at q; exact q.elim
          | exn x cs2 =>
            simp only [hF] at q
            cases h3 : mapCs (backW L) cs2 with
            | none => simp only [h3] at q; exact q.elim
            | some cs3 =>
              simp only [h3] at q
              by_cases hlen : cs2.length = L.length
              · rw [if_pos hlen] at q
                intro R' ρ' H' cls d bk rx
                rw [lcs] at bk
                have e0 : L ++ [] = L := List.append_nil L
                obtain ⟨m', lv⟩ := after_call (Ln := []) m (by rw [e0]; exact ndL) (fun n hn => nomatch hn) hL bk (by rw [e0]; exact h3) (by rw [e0]; exact hlen)
                rw [e0] at m'
                exact q R' _ σ H' cls d bk.sR m' rx
              · rw [if_neg hlen] at q; exact q.elim
end

section
variable {X : Cx} {Wx : WX} {a c o : Expr} {es : List Expr} {pos p apos : Pos} {k : Nat} {f C : Addr} {fd : FuncData} {ps : List Str} {F : Fd} {x mn : Str} {fs : List Ev} {ds : List Value} {dvs : List D}
/-- the values of defaults -/
def flatDs : List D → Option (List V)
  | [] => some []
  | d :: ds => match flatD d, flatDs ds with | some v, some vs => some (v :: vs) | _, _ => none
theorem flatDs_rep {K : PySem.W.Frag} {R : Hp} {ρ : Nat → Addr} : ∀ {ds : List D} {vs : List V}, flatDs ds = some vs → Paired (RepW K R ρ) (ds.map W.d) vs
  | [], _, h => by cases h; exact .nil
  | d :: ds, _, h => by
    unfold flatDs at h
    cases h1 : flatD d with
    | none => rw [h1] at h; cases h
    | some v =>
      cases h2 : flatDs ds with
      | none => rw [h1, h2] at h; cases h
      | some vs =>
        rw [h1, h2] at h; cases h
        refine .cons ?_ (flatDs_rep h2)
        show Rep K R d v
        cases d <;> first | (cases h1; constructor) | cases h1
def eCall (P : Nat) (F : Fd) (L Ln : List Nat) (dvs : List D) (fs : List Ev) : Ev := fun e => (evA fs e).bind fun ws e1 => if (ws ++ dvs.map W.d).length = P then runF F L Ln (ws ++ dvs.map W.d) e1 else .fail
theorem d_call {np : Nat} {L Ln : List Nat} {dv : List V} (tk : Takes X Wx) (G : FnOk X.prog X.w X.K X.mg X.base (L2.CX X.prog X.w) k f fd ps (spD X.K np F)) (hr : Room k X.A) (hg : Gl X x) (hm : X.mg x = some (.ref f)) (hk : PySem.W.keepIn X.K (.ref f) = true) (hb : Binds X.K fd ps ds) (hd : Vals dv ds) (hdv : flatDs dvs = some dv)
    (ha : PA X (a :: es) (tDA X.K Wx (evA fs))) (hdb : (x == ("__debug__" : Str)) = false := by decide) (he : starEach (a :: es) X.env = (false, eval a X.env) :: starEach es X.env := by rfl) (hpl : (backTo pos (starEach es X.env)).any (·.1) = false := by rfl) :
    PE X (.Call (.Name x p) (a :: es) [] pos) (tD X.K Wx (eCall np F L Ln dvs fs)) := (pe_callSD (E := WE Wx) G hr hg hm hk hb hd (fun σ => passAt tk σ) ha hdb he hpl).imp fun σ H Q h =>
  tG_one h fun bs R ρ e H ws vs m r q => by
    split at q
    · rename_i hlen
      have r2 : Paired (RepW X.K R ρ) (ws ++ dvs.map W.d) (vs ++ dv) := Paired.app r (flatDs_rep hdv)
      exact call_run m r2 (by rw [← Paired.lengthEq r2]; exact hlen) q
    · exact q.elim
/-- o.m(..), what is raised wished for at the slots -/
def tMethS (C : Addr) (m : Str) (sp : Sp) (dvs : List V) (E : St → XK) (ta : TE) (t : TA) : TE := fun σ H Q => ta σ H fun x H1 => ∃ a dx fs, x = .ref a ∧ H1 a = some (.ins C dx fs) ∧ fs.lookup m = none ∧
  t σ H1 fun vs H2 => sp (x :: (vs ++ dvs)) H2 Q (E σ)
theorem pe_methS {pl : Sem Bool} {m : Str} {sp : Sp} {dvs : List V} {E : St → XK} {CX : CXT} {ta : TE} {t : TA} (he : PE X o ta) (c : Cls X.K C) (hm : Meth X.K C m f) (F : FnOk X.prog X.w X.K X.mg X.base CX k f fd ps sp) (hr : Room k X.A) (hb : Binds X.K fd ps ds) (hd : Vals dvs ds) (hx : ∀ σ, PassesAt CX X σ (E σ)) (ha : PA X (a :: es) t)
    (hst : starEach (a :: es) X.env = (false, eval a X.env) :: starEach es X.env := by rfl) (hpl : (backTo pos (starEach es X.env)).any (·.1) = false := by rfl)
    (ht : eval (.Call (.Attribute o m apos) (a :: es) [] pos) X.env = (do
      let ov ← eval o X.env
      standAt apos.atName
      let (f, first) ← holding [ov] (getMethod ov m pl)
      callWith pos f first (backTo pos (starEach (a :: es) X.env)) (backToKw pos (keywordEach [] X.env))) := by rfl) :
    PE X (.Call (.Attribute o m apos) (a :: es) [] pos) (tMethS C m sp dvs E ta t) := by
  refine ⟨fun pins s σ H Q I h => ?_⟩
  refine PySem.W.methodCall_KW (pl := pl) (thn (he.run pins s σ H _ I h) fun u s1 ⟨x, H1, I1, rx, a', dx, fs, ex, ea, l, q⟩ => ?_) ht
  subst ex
  obtain rfl : u = Value.ref a' := rx
  refine getmeth_ok I1 ea c hm l ?_
  refine PySem.W.callWith_K (first := [.ref a']) (h₀ := X.base) I1.ok.mod.kin hm.kp (thn (ha.run pos pins s1 σ H1 _ I1 q) fun us s2 ⟨vs, H2, I2, r, q2⟩ => ⟨I2.kIn, ?_⟩) hst hpl
  exact run_fnSD (us := .ref a' :: us) (vs := .ref a' :: vs) F hr hb hd (hx σ) I2 (.cons rfl r) q2
theorem pe_methS0 {pl : Sem Bool} {m : Str} {sp : Sp} {dvs : List V} {E : St → XK} {CX : CXT} {ta : TE} (he : PE X o ta) (c : Cls X.K C) (hm : Meth X.K C m f) (F : FnOk X.prog X.w X.K X.mg X.base CX k f fd ps sp) (hr : Room k X.A) (hb : Binds X.K fd ps ds) (hd : Vals dvs ds) (hx : ∀ σ, PassesAt CX X σ (E σ))
    (ht : eval (.Call (.Attribute o m apos) [] [] pos) X.env = (do
      let ov ← eval o X.env
      standAt apos.atName
      let (f, first) ← holding [ov] (getMethod ov m pl)
      callWith pos f first (backTo pos (starEach [] X.env)) (backToKw pos (keywordEach [] X.env))) := by rfl) :
    PE X (.Call (.Attribute o m apos) [] [] pos) (tMethS C m sp dvs E ta tNil) := by
  refine ⟨fun pins s σ H Q I h => ?_⟩
  refine PySem.W.methodCall_KW (pl := pl) (thn (he.run pins s σ H _ I h) fun u s1 ⟨x, H1, I1, rx, a', dx, fs, ex, ea, l, q⟩ => ?_) ht
  subst ex
  obtain rfl : u = Value.ref a' := rx
  refine getmeth_ok I1 ea c hm l ?_
  exact PySem.W.callWith_K0 (first := [.ref a']) I1.kIn hm.kp (run_fnSD (us := [.ref a']) (vs := [.ref a']) F hr hb hd (hx σ) I1 (.cons rfl .nil) q)
/-- w is an instance of the class at C, and mn is none of its attributes -/
def hasNo {α : Type} (mn : Str) : List (Str × α) → Bool
  | [] => true
  | (n, _) :: r => !(n == mn) && hasNo mn r
def insD (C : Addr) (mn : Str) (e : Env) : W → Bool
  | .d (.obj C' fs) => decide (C' = C) && hasNo mn fs
  | .d _ => false
  | .loc n => match e.cell n with | some (.obj C' fs) => decide (C' = C) && hasNo mn fs | _ => false
theorem hasNo_lookup {α β : Type} : ∀ {fs : List (Str × α)} {ws : List (Str × β)}, ws.map (·.1) = fs.map (·.1) → hasNo mn fs = true → ws.lookup mn = none
  | [], [], _, _ => rfl
  | [], _ :: _, h, _ => by simp at h
  | _ :: _, [], h, _ => by simp at h
  | (g, x) :: fs, (g', y) :: ws, h1, h2 => by
    rw [List.map_cons, List.map_cons] at h1
    injection h1 with e1 e2
    have e1 : g' = g := e1
    subst e1
    unfold hasNo at h2
    rw [Bool.and_eq_true] at h2
    have hq : ¬ g' = mn := fun z => by
      have := h2.1
      rw [beq_iff_eq.mpr z] at this
      cases this
    have hb : (mn == g') = false := beq_eq_false_iff_ne.mpr (Ne.symm hq)
    simp only [List.lookup, hb]
    exact hasNo_lookup e2 h2.2
theorem insD_ok {K : PySem.W.Frag} {b : Bs} {R : Hp} {ρ : Nat → Addr} {e : Env} {σ : St} {H : Hp} {w : W} {v : V} (m : Md K b R ρ e σ H) (r : RepW K R ρ w v) (h : insD C mn e w = true) : ∃ a dx fs, v = .ref a ∧ H a = some (.ins C dx fs) ∧ fs.lookup mn = none := by
  unfold insD at h
  split at h
  · rw [Bool.and_eq_true] at h
    have hC := of_decide_eq_true h.1
    subst hC
    have r : Rep K R _ v := r
    cases r with
    | obj h1 h2 l => exact ⟨_, _, _, rfl, m.sub _ _ h1, hasNo_lookup h2 h.2⟩
  · cases h
  · rename_i n
    have e1 : v = .ref (ρ n) := r
    subst e1
    split at h
    · rename_i hc
      rw [Bool.and_eq_true] at h
      have hC := of_decide_eq_true h.1
      subst hC
      obtain ⟨dx, ws, g1, g2, g3⟩ := m.cell n _ hc
      exact ⟨_, _, _, rfl, g1, hasNo_lookup g2 h.2⟩
    · cases h
def eMeth (C : Addr) (mn : Str) (P : Nat) (F : Fd) (L Ln : List Nat) (dvs : List D) (g : Ev) (fs : List Ev) : Ev := fun e => (g e).bind fun w e1 => if (insD C mn e1 w && wl e1 w) = true then
  (evA fs e1).bind fun ws e2 => (if (w :: (ws ++ dvs.map W.d)).length = P then runF F L Ln (w :: (ws ++ dvs.map W.d)) e2 else .fail) else .fail
theorem d_methD {np : Nat} {pl : Sem Bool} {L Ln : List Nat} {dv : List V} {g : Ev} (tk : Takes X Wx) (ho : PE X o (tD X.K Wx g)) (cl : Cls X.K C) (hm : Meth X.K C mn f) (G : FnOk X.prog X.w X.K X.mg X.base (L2.CX X.prog X.w) k f fd ps (spD X.K np F)) (hr : Room k X.A) (hb : Binds X.K fd ps ds) (hd : Vals dv ds) (hdv : flatDs dvs = some dv)
    (ha : PA X (a :: es) (tDA X.K Wx (evA fs))) (hst : starEach (a :: es) X.env = (false, eval a X.env) :: starEach es X.env := by rfl) (hpl : (backTo pos (starEach es X.env)).any (·.1) = false := by rfl)
    (ht : eval (.Call (.Attribute o mn apos) (a :: es) [] pos) X.env = (do
      let ov ← eval o X.env
      standAt apos.atName
      let (f, first) ← holding [ov] (getMethod ov mn pl)
      callWith pos f first (backTo pos (starEach (a :: es) X.env)) (backToKw pos (keywordEach [] X.env))) := by rfl) :
    PE X (.Call (.Attribute o mn apos) (a :: es) [] pos) (tD X.K Wx (eMeth C mn np F L Ln dvs g fs)) := (pe_methS (E := WE Wx) ho cl hm G hr hb hd (fun σ => passAt tk σ) ha hst hpl ht).imp fun σ H Q h =>
  tG_one h fun bs R ρ e H w v m r q => by
    split at q
    · rename_i h1
      rw [Bool.and_eq_true] at h1
      obtain ⟨a', dx, fs', e1, e2, e3⟩ := insD_ok m r h1.1
      refine ⟨a', dx, fs', e1, e2, e3, bs, R, ρ, e, m, (OkR.bind (L := lA X.K) q).imp fun vs H2 h2 => ?_⟩
      obtain ⟨R2, ρ2, e2, ws, s2, l2, m2, r2, _, q2⟩ := h2
      split at q2
      · rename_i hlen
        have r3 : Paired (RepW X.K R2 ρ2) (w :: (ws ++ dvs.map W.d)) (v :: (vs ++ dv)) := .cons (r.later h1.2 s2 l2) (Paired.app r2 (flatDs_rep hdv))
        exact call_run m2 r3 (by rw [← Paired.lengthEq r3]; exact hlen) q2
      · exact q2.elim
    · exact q.elim
theorem d_methD0 {np : Nat} {pl : Sem Bool} {L Ln : List Nat} {dv : List V} {g : Ev} (tk : Takes X Wx) (ho : PE X o (tD X.K Wx g)) (cl : Cls X.K C) (hm : Meth X.K C mn f) (G : FnOk X.prog X.w X.K X.mg X.base (L2.CX X.prog X.w) k f fd ps (spD X.K np F)) (hr : Room k X.A) (hb : Binds X.K fd ps ds) (hd : Vals dv ds) (hdv : flatDs dvs = some dv)
    (ht : eval (.Call (.Attribute o mn apos) [] [] pos) X.env = (do
      let ov ← eval o X.env
      standAt apos.atName
      let (f, first) ← holding [ov] (getMethod ov mn pl)
      callWith pos f first (backTo pos (starEach [] X.env)) (backToKw pos (keywordEach [] X.env))) := by rfl) :
    PE X (.Call (.Attribute o mn apos) [] [] pos) (tD X.K Wx (eMeth C mn np F L Ln dvs g [])) := (pe_methS0 (E := WE Wx) ho cl hm G hr hb hd (fun σ => passAt tk σ) ht).imp fun σ H Q h =>
  tG_one h fun bs R ρ e H w v m r q => by
    split at q
    · rename_i h1
      rw [Bool.and_eq_true] at h1
      obtain ⟨a', dx, fs', e1, e2, e3⟩ := insD_ok m r h1.1
      refine ⟨a', dx, fs', e1, e2, e3, ?_⟩
      have q2 : OkR X.K Wx (lW X.K) bs R ρ e σ Q (if (w :: ([] ++ dvs.map W.d)).length = np then runF F L Ln (w :: ([] ++ dvs.map W.d)) e else .fail) := q
      split at q2
      · rename_i hlen
        have r3 : Paired (RepW X.K R ρ) (w :: ([] ++ dvs.map W.d)) (v :: ([] ++ dv)) := .cons r (flatDs_rep hdv)
        exact call_run m r3 (by rw [← Paired.lengthEq r3]; exact hlen) q2
      · exact q2.elim
    · exact q.elim
end
end Dl
end
section
set_option Elab.async false
set_option linter.all false
set_option maxRecDepth 100000
set_option maxHeartbeats 4000000
namespace Dl
open PySem L2

section
variable {K : PySem.W.Frag} {Wx : WX} {b : Bs} {R R' : Hp} {ρ ρ' : Nat → Addr} {e : Env} {σ : St} {H H' : Hp}
theorem cell_rep {a : Addr} {c : Cell} {x : D} {o : HO} (hk : CellAt K R ρ H a c) (hx : c.toD = some x) (ho : H a = some o) (hR : R a = none) : Rep K (upd R a o) x (.ref a) := by
  have sR : Same R (upd R a o) := same_upd hR
  cases c with
  | lst xs =>
    obtain ⟨vs, h1, h2⟩ := hk
    have e1 : D.lst xs = x := Option.some.inj hx
    subst e1
    rw [h1] at ho; cases ho
    exact .lst upd_same (RepL.mono sR h2)
  | dic kvs =>
    obtain ⟨ws, h1, h2, h3⟩ := hk
    have e1 : D.dic kvs = x := Option.some.inj hx
    subst e1
    rw [h1] at ho; cases ho
    exact .dic upd_same h2 (RepL.mono sR h3)
  | dct kvs =>
    obtain ⟨ws, h1, h2, h3⟩ := hk
    have e1 : D.dct kvs = x := Option.some.inj hx
    subst e1
    rw [h1] at ho; cases ho
    exact .dct upd_same h2 (RepL.mono sR h3)
  | obj C fs =>
    obtain ⟨dx, ws, h1, h2, h3⟩ := hk
    have hx : (toDf fs).map (D.obj C) = some x := hx
    cases q : toDf fs with
    | none => rw [q] at hx; cases hx
    | some ds =>
      rw [q] at hx
      have e1 : D.obj C ds = x := Option.some.inj hx
      subst e1
      rw [h1] at ho; cases ho
      obtain ⟨r1, r2⟩ := toDf_rep q h3
      exact .obj upd_same (h2.trans r2.symm) (RepL.mono sR r1)
  | lw us =>
    obtain ⟨vs, h1, h2⟩ := hk
    have hx : (toDs us).map D.lst = some x := hx
    cases q : toDs us with
    | none => rw [q] at hx; cases hx
    | some ds =>
      rw [q] at hx
      have e1 : D.lst ds = x := Option.some.inj hx
      subst e1
      rw [h1] at ho; cases ho
      exact .lst upd_same (RepL.mono sR (toDs_rep q h2))
theorem Md.dropD {k : Nat} {c : Cell} {x : D} (m : Md K b R ρ e σ H) (hk : e.cell k = some c) (hx : c.toD = some x) (hnp : e.np ≤ k) : ∃ R', Same R R' ∧ Md K b R' ρ (e.setC k none) σ H ∧ Rep K R' x (.ref (ρ k)) := by
  have ca := m.cell k c hk
  obtain ⟨o, ho⟩ := ca.some
  have hR := (m.own k c hk).1
  have sR : Same R (upd R (ρ k) o) := same_upd hR
  have old : ∀ {n c}, (e.setC k none).cell n = some c → n ≠ k ∧ e.cell n = some c := fun {n c} h => by
    rw [Env.cell_setC] at h
    by_cases q : k = n
    · subst q; rw [if_pos rfl] at h; split at h <;> cases h
    · rw [if_neg q] at h; exact ⟨Ne.symm q, h⟩
  refine ⟨_, sR, ⟨fun i w h => ?_, fun n c' h => ?_, fun n n' c1 c2 h1 h2 q => ?_, fun n c' h => ?_, m.par, m.npl, fun a u h => ?_, m.ext.trans sR, fun a u h => ?_, m.frame, m.there, m.len⟩, cell_rep ca hx ho hR⟩
  · obtain ⟨v, q1, q2⟩ := m.slot i w h
    exact ⟨v, q1, q2.mono sR⟩
  · exact (m.cell n c' (old h).2).mono sR rfl fun _ _ => rfl
  · exact m.inj n n' c1 c2 (old h1).2 (old h2).2 q
  · obtain ⟨hn, hc⟩ := old h
    exact ⟨by rw [upd_ne fun z => hn (m.inj n k c' c hc hk z)]; exact (m.own n c' hc).1, (m.own n c' hc).2⟩
  · by_cases q : a = ρ k
    · subst q; rw [upd_same] at h; cases h; exact ho
    · rw [upd_ne q] at h; exact m.sub a u h
  · by_cases q : a = ρ k
    · subst q
      rcases (m.own k c hk).2 with z | z
      · omega
      · exact .inr z
    · rw [upd_ne q] at h; exact m.new a u h
theorem OkR.bind2 {α β γ δ : Type} {L : Rl α β} {L2 : Rl γ δ} {Q : δ → Hp → Prop} {r : Rs α} {k : α → Env → Rs γ} {R0 : Hp} {ρ0 : Nat → Addr} {e0 : Env} (s0 : Same R R0) (h : OkR K Wx L2 b R ρ e σ Q (r.bind k)) :
    OkR K Wx L b R0 ρ0 e0 σ (fun v H1 => ∃ R1 ρ1 e1 a, Same R0 R1 ∧ Live e0 e1 ρ0 ρ1 ∧ Md K b R1 ρ1 e1 σ H1 ∧ L R1 ρ1 a v ∧ OkR K Wx L2 b R ρ e σ Q (k a e1)) r := by
  cases r with
  | ok a e' => exact fun R' ρ' v H' s l m rp => ⟨R', ρ', e', a, s, l, m, rp, h⟩
  | exn x e' => exact fun R' ρ' σ' H' cls d s' m r => h R' ρ' σ' H' cls d (s0.trans s') m r
  | fail => exact h
end

/-- a made object stays own, or is frozen -/
def endO (keep : Bool) (k : Nat) : Ev := fun e => if keep = true then .ok (.loc k) e else match e.cell k with
  | some c => (match c.toD with | some x => if e.np ≤ k then .ok (.d x) (e.setC k none) else .fail | none => .fail)
  | none => .fail
section
variable {X : Cx} {Wx : WX} {a : Expr} {es : List Expr} {pos p : Pos} {k : Nat} {f C : Addr} {fd : FuncData} {ps : List Str} {F : Fd} {x : Str} {fs : List Ev} {ds : List Value} {dvs : List D}
def tMakeS (C : Addr) (sp : Sp) (dvs : List V) (E : St → XK) (t : TA) : TE := fun σ H Q => t σ H fun vs H1 => ∀ x dx, H1 x = none → H1 dx = none → dx ≠ x →
  sp (.ref x :: (vs ++ dvs)) (upd (upd H1 dx (.own x)) x (.ins C dx [])) (fun v H2 => v = .non ∧ Q (.ref x) H2) (E σ)
theorem run_makeS {CX : CXT} {sp : Sp} {dvs : List V} {E : St → XK} {pins : List (Addr × Obj)} {σ : St} {H : Hp} {s : Shared} {Q : VK} {us : List Value} {vs : List V} (M : Mk X.K C f) (F : FnOk X.prog X.w X.K X.mg X.base CX k f fd ps sp) (hr : Room (k + 1) X.A) (hb : Binds X.K fd ps ds) (hd : Vals dvs ds)
    (hx : PassesAt CX X σ (E σ)) (I : Inv X pins σ H s) (r : Vals vs us)
    (h : ∀ x dx, H x = none → H dx = none → dx ≠ x → sp (.ref x :: (vs ++ dvs)) (upd (upd H dx (.own x)) x (.ins C dx [])) (fun v H2 => v = .non ∧ Q (.ref x) H2) (E σ)) :
    wpAny (model X.prog X.w) X.A (call (.ref C) us) (EP X pins σ Q) X.xe s := by
  have hq := h (s.heap.objs.size + 1) s.heap.objs.size (I.hok.fresh (Nat.le_succ _)) (I.hok.fresh (Nat.le_refl _)) (Nat.ne_of_lt (Nat.lt_succ_self _))
  have I2 := Inv.made (C := C) I
  have r2 : Vals (V.ref (s.heap.objs.size + 1) :: (vs ++ dvs)) (Value.ref (s.heap.objs.size + 1) :: (us ++ ds)) := .cons rfl (r.append hd)
  have hl : (Value.ref (s.heap.objs.size + 1) :: us ++ ds).length = ps.length := by
    have e := r2.length
    rw [F.len _ _ _ _ hq] at e
    exact e.symm
  refine wpAny_call (make_map (f := f) I.kIn M.makes M.init (beq_iff_eq.mp M.fn) (codeAny_mono (F.run _ X.stack _ _ ⟨Value.ref (s.heap.objs.size + 1) :: us, []⟩ (Value.ref (s.heap.objs.size + 1) :: (us ++ ds)) _ _ (E σ) (hr.make C us [])
    (I2.env0.make C us []) (hb _ (Value.ref (s.heap.objs.size + 1) :: us) I2.kIn hl) r2 hq) fun r s' hq' => ?_))
  cases r with
  | error e => exact hx pins _ _ e s' I2 hq'
  | ok fl =>
    cases fl with
    | ret u =>
      obtain ⟨v, H', I3, rv, ev, q3⟩ := I2.after hq'
      subst ev
      exact ⟨rv, ⟨V.ref (s.heap.objs.size + 1), H', I3, rfl, q3⟩⟩
    | next => exact False.elim hq'
    | brk => exact False.elim hq'
    | cont => exact False.elim hq'
theorem pe_makeS {CX : CXT} {sp : Sp} {dvs : List V} {E : St → XK} {t : TA} (M : Mk X.K C f) (F : FnOk X.prog X.w X.K X.mg X.base CX k f fd ps sp) (hr : Room (k + 1) X.A) (hg : Gl X x) (hm : X.mg x = some (.ref C)) (hb : Binds X.K fd ps ds) (hd : Vals dvs ds) (hx : ∀ σ, PassesAt CX X σ (E σ))
    (ha : PA X (a :: es) t) (hdb : (x == ("__debug__" : Str)) = false := by decide) (he : starEach (a :: es) X.env = (false, eval a X.env) :: starEach es X.env := by rfl) (hpl : (backTo pos (starEach es X.env)).any (·.1) = false := by rfl) :
    PE X (.Call (.Name x p) (a :: es) [] pos) (tMakeS C sp dvs E t) := by
  refine ⟨fun pins s σ H Q I h => ?_⟩
  refine wpAny_Call_Name_kw (ld_glob I hg hm ?_ hdb)
  refine PySem.W.callWith_K (h₀ := X.base) I.ok.mod.kin M.kp (thn (ha.run pos pins s σ H _ I h) fun us s1 ⟨vs, H1, I1, r, q⟩ => ⟨I1.kIn, ?_⟩) he hpl
  exact run_makeS M F hr hb hd (hx σ) I1 r q
def eMake (C : Addr) (P : Nat) (F : Fd) (k : Nat) (L Ln : List Nat) (keep : Bool) (dvs : List D) (fs : List Ev) : Ev := fun e => (evA fs e).bind fun ws e1 =>
  if (e1.open k && ws.all fun w => !isLoc k w) = true then
    (if (W.loc k :: (ws ++ dvs.map W.d)).length = P then
      (runF F (k :: L) Ln (W.loc k :: (ws ++ dvs.map W.d)) (e1.setC k (some (.obj C [])))).bind fun w e3 => (match w with | .d .non => endO keep k e3 | _ => .fail)
    else .fail)
  else .fail
theorem d_make {np : Nat} {kr : Nat} {L Ln : List Nat} {keep : Bool} {dv : List V} (tk : Takes X Wx) (M : Mk X.K C f) (G : FnOk X.prog X.w X.K X.mg X.base (L2.CX X.prog X.w) k f fd ps (spD X.K np F)) (hr : Room (k + 1) X.A) (hg : Gl X x) (hm : X.mg x = some (.ref C)) (hb : Binds X.K fd ps ds) (hd : Vals dv ds) (hdv : flatDs dvs = some dv)
    (ha : PA X (a :: es) (tDA X.K Wx (evA fs))) (hdb : (x == ("__debug__" : Str)) = false := by decide) (he : starEach (a :: es) X.env = (false, eval a X.env) :: starEach es X.env := by rfl) (hpl : (backTo pos (starEach es X.env)).any (·.1) = false := by rfl) :
    PE X (.Call (.Name x p) (a :: es) [] pos) (tD X.K Wx (eMake C np F kr L Ln keep dvs fs)) := (pe_makeS (E := WE Wx) M G hr hg hm hb hd (fun σ => passAt tk σ) ha hdb he hpl).imp fun σ H Q h =>
  tG_one h fun bs R ρ e H ws vs m r q => by
    split at q
    case isFalse => exact q.elim
    case isTrue hcond =>
    rw [Bool.and_eq_true] at hcond
    obtain ⟨o1, o2, o3, o4⟩ := Env.open_of hcond.1
    split at q
    case isFalse => exact q.elim
    case isTrue hlen =>
    intro y dx hy hdx hne
    have m1 := m.grow (same_upd (o := .own y) hdx)
    have hy1 : upd H dx (.own y) y = none := by rw [upd_ne (Ne.symm hne)]; exact hy
    have m2 := m1.freshC (o := .ins C dx []) hy1 o2 o1 o4 (c := .obj C []) ⟨dx, [], upd_same, rfl, .nil⟩
    have hws : ∀ w ∈ ws, isLoc kr w = false := fun w hw => by
      have := List.all_eq_true.mp hcond.2 w hw
      simpa using this
    have lv : Live e (e.setC kr (some (.obj C []))) ρ (setR ρ kr y) := fun n c hc => by
      have hn : n ≠ kr := fun z => by subst z; rw [o2] at hc; cases hc
      exact ⟨setR_ne hn, c, by rw [Env.cell_setC, if_neg (Ne.symm hn)]; exact hc⟩
    have r3 : Paired (RepW X.K R (setR ρ kr y)) (W.loc kr :: (ws ++ dvs.map W.d)) (V.ref y :: (vs ++ dv)) := .cons (by
      show V.ref y = .ref (setR ρ kr y kr)
      rw [setR_same]) (Paired.app (lw_setR (e := e) r hws) (flatDs_rep hdv))
    refine call_run m2 r3 (by rw [← Paired.lengthEq r3]; exact hlen) ((OkR.bind2 (L := lW X.K) (Same.refl R) q).imp fun v H2 h2 => ?_)
    obtain ⟨R1, ρ1, e3, w, s1, l1, m3, rw3, q3⟩ := h2
    split at q3
    · have rw3 : Rep X.K R1 .non v := rw3
      cases rw3
      refine ⟨rfl, ?_⟩
      have hkc : (e.setC kr (some (.obj C []))).cell kr = some (.obj C []) := by rw [Env.cell_setC, if_pos rfl, if_pos o3]
      obtain ⟨hk1, c1, hc1⟩ := l1 kr _ hkc
      rw [setR_same] at hk1
      unfold endO at q3
      split at q3
      · rw [← hk1]
        exact q3 R1 ρ1 _ H2 s1 (lv.trans l1) m3 rfl
      · rw [hc1] at q3
        simp only at q3
        cases hx : c1.toD with
        | none => simp only [hx] at q3; exact q3.elim
        | some xd =>
          simp only [hx] at q3
          split at q3
          · rename_i hnp
            obtain ⟨R7, s7, m7, r7⟩ := m3.dropD hc1 hx hnp
            rw [hk1] at r7
            refine q3 R7 ρ1 (.ref y) H2 (s1.trans s7) (fun n c hcn => ?_) m7 r7
            obtain ⟨h8, c8, h9⟩ := (lv.trans l1) n c hcn
            have hn : n ≠ kr := fun z => by subst z; rw [o2] at hcn; cases hcn
            exact ⟨h8, c8, by rw [Env.cell_setC, if_neg (Ne.symm hn)]; exact h9⟩
          · exact q3.elim
    · exact q3.elim
end
end Dl
end
section
set_option Elab.async false
set_option linter.all false
set_option maxRecDepth 100000
set_option maxHeartbeats 4000000
namespace Dl
open PySem L2

section
variable {X : Cx} {Wx : WX} {a b c tg : Expr} {es rest : List Expr} {pos : Pos} {K : PySem.W.Frag}
def eNeg (f : Ev) : Ev := fun e => (f e).bind fun w e1 => match w with | .d (.int i) => .ok (.d (.int (-i))) e1 | _ => .fail
theorem d_neg {f : Ev} (h : PE X a (tD X.K Wx f)) : PE X (.UnaryOp .USub a pos) (tD X.K Wx (eNeg f)) := (pe_un un_neg h).imp fun σ H Q q =>
  tG_one q fun bs R ρ e H w v m r q2 => by
    split at q2
    · rename_i i
      have r : Rep X.K R (.int i) v := r
      cases r
      exact ⟨i, rfl, q2.fin (L := lW X.K) (a := .d (.int (-i))) m (Rep.int _)⟩
    · exact q2.elim
def eNot (f : Ev) : Ev := fun e => (f e).bind fun w e1 => match w with | .d (.bl k) => .ok (.d (.bl (!k))) e1 | _ => .fail
theorem d_not {f : Ev} (h : PE X a (tD X.K Wx f)) : PE X (.UnaryOp .Not a pos) (tD X.K Wx (eNot f)) := (pe_not h).imp fun σ H Q q =>
  tG_one q fun bs R ρ e H w v m r q2 => by
    split at q2
    · rename_i k
      have r : Rep X.K R (.bl k) v := r
      cases r
      exact ⟨k, rfl, q2.fin (L := lW X.K) (a := .d (.bl (!k))) m (Rep.bl _)⟩
    · exact q2.elim
def eAnd (f g : Ev) : Ev := fun e => (f e).bind fun w e1 => match w with | .d (.bl k) => if k = true then g e1 else .ok (.d (.bl false)) e1 | _ => .fail
def eOr (f g : Ev) : Ev := fun e => (f e).bind fun w e1 => match w with | .d (.bl k) => if k = true then .ok (.d (.bl true)) e1 else g e1 | _ => .fail
theorem d_one {op} {f : Ev} (h : PE X a (tD X.K Wx f)) : PE X (.BoolOp op [a] pos) (tD X.K Wx f) := pe_one h
theorem d_and {f g : Ev} (ha : PE X a (tD X.K Wx f)) (hb : PE X (.BoolOp .And (b :: rest) pos) (tD X.K Wx g)) : PE X (.BoolOp .And (a :: b :: rest) pos) (tD X.K Wx (eAnd f g)) := (pe_and ha hb).imp fun σ H Q q =>
  tG_one q fun bs R ρ e H w v m r q2 => by
    split at q2
    · rename_i k
      have r : Rep X.K R (.bl k) v := r
      cases r
      refine ⟨k, rfl, ?_⟩
      cases k with
      | true => exact ⟨bs, R, ρ, e, m, q2⟩
      | false => exact q2.fin (L := lW X.K) (a := .d (.bl false)) m (Rep.bl _)
    · exact q2.elim
theorem d_or {f g : Ev} (ha : PE X a (tD X.K Wx f)) (hb : PE X (.BoolOp .Or (b :: rest) pos) (tD X.K Wx g)) : PE X (.BoolOp .Or (a :: b :: rest) pos) (tD X.K Wx (eOr f g)) := (pe_or ha hb).imp fun σ H Q q =>
  tG_one q fun bs R ρ e H w v m r q2 => by
    split at q2
    · rename_i k
      have r : Rep X.K R (.bl k) v := r
      cases r
      refine ⟨k, rfl, ?_⟩
      cases k with
      | false => exact ⟨bs, R, ρ, e, m, q2⟩
      | true => exact q2.fin (L := lW X.K) (a := .d (.bl true)) m (Rep.bl _)
    · exact q2.elim
abbrev eIf (t : Env → Rs Bool) (f g : Ev) : Ev := fun e => (t e).bind fun k e1 => if k = true then f e1 else g e1
abbrev bNot (t : Env → Rs Bool) : Env → Rs Bool := fun e => (t e).bind fun k e1 => .ok (!k) e1
def powD : D → D → Option D := intD fun i j => if CPow i j then some (i ^ j.toNat) else none
theorem powD_ok : OpD K powD (rI CPow fun i j => .int (i ^ j.toNat)) := intD_ok fun i j k h => by
  split at h
  · rename_i hc; exact ⟨hc, (Option.some.inj h).symm⟩
  · cases h
/-- += of ints -/
def addI : D → D → Option D := intD fun i j => some (i + j)
theorem addI_ok : OpD K addI (rI0 fun i j => .int (i + j)) := intD_ok0 fun i j k h => (Option.some.inj h).symm

/-! range(a, b, c), c positive -/
def rangeC (i c : Int) (n : Nat) : List D := (List.range n).map fun k => D.int (i + (k : Nat) * c)
instance (i j c : Int) (n : Nat) : Decidable (RgC i j c n) := by unfold RgC; infer_instance
def kRng3 (ws : List W) : Env → Rs Itr := fun e => match ws with
  | [.d (.int i), .d (.int j), .d (.int c)] => if RgC i j c (Builtin.Range.rangeSize i j c).toNat then .ok ⟨rangeC i c (Builtin.Range.rangeSize i j c).toNat, fun _ => True⟩ e else .fail
  | _ => .fail
theorem rangeC_len (i c : Int) (n : Nat) : (rangeC i c n).length = n := by unfold rangeC; rw [List.length_map, List.length_range]
theorem ItOk.rangeC {R : Hp} {ρ : Nat → Addr} {lo c : Int} {n : Nat} : ItOk K R ρ ⟨Dl.rangeC lo c n, fun _ => True⟩ (Itc lo c n) := fun b R' ρ' e σ H s hr m hc => by
  refine ⟨fun i hi => ?_, by show n ≤ (Dl.rangeC lo c n).length; rw [rangeC_len]; exact Nat.le_refl _⟩
  have hi' : i < n := by
    have : i < (Dl.rangeC lo c n).length := hi
    rw [rangeC_len] at this; exact this
  refine ⟨hi', fun x H' y => ?_⟩
  obtain ⟨e1, e2⟩ := y
  subst e1; subst e2
  refine ⟨R', _, ?_, Same.refl _, m, .int _⟩
  show (Dl.rangeC lo c n)[i]? = _
  unfold Dl.rangeC
  rw [List.getElem?_map, List.getElem?_range hi']
  rfl
def iRg3 (f g h : Ev) : Env → Rs Itr := fun e => (evA [f, g, h] e).bind kRng3
theorem pair3 {F : W → V → Prop} {w w' w2 : W} {vs : List V} (r : Paired F [w, w', w2] vs) : ∃ v v' v2, vs = [v, v', v2] ∧ F w v ∧ F w' v' ∧ F w2 v2 := by
  cases r with
  | cons a t =>
    obtain ⟨v', v2, e, r', r2⟩ := pair2 t
    subst e
    exact ⟨_, v', v2, rfl, a, r', r2⟩
theorem i_range3 {f g h : Ev} {p : Pos} (hg : Gl X "range") (hm : X.mg "range" = none) (ha : PA X [a, b, c] (tDA X.K Wx (evA [f, g, h])))
    (hs : starEach [a, b, c] X.env = (false, eval a X.env) :: starEach [b, c] X.env := by rfl) (hpl : (backTo pos (starEach [b, c] X.env)).any (·.1) = false := by rfl) : PI X tg (.Call (.Name "range" p) [a, b, c] [] pos) (tDI X.K Wx (iRg3 f g h)) := (pi_range3 hg hm ha hs hpl).imp fun σ H Q q =>
  tG_one q fun bs R ρ e H ws vs m r q2 => by
    unfold kRng3 at q2
    split at q2
    · rename_i i j c
      obtain ⟨v, u, z, e1, rv, ru, rz⟩ := pair3 r
      subst e1
      have rv : Rep X.K R (.int i) v := rv
      have ru : Rep X.K R (.int j) u := ru
      have rz : Rep X.K R (.int c) z := rz
      cases rv
      cases ru
      cases rz
      split at q2
      · rename_i hj
        exact ⟨i, j, c, _, rfl, hj, q2.fin m ItOk.rangeC⟩
      · exact q2.elim
    · exact q2.elim
end
end Dl
end
section
set_option Elab.async false
set_option linter.all false
set_option maxRecDepth 100000
set_option maxHeartbeats 4000000
namespace Dl
open PySem L2
/-! evaluating by simp: each construct at a state, its parts one after another, nothing under a binder -/
section
variable {α γ : Type}
/-- constants that simp leaves alone until their first argument is known -/
def varK (o : Option W) (e : Env) : Rs W := match o with | some w => .ok w e | none => .fail
def b2a (r : Rs W) (f2 : Ev) (k : W → W → Env → Rs γ) : Rs γ := r.bind fun w1 e1 => if wl e1 w1 = true then (f2 e1).bind (k w1) else .fail
def b2b (l : Bool) (w1 : W) (r : Rs W) (k : W → W → Env → Rs γ) : Rs γ := if l = true then r.bind (k w1) else .fail
def okB (o : Option Bool) (e : Env) : Rs Bool := match o with | some k => .ok k e | none => .fail
def cbK (r : Rs (List W)) (k : List W → Ev) : Rs W := r.bind k
def eaK (r : Rs W) (fs : List Ev) : Rs (List W) := r.bind fun w e1 => if wl e1 w = true then (evA fs e1).bind fun ws e2 => .ok (w :: ws) e2 else .fail
def ebK (l : Bool) (w : W) (r : Rs (List W)) : Rs (List W) := if l = true then r.bind fun ws e2 => .ok (w :: ws) e2 else .fail
def andK (r : Rs Bool) (g : Env → Rs Bool) : Rs Bool := r.bind fun k e1 => if k = true then g e1 else .ok false e1
def orK (r : Rs Bool) (g : Env → Rs Bool) : Rs Bool := r.bind fun k e1 => if k = true then .ok true e1 else g e1
def notK (r : Rs Bool) : Rs Bool := r.bind fun k e1 => .ok (!k) e1
def truK (r : Rs W) : Rs Bool := r.bind kTru
def eNotK (r : Rs W) : Rs W := r.bind fun w e1 => match w with | .d (.bl k) => .ok (.d (.bl (!k))) e1 | _ => .fail
def eNegK (r : Rs W) : Rs W := r.bind fun w e1 => match w with | .d (.int i) => .ok (.d (.int (-i))) e1 | _ => .fail
def eAndK (r : Rs W) (g : Ev) : Rs W := r.bind fun w e1 => match w with | .d (.bl k) => if k = true then g e1 else .ok (.d (.bl false)) e1 | _ => .fail
def eOrK (r : Rs W) (g : Ev) : Rs W := r.bind fun w e1 => match w with | .d (.bl k) => if k = true then .ok (.d (.bl true)) e1 else g e1 | _ => .fail
def eIfK (r : Rs Bool) (f g : Ev) : Rs W := r.bind fun k e1 => if k = true then f e1 else g e1
def isiK (T : String) (r : Rs W) : Rs W := r.bind fun w e1 => match w with | .d x => okO (isiD T x) e1 | _ => .fail
def fldK (C : Addr) (f : Str) (r : Rs W) : Rs W := r.bind fun w e1 => okW (fldO C f w e1) e1
def ch1K (l : Bool) (w2 : W) (r : Rs Bool) (g' : D → D → Option Bool) (f3 : Ev) : Rs Bool := r.bind fun k e1 => if k = true then (if wl e1 w2 = true then (f3 e1).bind (kB2 g' w2) else .fail) else .ok false e1
def meK (ty : Env → W → Bool) (k : W → List W → Ev) (r : Rs W) (fs : List Ev) : Rs W := r.bind fun w e1 => if (ty e1 w && wl e1 w) = true then (evA fs e1).bind (k w) else .fail
def meK2 (l : Bool) (k : W → List W → Ev) (w : W) (r : Rs (List W)) : Rs W := if l = true then r.bind (k w) else .fail
def slK (r : Rs W) (lo hi : Env → Rs (Option Int)) : Rs W := r.bind fun w e1 => if wl e1 w = true then (lo e1).bind fun l e2 => if wl e2 w = true then (hi e2).bind fun h e3 => kSl w l h e3 else .fail else .fail
def slK2 (b : Bool) (w : W) (r : Rs (Option Int)) (hi : Env → Rs (Option Int)) : Rs W := if b = true then r.bind fun l e2 => if wl e2 w = true then (hi e2).bind fun h e3 => kSl w l h e3 else .fail else .fail
def slK3 (b : Bool) (w : W) (l : Option Int) (r : Rs (Option Int)) : Rs W := if b = true then r.bind fun h e3 => kSl w l h e3 else .fail
def osK (r : Rs W) : Rs (Option Int) := r.bind fun w e1 => match w with | .d (.int i) => .ok (some i) e1 | _ => .fail
def itK (r : Rs W) (k : W → Env → Rs Itr) : Rs Itr := r.bind k
def irK (r : Rs (List W)) (k : List W → Env → Rs Itr) : Rs Itr := r.bind k
def callK (r : Rs (List W)) (P : Nat) (F : Fd) (L Ln : List Nat) (dvs : List D) : Rs W := r.bind fun ws e1 => if (ws ++ dvs.map W.d).length = P then runF F L Ln (ws ++ dvs.map W.d) e1 else .fail
def mcK (r : Rs W) (C : Addr) (mn : Str) (P : Nat) (F : Fd) (L Ln : List Nat) (dvs : List D) (fs : List Ev) : Rs W := r.bind fun w e1 => if (insD C mn e1 w && wl e1 w) = true then
  (evA fs e1).bind fun ws e2 => (if (w :: (ws ++ dvs.map W.d)).length = P then runF F L Ln (w :: (ws ++ dvs.map W.d)) e2 else .fail) else .fail
def mcK2 (l : Bool) (w : W) (r : Rs (List W)) (P : Nat) (F : Fd) (L Ln : List Nat) (dvs : List D) : Rs W := if l = true then
  r.bind fun ws e2 => (if (w :: (ws ++ dvs.map W.d)).length = P then runF F L Ln (w :: (ws ++ dvs.map W.d)) e2 else .fail) else .fail
def mkK (r : Rs (List W)) (C : Addr) (P : Nat) (F : Fd) (k : Nat) (L Ln : List Nat) (keep : Bool) (dvs : List D) : Rs W := r.bind fun ws e1 =>
  if (e1.open k && ws.all fun w => !isLoc k w) = true then
    (if (W.loc k :: (ws ++ dvs.map W.d)).length = P then
      (runF F (k :: L) Ln (W.loc k :: (ws ++ dvs.map W.d)) (e1.setC k (some (.obj C [])))).bind fun w e3 => (match w with | .d .non => endO keep k e3 | _ => .fail)
    else .fail)
  else .fail
def mkK2 (l : Bool) (r : Rs W) (keep : Bool) (k : Nat) : Rs W := if l = true then r.bind fun w e3 => (match w with | .d .non => endO keep k e3 | _ => .fail) else .fail
def rf1 (c : Bool) (ws' : Option (List W)) (cs0 : Option (List Cell)) (F : Fd) (L Ln : List Nat) (e : Env) : Rs W := if c = true then
    (match ws', cs0 with
      | some ws', some cs0 => (match mapCs (renW L) cs0 with
        | some cs => (match F ws' cs with
          | .ok w cs2 => (match mapCs (backW (L ++ Ln)) cs2, backW (L ++ Ln) w with
            | some cs3, some w3 => if cs2.length = (L ++ Ln).length then .ok w3 { e with M := upds e.M (L ++ Ln) cs3 } else .fail
            | _, _ => .fail)
          | .exn x cs2 => (match mapCs (backW L) cs2 with
            | some cs3 => if cs2.length = L.length then .exn x { e with M := upds e.M L cs3 } else .fail
            | none => .fail)
          | .fail => .fail)
        | none => .fail)
      | _, _ => .fail)
  else .fail
def rf2 (cs : Option (List Cell)) (ws' : List W) (F : Fd) (L Ln : List Nat) (e : Env) : Rs W := match cs with
        | some cs => (match F ws' cs with
          | .ok w cs2 => (match mapCs (backW (L ++ Ln)) cs2, backW (L ++ Ln) w with
            | some cs3, some w3 => if cs2.length = (L ++ Ln).length then .ok w3 { e with M := upds e.M (L ++ Ln) cs3 } else .fail
            | _, _ => .fail)
          | .exn x cs2 => (match mapCs (backW L) cs2 with
            | some cs3 => if cs2.length = L.length then .exn x { e with M := upds e.M L cs3 } else .fail
            | none => .fail)
          | .fail => .fail)
        | none => .fail
def rf3 (r : CR) (L Ln : List Nat) (e : Env) : Rs W := match r with
          | .ok w cs2 => (match mapCs (backW (L ++ Ln)) cs2, backW (L ++ Ln) w with
            | some cs3, some w3 => if cs2.length = (L ++ Ln).length then .ok w3 { e with M := upds e.M (L ++ Ln) cs3 } else .fail
            | _, _ => .fail)
          | .exn x cs2 => (match mapCs (backW L) cs2 with
            | some cs3 => if cs2.length = L.length then .exn x { e with M := upds e.M L cs3 } else .fail
            | none => .fail)
          | .fail => .fail
def rf4 (cs3 : Option (List Cell)) (w3 : Option W) (l : Bool) (L2 : List Nat) (e : Env) : Rs W := match cs3, w3 with
            | some cs3, some w3 => if l = true then .ok w3 { e with M := upds e.M L2 cs3 } else .fail
            | _, _ => .fail
def rf5 (cs3 : Option (List Cell)) (x : Xn) (l : Bool) (L2 : List Nat) (e : Env) : Rs W := match cs3 with
            | some cs3 => if l = true then .exn x { e with M := upds e.M L2 cs3 } else .fail
            | none => .fail
/-! statements -/
def sqK (r : SR) (g : Sv) : SR := r.seq g
def ifK (r : Rs Bool) (f g : Sv) : SR := r.to fun k e1 => if k = true then f e1 else g e1
def setK (i : Nat) (r : Rs W) : SR := r.to fun w e' => .nx (e'.setS i (some w))
def retK (r : Rs W) : SR := r.to fun w e' => .rt w e'
def expK (r : Rs W) : SR := r.to fun _ e' => .nx e'
noncomputable def forK (r : Rs Itr) (g : Tg) (fg : List Nat) (body : Sv) : SR := r.to fun a e1 => forD g a.chk body fg a.items e1
def asgK (g : Tg) (r : Rs W) : SR := r.to fun w e1 => match w with | .d d => (match g d e1 with | some e2 => .nx e2 | none => .fail) | _ => .fail
def nxO (o : Option Env) : SR := match o with | some e2 => .nx e2 | none => .fail
def siK (fo fi : Ev) (r : Rs W) : SR := r.to fun w e1 => if wl e1 w = true then (fo e1).to fun o e2 => if (wl e2 w && wl e2 o) = true then (fi e2).to fun i e3 => kSetI w o i e3 else .fail else .fail
def siK2 (l : Bool) (w : W) (r : Rs W) (fi : Ev) : SR := if l = true then r.to fun o e2 => if (wl e2 w && wl e2 o) = true then (fi e2).to fun i e3 => kSetI w o i e3 else .fail else .fail
def siK3 (l : Bool) (w o : W) (r : Rs W) : SR := if l = true then r.to fun i e3 => kSetI w o i e3 else .fail
def nxC (n : Nat) (o : Option Cell) (e : Env) : SR := match o with | some c' => .nx (e.setC n (some c')) | none => .fail
def siK4 (o : Option Cell) (n : Nat) (k : Int) (w : W) (e : Env) : SR := match o with
    | some c => match setC c k w with
      | some c' => .nx (e.setC n (some c'))
      | none => .fail
    | none => .fail
def sfK (C : Addr) (f : Str) (fo : Ev) (r : Rs W) : SR := r.to fun w e1 => if wl e1 w = true then (fo e1).to fun o e2 => kSetF C f w o e2 else .fail
def sfK2 (C : Addr) (f : Str) (l : Bool) (w : W) (r : Rs W) : SR := if l = true then r.to fun o e2 => kSetF C f w o e2 else .fail
def agK (i : Nat) (g : D → D → Option D) (o : Option W) (r : Rs W) : SR := match o with
  | some (.d x) => r.to fun w e1 => match w with
    | .d y => match g x y with
      | some z => .nx (e1.setS i (some (.d z)))
      | none => .fail
    | _ => .fail
  | _ => .fail
def agK2 (i : Nat) (o : Option D) (e : Env) : SR := match o with
      | some z => .nx (e.setS i (some (.d z)))
      | none => .fail
def fzK (o : Option Env) (f : Sv) : SR := match o with | some e' => f e' | none => .fail
noncomputable def lcK (r : Rs Itr) (g : Tg) (t : Env → Rs Bool) (f : Ev) (k : Nat) (keep : Bool) (vs : List Nat) : Rs W := r.bind fun a e1 =>
  if e1.open k = true then (lcD g a.chk t f k vs a.items (e1.setC k (some (.lst [])))).bind fun _ e2 => endL keep k e2 else .fail
def lcK2 (l : Bool) (r : Rs Unit) (keep : Bool) (k : Nat) : Rs W := if l = true then r.bind fun _ e2 => endL keep k e2 else .fail
/-! the end of a def -/
def mfK (r : SR) (n x : Nat) : CR := match r with
  | .rt w e => match takeC (max n x) e.M with | some cs' => .ok w cs' | none => .fail
  | .nx e => match takeC (max n x) e.M with | some cs' => .ok (.d .non) cs' | none => .fail
  | .exn x e => match takeC n e.M with | some cs' => .exn x cs' | none => .fail
  | _ => .fail
def okC (o : Option (List Cell)) (w : W) : CR := match o with | some cs' => .ok w cs' | none => .fail
def exC (o : Option (List Cell)) (x : Xn) : CR := match o with | some cs' => .exn x cs' | none => .fail
end
section
variable {α γ : Type} {e : Env} {f g f1 f2 f3 : Ev} {fs : List Ev} {w w1 w2 : W} {ws : List W} {x y : D} {n i k : Nat}
@[simp] theorem slot_mk {ws M np} : Env.slot ⟨ws, M, np⟩ i = (ws[i]?).join := rfl
@[simp] theorem cell_mk {ws M np} : Env.cell ⟨ws, M, np⟩ i = (M[i]?).join := rfl
@[simp] theorem setS_mk {ws M np o} : Env.setS ⟨ws, M, np⟩ i o = ⟨ws.set i o, M, np⟩ := rfl
@[simp] theorem setC_mk {ws M np o} : Env.setC ⟨ws, M, np⟩ i o = ⟨ws, M.set i o, np⟩ := rfl
@[simp] theorem clr_mk {ws M np vs} : Env.clr ⟨ws, M, np⟩ vs = ⟨clrL ws vs, M, np⟩ := rfl
@[simp] theorem clrL_nil {ws} : clrL ws [] = ws := rfl
@[simp] theorem clrL_cons {ws v vs} : clrL ws (v :: vs) = (clrL ws vs).set v none := rfl
@[simp] theorem open_mk {ws M np} : Env.open ⟨ws, M, np⟩ k = (decide (np ≤ k) && (match M[k]? with | some none => true | _ => false) && Env.noRef ⟨ws, M, np⟩ k) := rfl
@[simp] theorem noRef_mk {ws M np} : Env.noRef ⟨ws, M, np⟩ k = ((ws.all fun o => match o with | some w => !isLoc k w | none => true) && (M.all fun o => match o with | some c => !c.refs k | none => true)) := rfl
@[simp] theorem isLoc_d : isLoc n (.d x) = false := rfl
@[simp] theorem isLoc_loc {m} : isLoc n (.loc m) = (m == n) := rfl
@[simp] theorem refs_lst {xs} : Cell.refs n (.lst xs) = false := rfl
@[simp] theorem refs_dic {xs} : Cell.refs n (.dic xs) = false := rfl
@[simp] theorem refs_dct {xs} : Cell.refs n (.dct xs) = false := rfl
@[simp] theorem refs_obj {C fs} : Cell.refs n (.obj C fs) = fs.any fun f => isLoc n f.2 := rfl
@[simp] theorem refs_lw {us} : Cell.refs n (.lw us) = us.any (isLoc n) := rfl
@[simp] theorem eVar_ev : eVar i e = varK (e.slot i) e := rfl
@[simp] theorem varK_some : varK (some w) e = .ok w e := rfl
@[simp] theorem eC_ev : eC x e = .ok (.d x) e := rfl
@[simp] theorem bin2_ev {k : W → W → Env → Rs γ} : bin2 f1 f2 k e = b2a (f1 e) f2 k := rfl
@[simp] theorem b2a_ok {k : W → W → Env → Rs γ} : b2a (.ok w e) f2 k = b2b (wl e w) w (f2 e) k := rfl
@[simp] theorem b2b_ok {k : W → W → Env → Rs γ} : b2b true w1 (.ok w2 e) k = k w1 w2 e := rfl
@[simp] theorem wl_d : wl e (.d x) = true := rfl
@[simp] theorem wl_loc : wl e (.loc n) = (e.cell n).isSome := rfl
@[simp] theorem eOp_ev {g : D → D → Option D} : eOp g f1 f2 e = b2a (f1 e) f2 (kD2 g) := rfl
@[simp] theorem kD2_ev {g : D → D → Option D} : kD2 g (.d x) (.d y) e = okO (g x y) e := rfl
@[simp] theorem okO_some : okO (some x) e = .ok (.d x) e := rfl
@[simp] theorem okW_some : okW (some w) e = .ok w e := rfl
@[simp] theorem bOp_ev {g : D → D → Option Bool} : bOp g f1 f2 e = b2a (f1 e) f2 (kB2 g) := rfl
@[simp] theorem kB2_ev {g : D → D → Option Bool} : kB2 g (.d x) (.d y) e = okB (g x y) e := rfl
@[simp] theorem okB_some {k : Bool} : okB (some k) e = .ok k e := rfl
@[simp] theorem bChain_ev {g g' : D → D → Option Bool} : bChain g g' f1 f2 f3 e = b2a (f1 e) f2 (fun w1 w2 e => (kB2 g w1 w2 e).bind fun k e1 => if k = true then (if wl e1 w2 = true then (f3 e1).bind (kB2 g' w2) else .fail) else .ok false e1) := rfl
@[simp] theorem bAnd_ev {f g : Env → Rs Bool} : bAnd f g e = andK (f e) g := rfl
@[simp] theorem bOr_ev {f g : Env → Rs Bool} : bOr f g e = orK (f e) g := rfl
@[simp] theorem andK_ok {g : Env → Rs Bool} {k : Bool} : andK (.ok k e) g = if k = true then g e else .ok false e := rfl
@[simp] theorem orK_ok {g : Env → Rs Bool} {k : Bool} : orK (.ok k e) g = if k = true then .ok true e else g e := rfl
@[simp] theorem bNot_ev {f : Env → Rs Bool} : bNot f e = notK (f e) := rfl
@[simp] theorem notK_ok {k : Bool} : notK (.ok k e) = .ok (!k) e := rfl
@[simp] theorem bTru_ev : bTru f e = truK (f e) := rfl
@[simp] theorem truK_ok : truK (.ok w e) = kTru w e := rfl
@[simp] theorem kTru_d : kTru (.d x) e = okB (truD x) e := rfl
@[simp] theorem eNot_ev : eNot f e = eNotK (f e) := rfl
@[simp] theorem eNotK_ok {k : Bool} : eNotK (.ok (.d (.bl k)) e) = .ok (.d (.bl (!k))) e := rfl
@[simp] theorem eNeg_ev : eNeg f e = eNegK (f e) := rfl
@[simp] theorem eNegK_ok {k : Int} : eNegK (.ok (.d (.int k)) e) = .ok (.d (.int (-k))) e := rfl
@[simp] theorem eAnd_ev : eAnd f g e = eAndK (f e) g := rfl
@[simp] theorem eAndK_ok {k : Bool} : eAndK (.ok (.d (.bl k)) e) g = if k = true then g e else .ok (.d (.bl false)) e := rfl
@[simp] theorem eOr_ev : eOr f g e = eOrK (f e) g := rfl
@[simp] theorem eOrK_ok {k : Bool} : eOrK (.ok (.d (.bl k)) e) g = if k = true then .ok (.d (.bl true)) e else g e := rfl
@[simp] theorem eIf_ev {t : Env → Rs Bool} : eIf t f g e = eIfK (t e) f g := rfl
@[simp] theorem eIfK_ok {k : Bool} : eIfK (.ok k e) f g = if k = true then f e else g e := rfl
@[simp] theorem eIsi_ev {T : String} : eIsi T f e = isiK T (f e) := rfl
@[simp] theorem isiK_ok {T : String} : isiK T (.ok (.d x) e) = okO (isiD T x) e := rfl
@[simp] theorem eFld_ev {C : Addr} {s : Str} : eFld C s f e = fldK C s (f e) := rfl
@[simp] theorem fldK_ok {C : Addr} {s : Str} : fldK C s (.ok w e) = okW (fldO C s w e) e := rfl
@[simp] theorem eIx_ev : eIx f1 f2 e = b2a (f1 e) f2 kIx := rfl
@[simp] theorem kIx_d {i : Int} : kIx (.d x) (.d (.int i)) e = okO (ixDD x i) e := rfl
@[simp] theorem kIx_loc {i : Int} : kIx (.loc n) (.d (.int i)) e = (match e.cell n with | some c => okW (ixC c i) e | none => .fail) := rfl
@[simp] theorem ixC_lst {xs : List D} {i : Int} : ixC (.lst xs) i = (atI xs i).map W.d := by show (match atI xs i with | some d => some (W.d d) | none => none) = _; cases atI xs i <;> rfl
@[simp] theorem evA_nil : evA [] e = .ok [] e := rfl
@[simp] theorem evA_cons : evA (f :: fs) e = eaK (f e) fs := rfl
@[simp] theorem eaK_ok : eaK (.ok w e) fs = ebK (wl e w) w (evA fs e) := rfl
@[simp] theorem ebK_ok : ebK true w (.ok ws e) = .ok (w :: ws) e := rfl
@[simp] theorem eCB_ev {k : List W → Ev} : eCB k fs e = cbK (evA fs e) k := rfl
@[simp] theorem cbK_ok {k : List W → Ev} : cbK (.ok ws e) k = k ws e := rfl
@[simp] theorem k1_ev {g : D → Option D} : k1 g [.d x] e = okO (g x) e := rfl
@[simp] theorem k2_ev {g : D → D → Option D} : k2 g [.d x, .d y] e = okO (g x y) e := rfl
@[simp] theorem kLen_d : kLen [.d x] e = okO (lenD x) e := rfl
@[simp] theorem kLen_loc : kLen [.loc n] e = (match e.cell n with | some c => okO (lenC c) e | none => .fail) := rfl
@[simp] theorem eM_ev {ty : Env → W → Bool} {k : W → List W → Ev} : eM ty k f fs e = meK ty k (f e) fs := rfl
@[simp] theorem meK_ok {ty : Env → W → Bool} {k : W → List W → Ev} : meK ty k (.ok w e) fs = meK2 (ty e w && wl e w) k w (evA fs e) := rfl
@[simp] theorem meK2_ok {k : W → List W → Ev} : meK2 true k w (.ok ws e) = k w ws e := rfl
@[simp] theorem eSl_ev {lo hi : Env → Rs (Option Int)} : eSl f lo hi e = slK (f e) lo hi := rfl
@[simp] theorem slK_ok {lo hi : Env → Rs (Option Int)} : slK (.ok w e) lo hi = slK2 (wl e w) w (lo e) hi := rfl
@[simp] theorem slK2_ok {hi : Env → Rs (Option Int)} {l : Option Int} : slK2 true w (.ok l e) hi = slK3 (wl e w) w l (hi e) := rfl
@[simp] theorem slK3_ok {l h : Option Int} : slK3 true w l (.ok h e) = kSl w l h e := rfl
@[simp] theorem oNone_ev : oNone e = .ok none e := rfl
@[simp] theorem oSome_ev : oSome f e = osK (f e) := rfl
@[simp] theorem osK_ok {i : Int} : osK (.ok (.d (.int i)) e) = .ok (some i) e := rfl
@[simp] theorem kSl_d {lo hi : Option Int} : kSl (.d x) lo hi e = okO (slD x lo hi) e := rfl
@[simp] theorem iL_ev : iL f e = itK (f e) kItL := rfl
@[simp] theorem iT_ev : iT f e = itK (f e) kItT := rfl
@[simp] theorem iS_ev : iS f e = itK (f e) kItS := rfl
@[simp] theorem itK_ok {k : W → Env → Rs Itr} : itK (.ok w e) k = k w e := rfl
@[simp] theorem irK_ok {k : List W → Env → Rs Itr} : irK (.ok ws e) k = k ws e := rfl
@[simp] theorem iRg1_ev : iRg1 f e = irK (evA [f] e) kRng1 := rfl
@[simp] theorem iRg2_ev : iRg2 f g e = irK (evA [f, g] e) kRng2 := rfl
@[simp] theorem iRg3_ev : iRg3 f g f3 e = irK (evA [f, g, f3] e) kRng3 := rfl
@[simp] theorem iEnu_ev : iEnu f e = irK (evA [f] e) kEnum := rfl
@[simp] theorem iZp_ev : iZp f g e = irK (evA [f, g] e) kZip := rfl
@[simp] theorem iRv_ev : iRv f e = irK (evA [f] e) kRev := rfl
@[simp] theorem eCall_ev {P F L Ln dvs} : eCall P F L Ln dvs fs e = callK (evA fs e) P F L Ln dvs := rfl
@[simp] theorem callK_ok {P F L Ln dvs} : callK (.ok ws e) P F L Ln dvs = if (ws ++ dvs.map W.d).length = P then runF F L Ln (ws ++ dvs.map W.d) e else .fail := rfl
@[simp] theorem eMeth_ev {C mn P F L Ln dvs} : eMeth C mn P F L Ln dvs g fs e = mcK (g e) C mn P F L Ln dvs fs := rfl
@[simp] theorem mcK_ok {C mn P F L Ln dvs} : mcK (.ok w e) C mn P F L Ln dvs fs = mcK2 (insD C mn e w && wl e w) w (evA fs e) P F L Ln dvs := rfl
@[simp] theorem mcK2_ok {P F L Ln dvs} : mcK2 true w (.ok ws e) P F L Ln dvs = if (w :: (ws ++ dvs.map W.d)).length = P then runF F L Ln (w :: (ws ++ dvs.map W.d)) e else .fail := rfl
@[simp] theorem eMake_ev {C P F L Ln keep dvs} : eMake C P F k L Ln keep dvs fs e = mkK (evA fs e) C P F k L Ln keep dvs := rfl
@[simp] theorem mkK_ok {C P F L Ln keep dvs} : mkK (.ok ws e) C P F k L Ln keep dvs = if (W.loc k :: (ws ++ dvs.map W.d)).length = P then mkK2 (e.open k && ws.all fun w => !isLoc k w) (runF F (k :: L) Ln (W.loc k :: (ws ++ dvs.map W.d)) (e.setC k (some (.obj C [])))) keep k else .fail := by
  unfold mkK mkK2
  simp only [Rs.bind]
  split <;> split <;> rfl
@[simp] theorem mkK2_ok {keep : Bool} : mkK2 true (.ok (.d .non) e) keep k = endO keep k e := rfl
@[simp] theorem runF_ev {F L Ln} : runF F L Ln ws e = rf1 (nodup (L ++ Ln) && Ln.all e.open) (mapW (renW L) ws) (cellsOf e L) F L Ln e := rfl
@[simp] theorem rf1_ok {F L Ln cs0} : rf1 true (some ws) (some cs0) F L Ln e = rf2 (mapCs (renW L) cs0) ws F L Ln e := rfl
@[simp] theorem rf2_ok {F L Ln cs} : rf2 (some cs) ws F L Ln e = rf3 (F ws cs) L Ln e := rfl
@[simp] theorem rf3_ok {L Ln cs2} : rf3 (.ok w cs2) L Ln e = rf4 (mapCs (backW (L ++ Ln)) cs2) (backW (L ++ Ln) w) (decide (cs2.length = (L ++ Ln).length)) (L ++ Ln) e := by
  show (match mapCs (backW (L ++ Ln)) cs2, backW (L ++ Ln) w with
            | some cs3, some w3 => if cs2.length = (L ++ Ln).length then Rs.ok w3 { e with M := upds e.M (L ++ Ln) cs3 } else .fail
            | _, _ => .fail) = _
  cases mapCs (backW (L ++ Ln)) cs2 <;> cases backW (L ++ Ln) w <;> simp [rf4]
@[simp] theorem rf3_exn {L Ln cs2} {x : Xn} : rf3 (.exn x cs2) L Ln e = rf5 (mapCs (backW L) cs2) x (decide (cs2.length = L.length)) L e := by
  show (match mapCs (backW L) cs2 with
            | some cs3 => if cs2.length = L.length then Rs.exn x { e with M := upds e.M L cs3 } else .fail
            | none => .fail) = _
  cases mapCs (backW L) cs2 <;> simp [rf5]
@[simp] theorem rf4_ok {L2 cs3} : rf4 (some cs3) (some w) true L2 e = .ok w { e with M := upds e.M L2 cs3 } := rfl
@[simp] theorem rf5_ok {L2 cs3} {x : Xn} : rf5 (some cs3) x true L2 e = .exn x { e with M := upds e.M L2 cs3 } := rfl
@[simp] theorem upds_nil {M cs} : upds M [] cs = M := rfl
@[simp] theorem upds_cons {M n ns c cs} : upds M (n :: ns) (c :: cs) = (upds M ns cs).set n (some c) := rfl
@[simp] theorem nodup_nil : nodup [] = true := rfl
@[simp] theorem nodup_cons {ns} : nodup (n :: ns) = (!ns.contains n && nodup ns) := rfl
@[simp] theorem cellsOf_nil : cellsOf e [] = some [] := rfl
@[simp] theorem cellsOf_cons {ns} : cellsOf e (n :: ns) = (match e.cell n, cellsOf e ns with | some c, some cs => some (c :: cs) | _, _ => none) := rfl
@[simp] theorem mapW_nil {g : W → Option W} : mapW g [] = some [] := rfl
@[simp] theorem mapW_cons {g : W → Option W} : mapW g (w :: ws) = (match g w, mapW g ws with | some w', some ws' => some (w' :: ws') | _, _ => none) := rfl
@[simp] theorem mapCs_nil {g : W → Option W} : mapCs g [] = some [] := rfl
@[simp] theorem mapCs_cons {g : W → Option W} {c cs} : mapCs g (c :: cs) = (match mapCell g c, mapCs g cs with | some c', some cs' => some (c' :: cs') | _, _ => none) := rfl
@[simp] theorem mapCell_lst {g : W → Option W} {xs} : mapCell g (.lst xs) = some (.lst xs) := rfl
@[simp] theorem mapCell_dic {g : W → Option W} {xs} : mapCell g (.dic xs) = some (.dic xs) := rfl
@[simp] theorem mapCell_dct {g : W → Option W} {xs} : mapCell g (.dct xs) = some (.dct xs) := rfl
@[simp] theorem mapCell_obj {g : W → Option W} {C fs} : mapCell g (.obj C fs) = (match mapF g fs with | some fs' => some (.obj C fs') | none => none) := rfl
@[simp] theorem mapF_nil {g : W → Option W} : mapF g [] = some [] := rfl
@[simp] theorem mapF_cons {g : W → Option W} {nm : Str} {r} : mapF g ((nm, w) :: r) = (match g w, mapF g r with | some w', some ws' => some ((nm, w') :: ws') | _, _ => none) := rfl
@[simp] theorem renW_d {L} : renW L (.d x) = some (.d x) := rfl
@[simp] theorem renW_loc {L} : renW L (.loc n) = if n ∈ L then some (.loc (L.idxOf n)) else none := rfl
@[simp] theorem backW_d {L} : backW L (.d x) = some (.d x) := rfl
@[simp] theorem backW_loc {L} : backW L (.loc n) = (match L[n]? with | some n => some (.loc n) | none => none) := rfl
@[simp] theorem sSeq_ev {f g : Sv} : sSeq f g e = sqK (f e) g := rfl
@[simp] theorem sqK_nx {g : Sv} : sqK (.nx e) g = g e := rfl
@[simp] theorem sqK_rt {g : Sv} : sqK (.rt w e) g = .rt w e := rfl
@[simp] theorem sqK_bk {g : Sv} : sqK (.bk e) g = .bk e := rfl
@[simp] theorem sqK_ct {g : Sv} : sqK (.ct e) g = .ct e := rfl
@[simp] theorem sqK_exn {g : Sv} {x : Xn} : sqK (.exn x e) g = .exn x e := rfl
@[simp] theorem sNil_ev : sNil e = .nx e := rfl
@[simp] theorem sIf_ev {t : Env → Rs Bool} {f g : Sv} : sIf t f g e = ifK (t e) f g := rfl
@[simp] theorem ifK_ok {k : Bool} {f g : Sv} : ifK (.ok k e) f g = if k = true then f e else g e := rfl
@[simp] theorem sSet_ev : sSet i f e = setK i (f e) := rfl
@[simp] theorem setK_ok : setK i (.ok w e) = .nx (e.setS i (some w)) := rfl
@[simp] theorem sRet_ev : sRet f e = retK (f e) := rfl
@[simp] theorem retK_ok : retK (.ok w e) = .rt w e := rfl
@[simp] theorem sExpr_ev : sExpr f e = expK (f e) := rfl
@[simp] theorem expK_ok : expK (.ok w e) = .nx e := rfl
@[simp] theorem sFor_ev {it : Env → Rs Itr} {g : Tg} {fg : List Nat} {body : Sv} : sFor it g fg body e = forK (it e) g fg body := rfl
@[simp] theorem forK_ok {a : Itr} {g : Tg} {fg : List Nat} {body : Sv} : forK (.ok a e) g fg body = forD g a.chk body fg a.items e := rfl
@[simp] theorem sWhile_ev {fuel : Env → Nat} {t : Env → Rs Bool} {fg : List Nat} {body : Sv} : sWhile fuel t fg body e = whD t body fg (fuel e) e := rfl
@[simp] theorem sAsg_ev {g : Tg} : sAsg g f e = asgK g (f e) := rfl
@[simp] theorem asgK_ok {g : Tg} : asgK g (.ok (.d x) e) = nxO (g x e) := rfl
@[simp] theorem nxO_some : nxO (some e) = .nx e := rfl
@[simp] theorem tgName_ev : tgName i x e = some (e.setS i (some (.d x))) := rfl
@[simp] theorem tgTup_ev {gs : List Tg} {ds : List D} : tgTup gs (.tup ds) e = tgL gs ds e := rfl
@[simp] theorem tgL_nil : tgL [] [] e = some e := rfl
@[simp] theorem tgL_cons {g : Tg} {gs : List Tg} {ds : List D} : tgL (g :: gs) (x :: ds) e = (match g x e with | some e1 => tgL gs ds e1 | none => none) := rfl
@[simp] theorem sSetI_ev {fo fi fv : Ev} : sSetI fo fi fv e = siK fo fi (fv e) := rfl
@[simp] theorem siK_ok {fo fi : Ev} : siK fo fi (.ok w e) = siK2 (wl e w) w (fo e) fi := rfl
@[simp] theorem siK2_ok {fi : Ev} : siK2 true w1 (.ok w2 e) fi = siK3 (wl e w1 && wl e w2) w1 w2 (fi e) := rfl
@[simp] theorem siK3_ok {o i : W} : siK3 true w o (.ok i e) = kSetI w o i e := rfl
@[simp] theorem kSetI_ev {k : Int} : kSetI w (.loc n) (.d (.int k)) e = siK4 (e.cell n) n k w e := rfl
@[simp] theorem siK4_ok {c : Cell} {k : Int} : siK4 (some c) n k w e = nxC n (setC c k w) e := rfl
@[simp] theorem nxC_some {c : Cell} : nxC n (some c) e = .nx (e.setC n (some c)) := rfl
@[simp] theorem setC_lst {xs : List D} {k : Int} : setC (.lst xs) k (.d y) = (ixN xs.length k).map fun j => Cell.lst (xs.set j y) := by show (match ixN xs.length k with | some j => some (Cell.lst (xs.set j y)) | none => none) = _; cases ixN xs.length k <;> rfl
@[simp] theorem sSetF_ev {C : Addr} {s : Str} {fo fv : Ev} : sSetF C s fo fv e = sfK C s fo (fv e) := rfl
@[simp] theorem sfK_ok {C : Addr} {s : Str} {fo : Ev} : sfK C s fo (.ok w e) = sfK2 C s (wl e w) w (fo e) := rfl
@[simp] theorem sfK2_ok {C : Addr} {s : Str} : sfK2 C s true w1 (.ok w2 e) = kSetF C s w1 w2 e := rfl
@[simp] theorem sAug_ev {g : D → D → Option D} : sAug i g f e = agK i g (e.slot i) (f e) := rfl
@[simp] theorem agK_ok {g : D → D → Option D} : agK i g (some (.d x)) (.ok (.d y) e) = agK2 i (g x y) e := rfl
@[simp] theorem agK2_ok : agK2 i (some x) e = .nx (e.setS i (some (.d x))) := rfl
@[simp] theorem sFrz_ev {f : Sv} : sFrz k f e = fzK (frz k e) f := rfl
@[simp] theorem fzK_ok {f : Sv} : fzK (some e) f = f e := rfl
@[simp] theorem eLc_ev {it : Env → Rs Itr} {g : Tg} {t : Env → Rs Bool} {f : Ev} {keep : Bool} {vs : List Nat} : eLc it g t f k keep vs e = lcK (it e) g t f k keep vs := rfl
@[simp] theorem lcK_ok {a : Itr} {g : Tg} {t : Env → Rs Bool} {f : Ev} {keep : Bool} {vs : List Nat} : lcK (.ok a e) g t f k keep vs = lcK2 (e.open k) (lcD g a.chk t f k vs a.items (e.setC k (some (.lst [])))) keep k := rfl
@[simp] theorem lcK2_ok {keep : Bool} : lcK2 true (.ok () e) keep k = endL keep k e := rfl
@[simp] theorem mkF_ev {N m r : Nat} {f : Sv} {cs} : mkF N m r f ws cs = mfK (f (env0 N m ws cs)) cs.length r := rfl
@[simp] theorem mfK_rt {n x : Nat} : mfK (.rt w e) n x = okC (takeC (max n x) e.M) w := rfl
@[simp] theorem mfK_nx {n x : Nat} : mfK (.nx e) n x = okC (takeC (max n x) e.M) (.d .non) := rfl
@[simp] theorem mfK_exn {n x : Nat} {z : Xn} : mfK (.exn z e) n x = exC (takeC n e.M) z := rfl
@[simp] theorem okC_some {cs} : okC (some cs) w = .ok w cs := rfl
@[simp] theorem exC_some {cs} {z : Xn} : exC (some cs) z = .exn z cs := rfl
@[simp] theorem takeC_zero {M} : takeC 0 M = some [] := rfl
@[simp] theorem takeC_succ {M c} : takeC (n + 1) (some c :: M) = (match takeC n M with | some cs => some (c :: cs) | none => none) := rfl
/-! data operations at known shapes -/
theorem atI_nat {l : List α} {n : Nat} : atI l (n : Int) = l[n]? := by
  unfold atI ixN
  by_cases h : n < l.length
  · simp [h]
  · simp [h]
@[simp] theorem atI_0 {a : α} {l : List α} : atI (a :: l) 0 = some a := atI_nat (n := 0)
@[simp] theorem atI_1 {a b : α} {l : List α} : atI (a :: b :: l) 1 = some b := atI_nat (n := 1)
@[simp] theorem atI_2 {a b c : α} {l : List α} : atI (a :: b :: c :: l) 2 = some c := atI_nat (n := 2)
@[simp] theorem atI_3 {a b c d : α} {l : List α} : atI (a :: b :: c :: d :: l) 3 = some d := atI_nat (n := 3)
@[simp] theorem atI_4 {a b c d f : α} {l : List α} : atI (a :: b :: c :: d :: f :: l) 4 = some f := atI_nat (n := 4)
theorem atI_pos {l : List α} {i : Int} (h0 : 0 ≤ i) : atI l i = l[i.toNat]? := by
  have := atI_nat (l := l) (n := i.toNat)
  rwa [Int.toNat_of_nonneg h0] at this
theorem atI_last {l : List α} : atI l (-1) = l[l.length - 1]? := by
  unfold atI ixN
  cases l with
  | nil => simp
  | cons a l =>
    simp
    rw [if_pos (by omega)]
    have e : (-1 + ((l.length : Int) + 1)).toNat = l.length := by omega
    rw [e]
    simp
@[simp] theorem addD_int {i j : Int} : addD (.int i) (.int j) = some (.int (i + j)) := rfl
@[simp] theorem addD_str {i j : Str} : addD (.str i) (.str j) = if i.length + j.length ≤ sizeLine then some (.str (i ++ j)) else none := rfl
@[simp] theorem addD_lst {i j : List D} : addD (.lst i) (.lst j) = if i.length + j.length ≤ sizeLine then some (.lst (i ++ j)) else none := rfl
@[simp] theorem addD_tup {i j : List D} : addD (.tup i) (.tup j) = if i.length + j.length ≤ sizeLine then some (.tup (i ++ j)) else none := rfl
@[simp] theorem subD_int {i j : Int} : subD (.int i) (.int j) = some (.int (i - j)) := rfl
@[simp] theorem addI_int {i j : Int} : addI (.int i) (.int j) = some (.int (i + j)) := rfl
@[simp] theorem mulD_int {i j : Int} : mulD (.int i) (.int j) = if CMul i j then some (.int (i * j)) else none := by
  show (match (if CMul i j then some (i * j) else none) with | some k => some (D.int k) | none => none) = _
  split <;> simp_all
@[simp] theorem mulD_lst {i : List D} {j : Int} : mulD (.lst i) (.int j) = if -(2 ^ 63) ≤ j ∧ j < 2 ^ 63 ∧ i.length * j.toNat ≤ sizeLine then some (.lst (List.replicate j.toNat i).flatten) else none := rfl
theorem intD_if {c : Int → Int → Prop} [∀ i j, Decidable (c i j)] {f : Int → Int → Int} {i j : Int} : intD (fun i j => if c i j then some (f i j) else none) (.int i) (.int j) = if c i j then some (.int (f i j)) else none := by
  show (match (if c i j then some (f i j) else none) with | some k => some (D.int k) | none => none) = _
  split <;> simp_all
@[simp] theorem fdivD_int {i j : Int} : fdivD (.int i) (.int j) = if CDivN i j then some (.int (i.fdiv j)) else none := intD_if
@[simp] theorem modD_int {i j : Int} : modD (.int i) (.int j) = if j ≠ 0 then some (.int (i.fmod j)) else none := intD_if (c := fun _ j => j ≠ 0)
@[simp] theorem powD_int {i j : Int} : powD (.int i) (.int j) = if CPow i j then some (.int (i ^ j.toNat)) else none := intD_if
@[simp] theorem shlD_int {i j : Int} : shlD (.int i) (.int j) = if CPow i j then some (.int (i * 2 ^ j.toNat)) else none := intD_if
@[simp] theorem shrD_int {i j : Int} : shrD (.int i) (.int j) = if 0 ≤ j then some (.int (i / 2 ^ j.toNat)) else none := intD_if (c := fun _ j => 0 ≤ j)
@[simp] theorem andD_int {i j : Int} : andD (.int i) (.int j) = some (.int (Builtin.bitAnd i j)) := rfl
@[simp] theorem maxD_int {i j : Int} : maxD (.int i) (.int j) = some (.int (if j > i then j else i)) := rfl
@[simp] theorem minD_int {i j : Int} : minD (.int i) (.int j) = some (.int (if j < i then j else i)) := rfl
@[simp] theorem cmpB_int {p : Int → Int → Bool} {i j : Int} : cmpB p (.int i) (.int j) = some (p i j) := rfl
@[simp] theorem ltB_int {i j : Int} : ltB (.int i) (.int j) = some (decide (i < j)) := rfl
@[simp] theorem ltB_str {i j : Str} : ltB (.str i) (.str j) = some (strLt i j) := rfl
@[simp] theorem eqB_int {i j : Int} : eqB (.int i) (.int j) = some (i == j) := rfl
@[simp] theorem eqB_bl {i j : Bool} : eqB (.bl i) (.bl j) = some (i == j) := rfl
@[simp] theorem eqB_str {i j : Str} : eqB (.str i) (.str j) = some (i == j) := rfl
@[simp] theorem neB_ev {x y : D} : neB x y = (eqB x y).map (!·) := by show (match eqB x y with | some b => some (!b) | none => none) = _; cases eqB x y <;> rfl
@[simp] theorem blG_ev {g : D → D → Option Bool} {x y : D} : blG g x y = (g x y).map D.bl := by show (match g x y with | some z => some (D.bl z) | none => none) = _; cases g x y <;> rfl
@[simp] theorem intOf_int {i : Int} : intOf (.int i) = some (.int i) := rfl
@[simp] theorem intOf_bl {i : Bool} : intOf (.bl i) = some (.int (if i then 1 else 0)) := rfl
@[simp] theorem lenD_lst {i : List D} : lenD (.lst i) = some (.int i.length) := rfl
@[simp] theorem lenD_rd {i : List D} : lenD (.rd i) = some (.int i.length) := rfl
@[simp] theorem lenD_tup {i : List D} : lenD (.tup i) = some (.int i.length) := rfl
@[simp] theorem lenD_str {i : Str} : lenD (.str i) = if i.length ≤ sizeLine then some (.int i.length) else none := rfl
@[simp] theorem lenC_lst {i : List D} : lenC (.lst i) = some (.int i.length) := rfl
@[simp] theorem lenC_lw {i : List W} : lenC (.lw i) = some (.int i.length) := rfl
@[simp] theorem ixDD_lst {l : List D} {i : Int} : ixDD (.lst l) i = atI l i := rfl
@[simp] theorem ixDD_rd {l : List D} {i : Int} : ixDD (.rd l) i = atI l i := rfl
@[simp] theorem ixDD_tup {l : List D} {i : Int} : ixDD (.tup l) i = atI l i := rfl
@[simp] theorem slD_lst {l : List D} {i j : Option Int} : slD (.lst l) i j = some (.lst (cutL l i j)) := rfl
@[simp] theorem slD_rd {l : List D} {i j : Option Int} : slD (.rd l) i j = some (.lst (cutL l i j)) := rfl
@[simp] theorem slD_tup {l : List D} {i j : Option Int} : slD (.tup l) i j = some (.tup (cutL l i j)) := rfl
@[simp] theorem isiD_int {T : String} {i : Int} : isiD T (.int i) = (kitB "int" T).map D.bl := by show (match kitB "int" T with | some k => some (D.bl k) | none => none) = _; cases kitB "int" T <;> rfl
@[simp] theorem isiD_bl {T : String} {i : Bool} : isiD T (.bl i) = (kitB "bool" T).map D.bl := by show (match kitB "bool" T with | some k => some (D.bl k) | none => none) = _; cases kitB "bool" T <;> rfl
@[simp] theorem isiD_str {T : String} {i : Str} : isiD T (.str i) = (kitB "str" T).map D.bl := by show (match kitB "str" T with | some k => some (D.bl k) | none => none) = _; cases kitB "str" T <;> rfl
@[simp] theorem isiD_non {T : String} : isiD T .non = (kitB "NoneType" T).map D.bl := by show (match kitB "NoneType" T with | some k => some (D.bl k) | none => none) = _; cases kitB "NoneType" T <;> rfl
@[simp] theorem isiD_lst {T : String} {i : List D} : isiD T (.lst i) = (kitB "list" T).map D.bl := by show (match kitB "list" T with | some k => some (D.bl k) | none => none) = _; cases kitB "list" T <;> rfl
@[simp] theorem isiD_tup {T : String} {i : List D} : isiD T (.tup i) = (kitB "tuple" T).map D.bl := by show (match kitB "tuple" T with | some k => some (D.bl k) | none => none) = _; cases kitB "tuple" T <;> rfl
@[simp] theorem isiD_dic {T : String} {i} : isiD T (.dic i) = (kitB "dict" T).map D.bl := by show (match kitB "dict" T with | some k => some (D.bl k) | none => none) = _; cases kitB "dict" T <;> rfl
@[simp] theorem truD_bl {k : Bool} : truD (.bl k) = some k := rfl
@[simp] theorem truD_int {k : Int} : truD (.int k) = some (k != 0) := rfl
@[simp] theorem truD_lst {l : List D} : truD (.lst l) = some (!l.isEmpty) := rfl
@[simp] theorem truD_non : truD .non = some false := rfl
@[simp] theorem isNB_ev {x : D} : isNB x .non = some (isNoneD x) := rfl
@[simp] theorem notNB_ev {x : D} : notNB x .non = some (!isNoneD x) := rfl
@[simp] theorem toDs_nil : toDs [] = some [] := rfl
@[simp] theorem toDs_d {ws : List W} : toDs (.d x :: ws) = (toDs ws).map (x :: ·) := rfl
@[simp] theorem kDisp_ev {keep : Option Nat} : kDisp keep ws e = if ws.length ≤ sizeLine then
    (match toDs ws with
      | some ds => newL keep ds e
      | none => match keep with
        | some k => if (ws.all fun w => !isLoc k w) = true then newC k (.lw ws) e else .fail
        | none => .fail)
  else .fail := rfl
@[simp] theorem kTup_ev : kTup ws e = if ws.length ≤ sizeLine then
    (match toDs ws with
      | some ds => .ok (.d (.tup ds)) e
      | none => .fail)
  else .fail := rfl
@[simp] theorem newL_none {xs : List D} : newL none xs e = .ok (.d (.lst xs)) e := rfl
@[simp] theorem newL_some {xs : List D} : newL (some k) xs e = newC k (.lst xs) e := rfl
@[simp] theorem newC_ev {c : Cell} : newC k c e = if e.open k = true then .ok (.loc k) (e.setC k (some c)) else .fail := rfl
@[simp] theorem kItL_lst {l : List D} : kItL (.d (.lst l)) e = .ok ⟨l, fun _ => True⟩ e := rfl
@[simp] theorem kItL_rd {l : List D} : kItL (.d (.rd l)) e = .ok ⟨l, fun _ => True⟩ e := rfl
@[simp] theorem kRng1_ev {j : Int} : kRng1 [.d (.int j)] e = if -(2 ^ 62) ≤ j ∧ j < 2 ^ 62 then .ok ⟨rangeL 0 j.toNat, fun _ => True⟩ e else .fail := rfl
@[simp] theorem kRng2_ev {i j : Int} : kRng2 [.d (.int i), .d (.int j)] e = if -(2 ^ 62) ≤ i ∧ i < 2 ^ 62 ∧ -(2 ^ 62) ≤ j ∧ j < 2 ^ 62 then .ok ⟨rangeL i (j - i).toNat, fun _ => True⟩ e else .fail := rfl
@[simp] theorem kEnum_lst {l : List D} : kEnum [.d (.lst l)] e = .ok ⟨enumL l, fun _ => True⟩ e := rfl
theorem sizeL : sizeLine = 16777216 := sizeLine_eq
end
end Dl
end
section
set_option Elab.async false
set_option linter.all false
set_option maxRecDepth 100000
set_option maxHeartbeats 4000000
namespace Dl
open PySem L2
/-! a law: a list of ints comes in, True comes out -/
def spLaw (K : PySem.W.Frag) : Sp := fun vs H Q _ => ∃ (a : Addr) (ns : List Int), vs = [.ref a] ∧ SqL K H a (ns.map V.int) ∧ ns.length ≤ 63 ∧ ∀ H', Q (.bl true) H'
theorem law_sp {K : PySem.W.Frag} {F : Fd} (h : ∀ ns : List Int, ns.length ≤ 63 → ∃ cs, F [.d (.rd (ns.map .int))] [] = .ok (.d (.bl true)) cs) : ∀ vs H Q E, spLaw K vs H Q E → spD K 1 F vs H Q E := fun vs H Q E ⟨a, ns, e, hS, hl, q⟩ => by
  subst e
  obtain ⟨cs, hF⟩ := h ns hl
  refine ⟨rfl, H, fun _ => a, [.d (.rd (ns.map .int))], [], Same.refl H, .cons (.rd hS RepL.ints) .nil, fun i c hc => by simp at hc, fun i hi => absurd hi (Nat.not_lt_zero _), fun i j hi => absurd hi (Nat.not_lt_zero _), ?_⟩
  rw [hF]
  intro R' ρ' v H' _ rv
  have rv : Rep K R' (.bl true) v := rv
  cases rv
  exact q H'
theorem walk {l : PySem.W.OpenLaw} {q : Program} {loose : List Str} {XP : (Str → Option Value) → Heap → Prop} {YP : World → Heap → Prop} {d : DefRec} {K : Params → PySem.W.Frag} {k : Nat} {x : Str} (hn : l.most = some 63) (hdf : d.params.defaults = []) (hr : Room k callerA)
    (hY : ∀ (w : World) (h : Heap), YP w h → (K w.params).In h)
    (F : ∀ (w : World) (mg : Str → Option Value) (fa : Addr) (h : Heap), (K w.params).In h → h.Ns mainGlobals mg → mg d.name = some (.ref fa) →
      ∃ fd : FuncData, (∀ (s : Shared) (u : Value), BindsTo s fd ⟨[u], []⟩ [(x, u)]) ∧ ∀ base : Heap, (K w.params).In base → base.Ns mainGlobals mg → FnOk l.prog w (K w.params) mg base (L2.CX l.prog w) k fa fd [x] (spLaw (K w.params))) :
    PySem.W.WalkO q loose XP YP l.row.toRowW d [] (fun f vs => PySem.call f vs) :=
  L2.walk_of (n := 63) (k := k) (x := x) (CX := fun w => L2.CX l.prog w) (sp := fun w => spLaw (K w.params)) hn (by decide) hdf hr hY F (fun _ _ a ns hl _ hS => ⟨a, ns, rfl, hS, hl, fun _ => rfl⟩) fun w H s e s' h => by
    obtain ⟨_, _, _, _, _, _, _, _, _, _, _, _, z⟩ := h
    exact z
/-- a def of which nothing is promised -/
theorem fn_fail {P : Program} {w : World} {K : PySem.W.Frag} {mg : Str → Option Value} {base : Heap} {CX : CXT} {k n : Nat} {f : Addr} {fd : FuncData} {ps : List Str} (h : n = ps.length) : FnOk P w K mg base CX k f fd ps (spD K n (fun _ _ => .fail)) :=
  ⟨fun vs H Q E q => q.1.trans h, fun A outer s H args us vs Q E hr e0 hb r q => by
    obtain ⟨_, _, _, _, _, _, _, _, _, _, z⟩ := q
    exact z.elim⟩
/-! loops -/
section
variable {g : Tg} {chk : Env → Prop} {body : Sv} {fg : List Nat}
theorem forD_inv (I : Nat → Env → Prop) : ∀ (items : List D) (j : Nat) (e : Env), I j e →
    (∀ i d e, items[i]? = some d → I (j + i) e → chk e ∧ ∃ e1 e2, g d e = some e1 ∧ (body e1 = .nx e2 ∨ body e1 = .ct e2) ∧ I (j + i + 1) (e2.clr fg)) → (∀ e, I (j + items.length) e → chk e) →
    ∃ e', forD g chk body fg items e = .nx e' ∧ I (j + items.length) e'
  | [], j, e, h, _, hc => by
    refine ⟨e, ?_, h⟩
    unfold forD
    rw [if_pos (hc e h)]
  | d :: ds, j, e, h, hs, hc => by
    obtain ⟨h1, e1, e2, h2, h3, h4⟩ := hs 0 d e rfl h
    have h5 : ∃ e', forD g chk body fg ds (e2.clr fg) = .nx e' ∧ I (j + 1 + ds.length) e' := by
      refine forD_inv I ds (j + 1) (e2.clr fg) h4 (fun i d' e' hd hi => ?_) fun e' hi => hc e' ?_
      · have q := hs (i + 1) d' e' (by simpa using hd) (by rw [show j + (i + 1) = j + 1 + i by omega]; exact hi)
        obtain ⟨q1, e3, e4, q2, q3, q4⟩ := q
        exact ⟨q1, e3, e4, q2, q3, by rw [show j + 1 + i + 1 = j + (i + 1) + 1 by omega]; exact q4⟩
      · rw [show j + (d :: ds).length = j + 1 + ds.length by rw [List.length_cons]; omega]; exact hi
    obtain ⟨e', h6, h7⟩ := h5
    refine ⟨e', ?_, by rw [show j + (d :: ds).length = j + 1 + ds.length by rw [List.length_cons]; omega]; exact h7⟩
    unfold forD
    rw [if_pos h1, h2]
    rcases h3 with h3 | h3
    · simp only [h3]; exact h6
    · simp only [h3]; exact h6
/-- a for that goes through: I of the turn and the state -/
theorem for_inv {items : List D} {e : Env} (I : Nat → Env → Prop) (h0 : I 0 e) (hs : ∀ i d e, items[i]? = some d → I i e → chk e ∧ ∃ e1 e2, g d e = some e1 ∧ (body e1 = .nx e2 ∨ body e1 = .ct e2) ∧ I (i + 1) (e2.clr fg)) (hc : ∀ e, I items.length e → chk e) :
    ∃ e', forD g chk body fg items e = .nx e' ∧ I items.length e' := by
  have q := forD_inv (g := g) (chk := chk) (body := body) (fg := fg) I items 0 e h0 (fun i d e hd hi => by
    rw [Nat.zero_add] at hi ⊢
    exact hs i d e hd hi) (fun e hi => hc e (by rw [Nat.zero_add] at hi; exact hi))
  rwa [Nat.zero_add] at q
theorem lcD_inv {t : Env → Rs Bool} {f : Ev} {k : Nat} {vs : List Nat} (I : Nat → Env → Prop) : ∀ (items : List D) (j : Nat) (e : Env), I j e →
    (∀ i d e, items[i]? = some d → I (j + i) e → chk e ∧ ∃ e1, g d (e.clr vs) = some e1 ∧
      ((∃ e2 w e3 e4, t e1 = .ok true e2 ∧ f e2 = .ok w e3 ∧ pushK k w e3 = some e4 ∧ I (j + i + 1) (e4.clr vs)) ∨ ∃ e2, t e1 = .ok false e2 ∧ I (j + i + 1) (e2.clr vs))) → (∀ e, I (j + items.length) e → chk e) →
    ∃ e', lcD g chk t f k vs items e = .ok () e' ∧ I (j + items.length) e'
  | [], j, e, h, _, hc => by
    refine ⟨e, ?_, h⟩
    unfold lcD
    rw [if_pos (hc e h)]
  | d :: ds, j, e, h, hs, hc => by
    obtain ⟨h1, e1, h2, h3⟩ := hs 0 d e rfl h
    have go : ∀ e5, I (j + 1) e5 → ∃ e', lcD g chk t f k vs ds e5 = .ok () e' ∧ I (j + 1 + ds.length) e' := fun e5 h4 => by
      refine lcD_inv I ds (j + 1) e5 h4 (fun i d' e' hd hi => ?_) fun e' hi => hc e' ?_
      · have q := hs (i + 1) d' e' (by simpa using hd) (by rw [show j + (i + 1) = j + 1 + i by omega]; exact hi)
        rw [show j + (i + 1) + 1 = j + 1 + i + 1 by omega] at q
        exact q
      · rw [show j + (d :: ds).length = j + 1 + ds.length by rw [List.length_cons]; omega]; exact hi
    rcases h3 with ⟨e2, w, e3, e4, q1, q2, q3, q4⟩ | ⟨e2, q1, q4⟩
    · obtain ⟨e', h6, h7⟩ := go _ q4
      refine ⟨e', ?_, by rw [show j + (d :: ds).length = j + 1 + ds.length by rw [List.length_cons]; omega]; exact h7⟩
      unfold lcD
      rw [if_pos h1, h2]
      simp only [q1, Rs.bindF, if_true, q2, q3]
      exact h6
    · obtain ⟨e', h6, h7⟩ := go _ q4
      refine ⟨e', ?_, by rw [show j + (d :: ds).length = j + 1 + ds.length by rw [List.length_cons]; omega]; exact h7⟩
      unfold lcD
      rw [if_pos h1, h2]
      simp only [q1, Rs.bindF]
      rw [if_neg Bool.false_ne_true]
      exact h6
theorem lc_inv {t : Env → Rs Bool} {f : Ev} {k : Nat} {vs : List Nat} {items : List D} {e : Env} (I : Nat → Env → Prop) (h0 : I 0 e)
    (hs : ∀ i d e, items[i]? = some d → I i e → chk e ∧ ∃ e1, g d (e.clr vs) = some e1 ∧
      ((∃ e2 w e3 e4, t e1 = .ok true e2 ∧ f e2 = .ok w e3 ∧ pushK k w e3 = some e4 ∧ I (i + 1) (e4.clr vs)) ∨ ∃ e2, t e1 = .ok false e2 ∧ I (i + 1) (e2.clr vs))) (hc : ∀ e, I items.length e → chk e) :
    ∃ e', lcD g chk t f k vs items e = .ok () e' ∧ I items.length e' := by
  have q := lcD_inv (g := g) (chk := chk) (t := t) (f := f) (k := k) (vs := vs) I items 0 e h0 (fun i d e hd hi => by
    rw [Nat.zero_add] at hi ⊢
    exact hs i d e hd hi) (fun e hi => hc e (by rw [Nat.zero_add] at hi; exact hi))
  rwa [Nat.zero_add] at q
/-- a while that goes through: an invariant and a measure -/
theorem wh_inv {t : Env → Rs Bool} (I : Env → Prop) (μ : Env → Nat) (Z : Env → Prop)
    (hs : ∀ e, I e → (∃ e1, t e = .ok false e1 ∧ Z e1) ∨ ∃ e1 e2, t e = .ok true e1 ∧ (body e1 = .nx e2 ∨ body e1 = .ct e2) ∧ I (e2.clr fg) ∧ μ (e2.clr fg) < μ e) : ∀ (n : Nat) (e : Env), I e → μ e < n → ∃ e', whD t body fg n e = .nx e' ∧ Z e'
  | 0, e, _, h => absurd h (Nat.not_lt_zero _)
  | n + 1, e, h, hn => by
    unfold whD
    rcases hs e h with ⟨e1, h1, h2⟩ | ⟨e1, e2, h1, h2, h3, h4⟩
    · rw [h1]
      exact ⟨e1, rfl, h2⟩
    · rw [h1]
      obtain ⟨e', h5, h6⟩ := wh_inv I μ Z hs n (e2.clr fg) h3 (by omega)
      refine ⟨e', ?_, h6⟩
      simp only [Rs.to, if_true]
      rcases h2 with h2 | h2
      · simp only [h2]; exact h5
      · simp only [h2]; exact h5
end
end Dl
end
section
set_option Elab.async false
set_option linter.all false
set_option maxRecDepth 100000
set_option maxHeartbeats 4000000
namespace Dl
open PySem L2
/-- the end over a head by facts: the context may hang on the world -/
theorem walkE {l : PySem.W.OpenLaw} {q : Program} {loose : List Str} {XP : (Str → Option Value) → Heap → Prop} {YP : World → Heap → Prop} {d : DefRec} {k : Nat} {x : Str} (hn : l.most = some 63) (hdf : d.params.defaults = []) (hr : Room k callerA)
    (F : ∀ (w : World) (mg : Str → Option Value) (fa : Addr) (h : Heap), YP w h → h.Ns mainGlobals mg → mg d.name = some (.ref fa) →
      ∃ (K : PySem.W.Frag) (fd : FuncData), K.In h ∧ (∀ (s : Shared) (u : Value), BindsTo s fd ⟨[u], []⟩ [(x, u)]) ∧
        ∀ base : Heap, K.In base → base.Ns mainGlobals mg → FnOk l.prog w K mg base (L2.CX l.prog w) k fa fd [x] (spLaw K)) :
    PySem.W.WalkO q loose XP YP l.row.toRowW d [] (fun f vs => PySem.call f vs) := by
  refine Att.attach_call hn hdf fun w s₀ s₁ mg mb fa o pm cd doc a vs ns G Y ho hd hcd hmg hobj hints hlen hg => ?_
  obtain ⟨K, fd, KX, hb, hF⟩ := F w mg fa _ Y G.T.g hmg
  exact L2.law_call KX G.T.g G.T.b G.T.builtins G.T.nolimit hg hobj hints (Nat.le_trans hlen (by decide)) hr hF hb (fun H hO hS => ⟨a, ns, rfl, hS, hlen, fun _ => rfl⟩) fun H e s' h => by
    obtain ⟨_, _, _, _, _, _, _, _, _, _, _, _, z⟩ := h
    exact z
theorem binds_one {K : PySem.W.Frag} {x qual p : Str} {params : Arguments} {body : List Stmt} {scope : Scope} {kws : List (Str × V)} {f : Addr} {fd : FuncData} (F : FunD K x qual params body scope [] kws f fd)
    (h : ∀ (kV doc pm : Value) (an : Option Addr) (cdv ct : Value) (us : List Value), us.length = 1 → bindArgs (PySem.W.fnOf x qual params body scope .none kV doc pm an cdv ct) ⟨us, []⟩ = pure ([p].zip us)) : ∀ (s : Shared) (u : Value), BindsTo s fd ⟨[u], []⟩ [(p, u)] := fun s u => F.bindsA (ps := [p]) h s [u] rfl
end Dl
end
section
set_option Elab.async false
set_option linter.all false
set_option maxRecDepth 100000
set_option maxHeartbeats 4000000
namespace Dl
open PySem L2
section
variable {e : Env} {w w1 w2 : W} {ws : List W} {x y : D} {n i k : Nat} {keep : Option Nat}
@[simp] theorem kEnum_loc : kEnum [.loc n] e = (match e.cell n with
    | some (.lst xs) => .ok ⟨enumL xs, fun e' => e'.cell n = some (.lst xs) ∧ n < e'.np⟩ e
    | _ => .fail) := rfl
@[simp] theorem kItL_loc : kItL (.loc n) e = (match e.cell n with
    | some (.lst xs) => .ok ⟨xs, fun e' => e'.cell n = some (.lst xs) ∧ n < e'.np⟩ e
    | _ => .fail) := rfl
@[simp] theorem kList_lst {xs : List D} : kList keep [.d (.lst xs)] e = newL keep xs e := rfl
@[simp] theorem kList_rd {xs : List D} : kList keep [.d (.rd xs)] e = newL keep xs e := rfl
@[simp] theorem kList_tup {xs : List D} : kList keep [.d (.tup xs)] e = newL keep xs e := rfl
@[simp] theorem kList_loc : kList keep [.loc n] e = (match e.cell n with | some (.lst xs) => newL keep xs e | _ => .fail) := rfl
@[simp] theorem kSl_loc {lo hi : Option Int} : kSl (.loc n) lo hi e = (match e.cell n with | some (.lst xs) => .ok (.d (.lst (cutL xs lo hi))) e | _ => .fail) := rfl
@[simp] theorem kAppend_ev : kAppend (.loc n) [w] e = (match e.cell n with
    | some c => match pushC c w with
      | some c' => .ok (.d .non) (e.setC n (some c'))
      | none => .fail
    | none => .fail) := rfl
@[simp] theorem pushC_d {xs : List D} : pushC (.lst xs) (.d y) = if xs.length < sizeLine then some (.lst (xs ++ [y])) else none := rfl
@[simp] theorem isLst_loc : isLst e (.loc n) = (match e.cell n with | some (.lst _) => true | some (.lw _) => true | _ => false) := rfl
@[simp] theorem kSetF_ev {C : Addr} {f : Str} : kSetF C f w (.loc n) e = (match e.cell n with
    | some (.obj C' fs) => if C' = C ∧ fs.length < 1000 then .nx (e.setC n (some (.obj C' (putW f w fs)))) else .fail
    | _ => .fail) := rfl
@[simp] theorem putW_nil {f : Str} : putW f w [] = [(f, w)] := rfl
@[simp] theorem putW_cons {f g : Str} {r} : putW f w ((g, w1) :: r) = if g = f then (g, w) :: r else (g, w1) :: putW f w r := rfl
@[simp] theorem fldO_loc {C : Addr} {f : Str} : fldO C f (.loc n) e = (match e.cell n with | some (.obj C' fs) => if C' = C then fs.lookup f else none | _ => none) := rfl
@[simp] theorem fldO_obj {C C' : Addr} {f : Str} {fs} : fldO C f (.d (.obj C' fs)) e = if C' = C then (match fs.lookup f with | some d => some (.d d) | none => none) else none := rfl
theorem lookup_if {α : Type} {f g : Str} {a : α} {r : List (Str × α)} : List.lookup f ((g, a) :: r) = if f = g then some a else r.lookup f := by
  rw [List.lookup]
  by_cases h : f = g
  · subst h; simp
  · rw [if_neg h]
    have : (f == g) = false := by simp [h]
    rw [this]
@[simp] theorem insD_obj {C C' : Addr} {mn : Str} {fs} : insD C mn e (.d (.obj C' fs)) = (decide (C' = C) && hasNo mn fs) := rfl
@[simp] theorem insD_loc {C : Addr} {mn : Str} : insD C mn e (.loc n) = (match e.cell n with | some (.obj C' fs) => decide (C' = C) && hasNo mn fs | _ => false) := rfl
@[simp] theorem hasNo_nil {α : Type} {mn : Str} : hasNo mn ([] : List (Str × α)) = true := rfl
theorem hasNo_if {α : Type} {mn g : Str} {a : α} {r : List (Str × α)} : hasNo mn ((g, a) :: r) = (!decide (g = mn) && hasNo mn r) := by
  show (!(g == mn) && hasNo mn r) = _
  by_cases h : g = mn
  · subst h; simp
  · simp [h]
@[simp] theorem frz_ev {ws M np} : frz k ⟨ws, M, np⟩ = if np ≤ k then
    (match Env.cell ⟨ws, M, np⟩ k with
    | some c => match c.toD with
      | some x => some ⟨mapO (substW k x) ws, (mapO (Cell.subst k x) M).set k none, np⟩
      | none => none
    | none => none)
  else none := rfl
@[simp] theorem mapO_nil {α β : Type} {f : α → β} : mapO f [] = [] := rfl
@[simp] theorem mapO_some {α β : Type} {f : α → β} {a r} : mapO f (some a :: r) = some (f a) :: mapO f r := rfl
@[simp] theorem mapO_none {α β : Type} {f : α → β} {r} : mapO f (none :: r) = none :: mapO f r := rfl
@[simp] theorem substW_loc {x} : substW k x (.loc n) = if n = k then .d x else .loc n := rfl
@[simp] theorem substW_d {x y} : substW k x (.d y) = .d y := rfl
@[simp] theorem subst_obj {x C fs} : Cell.subst k x (.obj C fs) = .obj C (fs.map fun f => (f.1, substW k x f.2)) := rfl
@[simp] theorem subst_lw {x us} : Cell.subst k x (.lw us) = .lw (us.map (substW k x)) := rfl
@[simp] theorem subst_lst {x xs} : Cell.subst k x (.lst xs) = .lst xs := rfl
@[simp] theorem toD_lst {xs} : Cell.toD (.lst xs) = some (.lst xs) := rfl
@[simp] theorem toD_obj {C fs} : Cell.toD (.obj C fs) = (toDf fs).map (.obj C) := rfl
@[simp] theorem toDf_nil : toDf [] = some [] := rfl
@[simp] theorem toDf_d {f : Str} {r} : toDf ((f, .d x) :: r) = (toDf r).map ((f, x) :: ·) := rfl
theorem kRng3_ok {a b c : Int} (h : RgC a b c (Builtin.Range.rangeSize a b c).toNat) : kRng3 [.d (.int a), .d (.int b), .d (.int c)] e = .ok ⟨rangeC a c (Builtin.Range.rangeSize a b c).toNat, fun _ => True⟩ e := if_pos h
@[simp] theorem endO_true : endO true k e = .ok (.loc k) e := rfl
@[simp] theorem endO_false : endO false k e = (match e.cell k with
  | some c => (match c.toD with | some x => if e.np ≤ k then .ok (.d x) (e.setC k none) else .fail | none => .fail)
  | none => .fail) := rfl
@[simp] theorem endL_ev {kp : Bool} : endL kp k e = (match e.cell k with
  | some (.lst xs) => if kp = true then .ok (.loc k) e else .ok (.d (.lst xs)) (e.setC k none)
  | _ => .fail) := rfl
@[simp] theorem pushK_ev : pushK k (.d y) e = (match e.cell k with | some (.lst acc) => if acc.length < sizeLine then some (e.setC k (some (.lst (acc ++ [y])))) else none | _ => none) := by
  unfold pushK
  cases e.cell k with
  | none => rfl
  | some c => cases c <;> rfl
end
section
variable {g : Tg} {chk : Env → Prop} {body : Sv} {fg : List Nat}
theorem for_at {items : List D} {e : Env} {q : SR} (hq : forD g chk body fg items e = q) (I : Nat → Env → Prop) (h0 : I 0 e) (hs : ∀ i d e, items[i]? = some d → I i e → chk e ∧ ∃ e1 e2, g d e = some e1 ∧ (body e1 = .nx e2 ∨ body e1 = .ct e2) ∧ I (i + 1) (e2.clr fg)) (hc : ∀ e, I items.length e → chk e) :
    ∃ e', q = .nx e' ∧ I items.length e' := by
  subst hq
  exact for_inv I h0 hs hc
/-- the simplest form: the state after i turns is told, the body goes through -/
theorem for_eq {items : List D} {q : SR} (E : Nat → Env) (hq : forD g chk body fg items (E 0) = q) (hs : ∀ i d, items[i]? = some d → chk (E i) ∧ ∃ e1 e2, g d (E i) = some e1 ∧ body e1 = .nx e2 ∧ e2.clr fg = E (i + 1)) (hc : chk (E items.length)) :
    q = .nx (E items.length) := by
  obtain ⟨e', h1, h2⟩ := for_at hq (fun i e => e = E i) rfl (fun i d e hd he => by
    subst he
    obtain ⟨h1, e1, e2, h2, h3, h4⟩ := hs i d hd
    exact ⟨h1, e1, e2, h2, .inl h3, h4⟩) (fun e he => by subst he; exact hc)
  rw [h1, h2]
theorem lc_at {t : Env → Rs Bool} {f : Ev} {k : Nat} {vs : List Nat} {items : List D} {e : Env} {q : Rs Unit} (hq : lcD g chk t f k vs items e = q) (I : Nat → Env → Prop) (h0 : I 0 e)
    (hs : ∀ i d e, items[i]? = some d → I i e → chk e ∧ ∃ e1, g d (e.clr vs) = some e1 ∧
      ((∃ e2 w e3 e4, t e1 = .ok true e2 ∧ f e2 = .ok w e3 ∧ pushK k w e3 = some e4 ∧ I (i + 1) (e4.clr vs)) ∨ ∃ e2, t e1 = .ok false e2 ∧ I (i + 1) (e2.clr vs))) (hc : ∀ e, I items.length e → chk e) :
    ∃ e', q = .ok () e' ∧ I items.length e' := by
  subst hq
  exact lc_inv I h0 hs hc
theorem wh_at {t : Env → Rs Bool} {n : Nat} {e : Env} {q : SR} (hq : whD t body fg n e = q) (I : Env → Prop) (μ : Env → Nat) (Z : Env → Prop) (h0 : I e) (hn : μ e < n)
    (hs : ∀ e, I e → (∃ e1, t e = .ok false e1 ∧ Z e1) ∨ ∃ e1 e2, t e = .ok true e1 ∧ (body e1 = .nx e2 ∨ body e1 = .ct e2) ∧ I (e2.clr fg) ∧ μ (e2.clr fg) < μ e) : ∃ e', q = .nx e' ∧ Z e' := by
  subst hq
  exact wh_inv I μ Z hs n e h0 hn
end
end Dl
end
section
set_option Elab.async false
set_option linter.all false
set_option maxRecDepth 100000
set_option maxHeartbeats 4000000
namespace Dl
open PySem L2
/-! raise of an own exception class whose __init__ stores one field -/
def spXI (C : Addr) (f : Str) : Sp := fun vs H Q _ => ∃ (a : Addr) (v : V), vs = [.ref a, v] ∧ H a = some (exo a C none) ∧ ∀ dx, H dx = none → dx ≠ a → Q .non (upd (upd H dx (exd dx [(f, v)])) a (exo a C (some dx)))
structure XCls (K : PySem.W.Frag) (C fI : Addr) (f : Str) : Prop where
  ox : OexC K C
  no : PySem.W.findIn K (.ref C) f = some none
  iC : PySem.W.findIn K (.ref C) "__init__" = some (some (.ref fI))
  tI : PySem.W.typeIn K (.ref fI) = some (.type "function")
def sRaise (C : Addr) (f : Str) (g : Ev) : Sv := fun e => match g e with
  | .ok (.d x) e1 => .exn ⟨C, some [(f, x)]⟩ e1
  | .exn x e1 => .exn x e1
  | _ => .fail
theorem del_upd {H1 : Hp} {a dx : Addr} {o1 o2 o3 o4 : HO} (na : H1 a = none) (hne : dx ≠ a) : upd (del (upd (upd (upd H1 a o1) dx o2) a o3) a) dx o4 = upd H1 dx o4 := by
  funext b
  by_cases h : b = dx
  · subst h
    rw [upd_same, upd_same]
  · rw [upd_ne h, upd_ne h]
    by_cases h2 : b = a
    · subst h2
      rw [del_same, na]
    · rw [del_ne h2, upd_ne h2, upd_ne h, upd_ne h2]
theorem passF {X : Cx} : Passes (L2.CX X.prog X.w) X (fun _ _ _ => False) := fun _ _ _ _ _ _ _ h => by
  obtain ⟨_, _, _, _, _, _, _, _, _, _, _, _, z⟩ := h
  exact z.elim
section
variable {X : Cx} {Wx : WX} {a : Expr} {pos pos2 p : Pos} {g : Ev} {C fI : Addr} {f cn : Str} {k : Nat} {fd : FuncData} {ps : List Str} {CX : CXT}
theorem s_raise (hc : X.calm = true) (T : XCls X.K C fI f) (F1 : FnOk X.prog X.w X.K X.mg X.base CX k fI fd ps (spXI C f)) (hr : Room (k + 1) X.A) (hb : Binds X.K fd ps []) (hx : Passes CX X (fun _ _ _ => False)) (tk : L2.Takes X Wx)
    (hg : Gl X cn) (hm : X.mg cn = some (.ref C)) (ha : PE X a (tD X.K Wx g)) (hdb : (cn == ("__debug__" : Str)) = false := by decide)
    (he : starEach [a] X.env = (false, eval a X.env) :: starEach [] X.env := by rfl) (hpl : (backTo pos (starEach [] X.env)).any (·.1) = false := by rfl) :
    PS X (.Raise (some (.Call (.Name cn p) [a] [] pos)) none pos2) (tS X.K Wx (sRaise C f g)) :=
  (ps_raise hc tk (pmk_oex T.ox T.iC T.tI F1 hr hb .nil hx hg hm (a_cons ha a_nil he) hdb he hpl)).imp fun D σ H h => by
    obtain ⟨b, R, ρ, e, m, q⟩ := h
    refine ⟨b, R, ρ, e, m, ?_⟩
    unfold sRaise at q
    cases hge : g e with
    | fail => rw [hge] at q; exact q.elim
    | exn x e1 =>
      rw [hge] at q
      have e2 : evA [g] e = .exn x e1 := by
        rw [evA_cons, hge]
        rfl
      rw [e2]
      exact q
    | ok w e1 =>
      rw [hge] at q
      cases w with
      | loc n => exact q.elim
      | d x =>
        have e2 : evA [g] e = .ok [.d x] e1 := by
          rw [evA_cons, hge]
          rfl
        rw [e2]
        intro R' ρ' vs H1 s l m' r
        obtain ⟨v, ev, rv⟩ := pair1 r
        subst ev
        have rv : Rep X.K R' x v := rv
        refine ⟨by simp, fun a na => ⟨a, v, rfl, upd_same, fun dx hdx hne => ⟨rfl, dx, [(f, v)], upd_same, by rw [upd_ne hne, upd_same], by rw [upd_ne hne] at hdx; exact hdx, ?_⟩⟩⟩
        have hd1 : H1 dx = none := by rw [upd_ne hne] at hdx; exact hdx
        show Wx (.ref C) (some dx) σ (upd (del (upd (upd (upd H1 a _) dx _) a _) a) dx (.xd [(f, v)]))
        rw [del_upd na hne]
        have sm : Same R' (upd R' dx (.xd [(f, v)])) := same_upd (m'.freshR hd1)
        exact q _ ρ' σ _ _ _ (s.trans sm) (m'.freshD hd1 _) ⟨rfl, dx, [(f, v)], rfl, upd_same, rfl, .cons (Rep.mono sm rv) .nil⟩
/-- the exception's fields in an except suite: the suite returns what te reads -/
def sTry (C : Addr) (i : Nat) (k : List (Str × D) → Option D) (fb : Sv) : Sv := fun e => match fb e with
  | .exn x e1 => if x.C = C ∧ i < e1.ws.length then (match x.fs with
    | some fs => (match k fs with | some y => .rt (.d y) e1 | none => .fail)
    | none => .fail) else .fail
  | r => r
/-- what a suite must do: at a caught exception (a, its dict dd, the fields ws) it returns what k tells -/
def SuiteOk (K : PySem.W.Frag) (C : Addr) (i : Nat) (k : List (Str × D) → Option D) (ts : Addr → Value → Option Addr → TS) : Prop :=
  ∀ (a dd : Addr) (D' : Ends) (σ : St) (H R : Hp) (fs : List (Str × D)) (ws : List (Str × V)) (y : D), k fs = some y → σ[i]? = some (some (.ref a)) → H dd = some (.xd ws) → Same R H → ws.map (·.1) = fs.map (·.1) → RepL K R (fs.map (·.2)) (ws.map (·.2)) →
    (∀ (v : V) (H' : Hp), (∃ (p : Addr) (o : HO), H p = none ∧ H' = upd H p o ∧ Rep K (upd R p o) y v) ∨ (H' = H ∧ Rep K R y v) → D'.rt v H') → ts a (.ref C) (some dd) D' σ H
theorem s_try {body suite : List Stmt} {b0 : Stmt} {cn n : Str} {np pos' : Pos} {i : Nat} {fb : Sv} {kf : List (Str × D) → Option D} {ts : Addr → Value → Option Addr → TS}
    (hs : X.stack = X.env :: X.outer) (hf : X.env.frame = some X.env.locals) (hN : X.N.Nodup) (hi : X.N[i]? = some n) (hln : X.env.kindOf n = some .local) (hc : Names X cn (.ref C)) (tk : L2.Takes X Wx) (te : PySem.W.exmOne X.K (.ref C) (.ref C) = some true)
    (hb : ∀ (W : WX) (pn : List (Addr × Obj)) (xe : Value → Shared → Prop), L2.Takes (X.tr pn xe) W → PassesOwn (model X.prog X.w) X.A X.env xe → PSs (X.tr pn xe) body (tS X.K W fb))
    (hsu : ∀ (a : Addr) (oe : Obj) (cls : Value) (d : Option Addr) (pn : List (Addr × Obj)), L2.Zc cls d oe → (∃ vs, oe.data = .fields vs) → PSs (X.suite a ((a, oe) :: pn)) (b0 :: suite) (ts a cls d)) (ok : SuiteOk X.K C i kf ts) :
    PS X (.Try body [.ExceptHandler (some (.Name cn np)) (some n) (b0 :: suite) pos'] [] [] pos) (tS X.K Wx (sTry C i kf fb)) :=
  (L2.ps_try_as (tb := fun W => tS X.K W fb) hs hf hN hi hln hc tk hb hsu).imp fun D σ H h => by
    obtain ⟨b, R, ρ, e, m, q⟩ := h
    refine ⟨b, R, ρ, e, m, ?_⟩
    unfold sTry at q
    cases hfe : fb e with
    | nx e1 => rw [hfe] at q; exact q
    | rt w e1 => rw [hfe] at q; exact q
    | bk e1 => rw [hfe] at q; exact q
    | ct e1 => rw [hfe] at q; exact q
    | fail => rw [hfe] at q; exact q.elim
    | exn x e1 =>
      rw [hfe] at q
      intro R' ρ' σ' H' cls d s' m' xr
      dsimp only at q
      split at q
      · rename_i hx
        obtain ⟨rfl, xf⟩ := xr
        cases hfs : x.fs with
        | none => rw [hfs] at q; exact q.elim
        | some fs =>
          rw [hfs] at q xf
          obtain ⟨dd, ws, rfl, h1, h2, h3⟩ := xf
          dsimp only at q
          cases hk : kf fs with
          | none => rw [hk] at q; exact q.elim
          | some y =>
            rw [hk] at q
            rw [hx.1]
            refine ⟨true, te, fun _ a na => ?_, fun z => Bool.noConfusion z⟩
            refine ok a dd _ _ H' R' fs ws y hk ?_ (m'.sub _ _ h1) m'.sub h2 h3 fun v H2 hv => ?_
            · rw [List.getElem?_set_self (by rw [m'.len]; exact hx.2)]
            · rcases hv with ⟨p, o, hp, rfl, rv⟩ | ⟨rfl, rv⟩
              · exact q _ ρ' σ' _ v (s'.trans (same_upd (m'.freshR hp))) (m'.freshD hp o) rv
              · exact q R' ρ' σ' _ v s' m' rv
      · exact q.elim
/-- return n.f -/
def kFld (f : Str) : List (Str × D) → Option D := fun fs => fs.lookup f
theorem suite_fld {C : Addr} {i : Nat} {f : Str} {K : PySem.W.Frag} : SuiteOk K C i (kFld f) (fun a cls d => tRet (tXf a cls d C f (tVar i))) := fun a dd D' σ H R fs ws y hk hi hd sm hn hr q => by
  obtain ⟨c, h1, h2⟩ := lookup_rep (F := fun x v => Rep K R x v) f hn hr.paired hk
  exact ⟨.ref a, hi, rfl, rfl, dd, ws, c, rfl, hd, h1, q c H (.inr ⟨rfl, h2⟩)⟩
end
/-! the __init__ of such a class -/
section
variable {P : Program} {w : World} {K : PySem.W.Frag} {mg : Str → Option Value} {base : Heap} {x qual self pn f : Str} {params : Arguments} {body : List Stmt} {scope : Scope} {kws : List (Str × V)} {C fI : Addr} {fd : FuncData}
theorem fnX_ok (F : FunD K x qual params body scope [] kws fI fd) (S : FnScope [self, pn] [self, pn] scope) (T : XCls K C fI f)
    (hb : ∀ (cdv : Value) (A : Around) (outer : List PySem.Env) (s : Shared) (H : Hp) (E : XK), PSs (cxOf (L2.CX P w) P w K mg base [self, pn] qual scope fI cdv A outer s H E) body (tOst K f (tVar 0) (tVar 1))) :
    FnOk P w K mg base (L2.CX P w) 1 fI fd [self, pn] (spXI C f) := by
  refine F.ok (k := 0) (CX := L2.CX P w) S (fun vs H Q E h => ?_) (fun cdv A outer s H vs Q E hr h => ⟨_, hb cdv A outer s H E, ?_⟩)
  · obtain ⟨a, v, rfl, _⟩ := h
    rfl
  · obtain ⟨a, v, rfl, ha, q⟩ := h
    exact ⟨v, rfl, .ref a, rfl, a, C, rfl, T.ox, T.no, .inl ⟨ha, fun dx n ne => q dx n ne⟩⟩
end
end Dl
end
section
set_option Elab.async false
set_option linter.all false
set_option maxRecDepth 100000
set_option maxHeartbeats 4000000
namespace Dl
open PySem L2
/-! the head's facts of own exception classes, as one Bool -/
def oexB (K : PySem.W.Frag) (C : Addr) : Bool := match K.lookup C with
  | some ⟨.type "type", _, .cls cd, sl⟩ => (match cd.mro, sl.toList with
    | .ref C' :: bm, [_, _, _, _, some (.builtin n), _] => C' == C && n == "ValueError.__new__" && !cd.hasDel && cd.hasDict && PySem.HandSPX.refsVE bm
    | _, _ => false)
  | _ => false
theorem oexB_ok {K : PySem.W.Frag} {C : Addr} (q : oexB K C = true) : ∃ nm q N bs bm sn sub ab col dd k0 k1 k2 k3 k5, K.lookup C = some (PySem.excClassObj nm q C N bs bm true sn sub ab col dd k0 k1 k2 k3 k5 "ValueError.__new__") ∧ PySem.HandSPX.refsVE bm = true := by
  unfold oexB at q
  split at q
  · rename_i dd cd sl ho
    split at q
    · rename_i C' bm k0 k1 k2 k3 n k5 hm hs
      simp only [Bool.and_eq_true, beq_iff_eq, Bool.not_eq_true'] at q
      obtain ⟨⟨⟨⟨rfl, rfl⟩, hdel⟩, hdc⟩, ht⟩ := q
      obtain ⟨nm, bs, mro, ns, qn, hd, sn, sub, ab, col, del⟩ := cd
      dsimp only at hm hdel hdc
      subst hm hdel hdc
      have hsl : sl = #[k0, k1, k2, k3, some (.builtin "ValueError.__new__"), k5] := by
        obtain ⟨l⟩ := sl
        simp only at hs
        rw [hs]
      subst hsl
      exact ⟨nm, qn, ns, bs, bm, sn, sub, ab, col, dd, k0, k1, k2, k3, k5, ho, ht⟩
    · cases q
  · cases q
/-- class x with an __init__ that stores the field f -/
def xB (K : PySem.W.Frag) (x f : Str) : Bool := oexB K (He.ga K x) && (He.eqO (PySem.W.findIn K (.ref (He.ga K x)) "__setattr__") (some (some (.builtin "object.__setattr__"))) &&
  (decide (PySem.W.subIn K (.ref (He.ga K x)) (.type "BaseException") = some true) && (decide (PySem.W.typeIn K (.ref (He.ga K x)) = some (.type "type")) && (PySem.W.keepIn K (.ref (He.ga K x)) &&
  (He.eqO (PySem.W.findIn K (.ref (He.ga K x)) f) (some none) && (He.eqO (PySem.W.findIn K (.ref (He.ga K x)) "__init__") (some (some (.ref (He.ma K (He.ga K x) "__init__")))) &&
  (decide (PySem.W.typeIn K (.ref (He.ma K (He.ga K x) "__init__")) = some (.type "function")) && (xfB K (He.ga K x) && (decide (PySem.W.exmOne K (.ref (He.ga K x)) (.ref (He.ga K x)) = some true) && decide (PySem.W.kitOne K (.ref (He.ga K x)) (.type "ValueError") = some true))))))))))
theorem xB_ok {K : PySem.W.Frag} {x f : Str} (h : xB K x f = true) : XCls K (He.ga K x) (He.ma K (He.ga K x) "__init__") f ∧ XfC K (He.ga K x) ∧ PySem.W.exmOne K (.ref (He.ga K x)) (.ref (He.ga K x)) = some true ∧ PySem.W.kitOne K (.ref (He.ga K x)) (.type "ValueError") = some true := by
  unfold xB at h
  simp only [Bool.and_eq_true, decide_eq_true_eq] at h
  obtain ⟨h1, h2, h3, h4, h5, h6, h7, h8, h9, h10, h11⟩ := h
  exact ⟨⟨⟨oexB_ok h1, He.eqO_ok h2, h3, h4, h5⟩, He.eqO_ok h6, He.eqO_ok h7, h8⟩, xfB_ok h9, h10, h11⟩
abbrev AlX : Type := Bool × He.AlD
def obsX (xs : List (Str × Str)) (fa : List He.Fa) (fn : List He.DefD) (K : PySem.W.Frag) : AlX := (xs.all fun x => xB K x.1 x.2, He.obsD fa fn K)
def valX (fn : List He.DefD) : AlX := (true, He.valD fn)
def SaysX (xs : List (Str × Str)) (fa : List He.Fa) (fn : List He.DefD) (K : PySem.W.Frag) : Prop := obsX xs fa fn K = valX fn
def obsXG (n : Nat) (xs : List (Str × Str)) (fa : List He.Fa) (fn : List He.DefD) (g : Addr → Option Obj) : AlX := obsX xs fa fn (He.frG g (He.asD g n))
def hookX (n : Nat) (xs : List (Str × Str)) (fa : List He.Fa) (fn : List He.DefD) : PySem.W.Hook where
  α := AlX
  obs := fun s => obsXG n xs fa fn s.heap.get?
  val := fun _ => valX fn
  says := fun _ h => ∃ K : PySem.W.Frag, K.In h ∧ SaysX xs fa fn K
  of := fun _ _ e => ⟨_, He.frG_in, e⟩
  keeps := fun _ _ _ ⟨K, hK, c⟩ k => ⟨K, PySem.W.Frag.In.keeps hK k, c⟩
theorem obsXG_eq {n : Nat} {xs : List (Str × Str)} {fa : List He.Fa} {fn : List He.DefD} {g : Addr → Option Obj} {s : Shared} (h : ∀ a, g a = s.heap.get? a) : obsXG n xs fa fn g = (hookX n xs fa fn).obs s := by
  have e : g = s.heap.get? := funext h
  rw [e] <;> rfl
theorem SaysX.d {xs : List (Str × Str)} {fa : List He.Fa} {fn : List He.DefD} {K : PySem.W.Frag} (c : SaysX xs fa fn K) : He.SaysD fa fn K := congrArg (fun z : AlX => z.2) c
theorem SaysX.x {xs : List (Str × Str)} {fa : List He.Fa} {fn : List He.DefD} {K : PySem.W.Frag} (c : SaysX xs fa fn K) (i : Nat) {x : Str × Str} (h : xs[i]? = some x := by rfl) : xB K x.1 x.2 = true := by
  have c1 : (xs.all fun x => xB K x.1 x.2) = true := congrArg (fun z : AlX => z.1) c
  exact List.all_eq_true.mp c1 x (List.mem_of_getElem? h)
end Dl
end
section
set_option Elab.async false
set_option linter.all false
set_option maxRecDepth 100000
set_option maxHeartbeats 4000000
namespace Dl
open PySem PySem.Spec PySem.Calls PyProof.Rows PySem.W
/-- isinstance that is answered by the type itself: __class__ is not asked -/
theorem ans_true {K : PySem.W.Frag} {x t c : Value} {H : Heap → Prop} (ty : ∀ (M : Model) (h : Heap), K.In h → H h → Looks M h (typeOf x) t) (ne : (t == c) = false) (e : kitOne K t c = some true) : Answers (fun s => K.In s.heap ∧ H s.heap) x c true := by
  rintro dep tk prog w A R ⟨hh, gg, dd, tt, oo⟩ ⟨⟨X, p⟩, hq⟩
  unfold kitOne at e
  rw [ne, if_neg Bool.false_ne_true] at e
  obtain ⟨k1, k2, k3⟩ := kit_cls (M := model prog w) X e
  have lt := ty (model prog w) hh X p
  unfold Builtin.«isinstance.nested»
  refine wpAny_bind (lt.at ?_); rw [ne, if_neg Bool.false_ne_true]
  refine wpAny_bind (k1.at ?_); rw [if_pos (by decide)]
  k_delta "plainIsInstance"
  refine wpAny_bind (wpAny_bind (k2.at ?_))
  simp only [Bool.false_eq_true, Bool.not_true, if_false]
  refine wpAny_bind ((lt.andThen k3).at ?_)
  first
    | exact wpAny_pure (wpAny_pure (hq _))
    | (simp only [if_true]; first | exact wpAny_pure (wpAny_pure (hq _)) | exact wpAny_pure (hq _) | exact wpAny_bind (wpAny_pure (wpAny_pure (hq _))))
theorem isinst_true {K : PySem.W.Frag} {x t c : Value} {H : Heap → Prop} {prog : Program} {w : World} {A : Around} {E Q : Value → Shared → Prop} {s : Shared} (ty : ∀ (M : Model) (h : Heap), K.In h → H h → Looks M h (typeOf x) t) (ne : (t == c) = false) (e : kitOne K t c = some true)
    (X : K.In s.heap) (p : H s.heap) (hx : x ≠ .builtin "__main__.__loader__#opaque") (h : ∀ tk, Q (.bool true) { s with toks := tk }) : wpAny (model prog w) A (call (.builtin "isinstance") [x, c]) Q E s :=
  call_isinstance (S := fun _ R s => (K.In s.heap ∧ H s.heap) ∧ ∀ tk, R (.ok (.ret (.bool true))) { s with toks := tk }) (fun prog w A R s hs => isinstance_outer (ans_true ty ne e 0 _ prog w A R s hs) hx) ⟨⟨X, p⟩, h⟩
end Dl
end
section
set_option Elab.async false
set_option linter.all false
set_option maxRecDepth 100000
set_option maxHeartbeats 4000000
namespace Dl
open PySem L2
/-- isinstance(e, ValueError) of the error that the suite holds -/
def rIsF (a : Addr) (cls : Value) (D : Addr) : List V → Hp → VK → Prop := fun xs H Q => xs = [.ref a, .ty "ValueError"] ∧ cls = .ref D ∧ Q (.bl true) H
theorem call_isF {X : Cx} {a D : Addr} {oe : Obj} {cls : Value} {d : Option Addr} {pn : List (Addr × Obj)} (hv : PySem.W.kitOne X.K (.ref D) (.type "ValueError") = some true) (hz : L2.Zc cls d oe) : CallR (X.suite a ((a, oe) :: pn)) (.builtin "isinstance") (rIsF a cls D) := by
  intro pins s σ H xs us Q I r h
  obtain ⟨rfl, rfl, q⟩ := h
  cases r with
  | cons rx rr =>
    cases rr with
    | cons rt rr =>
      cases rr
      cases rx
      cases rt
      obtain ⟨hget, _⟩ := I.pin (a, oe) (List.mem_append.mpr (.inl List.mem_cons_self))
      exact isinst_true (H := fun h => h.get? a = some oe) (t := .ref D) (fun M h _ p => hz.1 ▸ (PySem.W.Looks.ld p).andThen .now) (by first | rfl | decide | (apply beq_false_of_ne; intro z; cases z)) hv I.kIn hget (fun z => nomatch z) fun tk => ⟨.bl true, H, I.kept (t' := tk) fun _ _ z => z, rfl, q⟩
def kPair (f : Str) : List (Str × D) → Option D := fun fs => (fs.lookup f).map fun x => .tup [x, .bl true]
theorem suite_pair {C : Addr} {i : Nat} {f : Str} {K : PySem.W.Frag} : SuiteOk K C i (kPair f) (fun a cls d => tRet (tTup (tCons (tXf a cls d C f (tVar i)) (tCons (tCB (rIsF a cls C) (tCons (tVar i) (tCons (tC (.ty "ValueError")) tNil))) tNil)))) := fun a dd D' σ H R fs ws y hk hi hd sm hn hr q => by
  unfold kPair at hk
  cases hl : fs.lookup f with
  | none => rw [hl] at hk; cases hk
  | some x =>
    rw [hl] at hk
    cases hk
    obtain ⟨c, h1, h2⟩ := lookup_rep (F := fun x v => Rep K R x v) f hn hr.paired hl
    refine ⟨.ref a, hi, rfl, rfl, dd, ws, c, rfl, hd, h1, .ref a, hi, ⟨rfl, rfl, ?_⟩⟩
    refine ⟨by rw [sizeL]; simp, fun p hp => ?_⟩
    have hR : R p = none := by
      cases hR : R p with
      | none => rfl
      | some o => exact absurd ((sm p o hR).symm.trans hp) (fun z => nomatch z)
    exact q (.ref p) _ (.inl ⟨p, _, hp, rfl, .tup upd_same (.cons (Rep.mono (same_upd hR) h2) (.cons (.bl true) .nil))⟩)
end Dl
end
section
set_option Elab.async false
set_option linter.all false
set_option maxRecDepth 100000
set_option maxHeartbeats 4000000
namespace Dl
open PySem L2
/-! evaluation rules of raise and try; a for that raises -/
def xrK (C : Addr) (f : Str) (r : Rs W) : SR := match r with
  | .ok (.d x) e1 => .exn ⟨C, some [(f, x)]⟩ e1
  | .exn x e1 => .exn x e1
  | _ => .fail
def tryK (C : Addr) (i : Nat) (k : List (Str × D) → Option D) (r : SR) : SR := match r with
  | .exn x e1 => if x.C = C ∧ i < e1.ws.length then (match x.fs with
    | some fs => (match k fs with | some y => .rt (.d y) e1 | none => .fail)
    | none => .fail) else .fail
  | r => r
section
variable {C : Addr} {f : Str} {i : Nat} {k : List (Str × D) → Option D} {g : Ev} {fb : Sv} {e : Env} {x : D} {w : W} {z : Xn}
@[simp] theorem sRaise_ev : sRaise C f g e = xrK C f (g e) := rfl
@[simp] theorem xrK_ok : xrK C f (.ok (.d x) e) = .exn ⟨C, some [(f, x)]⟩ e := rfl
@[simp] theorem sTry_ev : sTry C i k fb e = tryK C i k (fb e) := rfl
@[simp] theorem tryK_nx : tryK C i k (.nx e) = .nx e := rfl
@[simp] theorem tryK_rt : tryK C i k (.rt w e) = .rt w e := rfl
theorem tryK_exn {fs : List (Str × D)} {y : D} (h : i < e.ws.length) (hk : k fs = some y) : tryK C i k (.exn ⟨C, some fs⟩ e) = .rt (.d y) e := by
  show (if C = C ∧ i < e.ws.length then (match k fs with | some y => SR.rt (.d y) e | none => .fail) else .fail) = _
  rw [if_pos ⟨rfl, h⟩, hk]
end
section
variable {g : Tg} {chk : Env → Prop} {body : Sv} {fg : List Nat}
theorem forD_exn (E : Nat → Env) {x : Xn} {e2 : Env} : ∀ (items : List D) (j n : Nat) (d : D), items[n]? = some d →
    (∀ i d, i < n → items[i]? = some d → chk (E (j + i)) ∧ ∃ e1 e2, g d (E (j + i)) = some e1 ∧ body e1 = .nx e2 ∧ e2.clr fg = E (j + i + 1)) →
    (chk (E (j + n)) ∧ ∃ e1, g d (E (j + n)) = some e1 ∧ body e1 = .exn x e2) → forD g chk body fg items (E j) = .exn x e2
  | [], _, _, _, h, _, _ => by simp at h
  | a :: l, j, 0, d, h, _, hx => by
    have h : a = d := by simpa using h
    subst h
    obtain ⟨h1, e1, h2, h3⟩ := hx
    have h1 : chk (E j) := h1
    have h2 : g a (E j) = some e1 := h2
    unfold forD
    rw [if_pos h1, h2]
    simp only [h3]
  | a :: l, j, n + 1, d, h, hs, hx => by
    obtain ⟨h1, e1, e3, h2, h3, h4⟩ := hs 0 a (by omega) rfl
    have h1 : chk (E j) := h1
    have h2 : g a (E j) = some e1 := h2
    unfold forD
    rw [if_pos h1, h2]
    simp only [h3]
    rw [h4]
    refine forD_exn E l (j + 0 + 1) n d (by simpa using h) (fun i d' hi hd => ?_) (by rw [show j + 0 + 1 + n = j + (n + 1) by omega]; exact hx)
    have q := hs (i + 1) d' (by omega) (by simpa using hd)
    rw [show j + (i + 1) = j + 0 + 1 + i by omega] at q
    exact q
/-- a for that raises at its item n -/
theorem for_exn {items : List D} {q : SR} (E : Nat → Env) {x : Xn} {e2 : Env} (n : Nat) (d : D) (hq : forD g chk body fg items (E 0) = q) (hd : items[n]? = some d)
    (hs : ∀ i d, i < n → items[i]? = some d → chk (E i) ∧ ∃ e1 e2, g d (E i) = some e1 ∧ body e1 = .nx e2 ∧ e2.clr fg = E (i + 1)) (hx : chk (E n) ∧ ∃ e1, g d (E n) = some e1 ∧ body e1 = .exn x e2) : q = .exn x e2 := by
  subst hq
  refine forD_exn E items 0 n d hd (fun i d hi hd => ?_) ?_
  · rw [Nat.zero_add]; exact hs i d hi hd
  · rw [Nat.zero_add]; exact hx
end
end Dl
end
section
set_option Elab.async false
set_option linter.all false
set_option maxRecDepth 100000
set_option maxHeartbeats 4000000
namespace Dl
open PySem L2
section
variable {X : Cx} {Wx : WX} {a c tg : Expr} {st : Stmt} {pos : Pos}
/-- a ghost step behind: a cell is frozen -/
def sThen (k : Nat) (f : Sv) : Sv := fun e => match f e with
  | .nx e1 => (match frz k e1 with | some e2 => .nx e2 | none => .fail)
  | r => r
theorem s_then {k : Nat} {f : Sv} (h : PS X st (tS X.K Wx f)) : PS X st (tS X.K Wx (sThen k f)) := h.imp fun D σ H ⟨b, R, ρ, e, m, q⟩ => by
  refine ⟨b, R, ρ, e, m, ?_⟩
  unfold sThen at q
  cases hf : f e with
  | nx e1 =>
    rw [hf] at q
    cases hz : frz k e1 with
    | none => simp only [hz] at q; exact q.elim
    | some e2 =>
      simp only [hz] at q
      intro R' ρ' σ' H' s' m'
      obtain ⟨R2, s2, m2⟩ := m'.frz hz
      exact q R2 ρ' σ' H' (s'.trans s2) m2
  | rt w e1 => rw [hf] at q; exact q
  | bk e1 => rw [hf] at q; exact q
  | ct e1 => rw [hf] at q; exact q
  | exn x e1 => rw [hf] at q; exact q
  | fail => rw [hf] at q; exact q
/-- [..] * n as an own list -/
def kRep (k : Nat) (w1 w2 : W) : Ev := fun e => match w1, w2 with
  | .d (.lst xs), .d (.int j) => if -(2 ^ 63) ≤ j ∧ j < 2 ^ 63 ∧ xs.length * j.toNat ≤ sizeLine then newC k (.lst (List.replicate j.toNat xs).flatten) e else .fail
  | _, _ => .fail
def eRep (k : Nat) (f1 f2 : Ev) : Ev := bin2 f1 f2 (kRep k)
theorem d_rep {k : Nat} {f1 f2 : Ev} (ha : PE X a (tD X.K Wx f1)) (hb : PE X c (tD X.K Wx f2)) : PE X (.BinOp a .Mult c pos) (tD X.K Wx (eRep k f1 f2)) :=
  (pe_op op_rep ha hb).imp fun σ H Q h => tG_two h fun bs R ρ e H w1 w2 v1 v2 m r1 r2 q => by
    unfold kRep at q
    split at q
    · rename_i xs j
      have r1 : Rep X.K R _ v1 := r1
      have r2 : Rep X.K R _ v2 := r2
      cases r2
      cases r1 with
      | lst h1 l1 =>
        split at q
        · rename_i hl
          refine ⟨_, j, _, rfl, rfl, m.sub _ _ h1, hl.1, hl.2.1, by rw [← l1.length]; exact hl.2.2, fun p hp => ?_⟩
          exact newC_ok m q hp ⟨_, upd_same, RepL.flat l1 _⟩
        · exact q.elim
    · exact q.elim
/-- reversed(range(n)) -/
def kRr1 (w : W) : Env → Rs Itr := fun e => match w with
  | .d (.int j) => if -(2 ^ 62) ≤ j ∧ j < 2 ^ 62 then .ok ⟨rangeC (j.toNat - 1) (-1) j.toNat, fun _ => True⟩ e else .fail
  | _ => .fail
def iRr1 (f : Ev) : Env → Rs Itr := fun e => (f e).bind kRr1
theorem i_revrange1 {f : Ev} {p p2 pos2 : Pos} (hg : Gl X "reversed") (hg2 : Gl X "range") (hm : X.mg "reversed" = none) (hm2 : X.mg "range" = none) (ha1 : PE X a (tD X.K Wx f))
    (na : starEach [a] X.env = (false, eval a X.env) :: starEach [] X.env := by rfl) (hs : starEach [.Call (.Name "range" p2) [a] [] pos2] X.env = (false, eval (.Call (.Name "range" p2) [a] [] pos2) X.env) :: starEach [] X.env := by rfl) :
    PI X tg (.Call (.Name "reversed" p) [.Call (.Name "range" p2) [a] [] pos2] [] pos) (tDI X.K Wx (iRr1 f)) := (pi_revR hg hm (prg_1 hg2 hm2 ha1 na) hs).imp fun σ H Q q =>
  tG_one q fun bs R ρ e H w v m r q2 => by
    unfold kRr1 at q2
    split at q2
    · rename_i j
      have rv : Rep X.K R (.int j) v := r
      cases rv
      split at q2
      · rename_i hj
        refine ⟨j, rfl, by decide, by decide, hj.1, hj.2, ?_⟩
        have e1 : (0 + (((j - 0).toNat : Nat) : Int) - 1) = (j.toNat : Int) - 1 := by rw [Int.sub_zero]; omega
        have e2 : (j - 0).toNat = j.toNat := by rw [Int.sub_zero]
        rw [e1, e2]
        exact q2.fin m ItOk.rangeC
      · exact q2.elim
    · exact q2.elim
/-- n.bit_length() -/
def bitsD : D → Option D
  | .int i => some (.int (Builtin.Int.intBits i : Nat))
  | _ => none
def eBits (f : Ev) : Ev := fun e => (f e).bind fun w e1 => match w with | .d x => okO (bitsD x) e1 | _ => .fail
theorem d_bits {f : Ev} {apos : Pos} (ho : PE X a (tD X.K Wx f)) (hbase : attributeBase a "bit_length" X.env (eval a X.env) = eval a X.env := by rfl) (hline : (apos.endLine == pos.line) = true := by rfl) :
    PE X (.Call (.Attribute a "bit_length" apos) [] [] pos) (tD X.K Wx (eBits f)) := (pe_bits ho hbase hline).imp fun σ H Q q =>
  tG_one q fun bs R ρ e H w v m r q2 => by
    cases w with
    | loc n => exact q2.elim
    | d x =>
      obtain ⟨z, hz, q2⟩ := okO_ok q2
      have rv : Rep X.K R x v := r
      cases rv with
      | int i =>
        cases hz
        exact ⟨i, rfl, q2.fin m (Rep.int _)⟩
      | _ => cases hz
end
/-! evaluation rules -/
section
variable {α γ : Type} {e : Env} {f f1 f2 : Ev} {w : W} {x y : D} {n k : Nat} {sv : Sv}
def thK (k : Nat) (r : SR) : SR := match r with
  | .nx e1 => nxO (frz k e1)
  | r => r
@[simp] theorem sThen_ev : sThen k sv e = thK k (sv e) := rfl
@[simp] theorem thK_nx : thK k (.nx e) = nxO (frz k e) := rfl
@[simp] theorem thK_rt : thK k (.rt w e) = .rt w e := rfl
@[simp] theorem thK_exn {z : Xn} : thK k (.exn z e) = .exn z e := rfl
@[simp] theorem eRep_ev : eRep k f1 f2 e = b2a (f1 e) f2 (kRep k) := rfl
@[simp] theorem kRep_ev {xs : List D} {j : Int} : kRep k (.d (.lst xs)) (.d (.int j)) e = if -(2 ^ 63) ≤ j ∧ j < 2 ^ 63 ∧ xs.length * j.toNat ≤ sizeLine then newC k (.lst (List.replicate j.toNat xs).flatten) e else .fail := rfl
@[simp] theorem iRr1_ev : iRr1 f e = itK (f e) kRr1 := rfl
@[simp] theorem kRr1_ev {j : Int} : kRr1 (.d (.int j)) e = if -(2 ^ 62) ≤ j ∧ j < 2 ^ 62 then .ok ⟨rangeC (j.toNat - 1) (-1) j.toNat, fun _ => True⟩ e else .fail := rfl
def bitK (r : Rs W) : Rs W := r.bind fun w e1 => match w with | .d x => okO (bitsD x) e1 | _ => .fail
@[simp] theorem eBits_ev : eBits f e = bitK (f e) := rfl
@[simp] theorem bitK_ok {i : Int} : bitK (.ok (.d (.int i)) e) = .ok (.d (.int (Builtin.Int.intBits i : Nat))) e := rfl
end
/-! loops by one turn -/
def turnK (fg : List Nat) (r : SR) : SR := match r with
  | .nx e => .nx (e.clr fg)
  | .ct e => .nx (e.clr fg)
  | r => r
@[simp] theorem turnK_nx {fg : List Nat} {e : Env} : turnK fg (.nx e) = .nx (e.clr fg) := rfl
@[simp] theorem turnK_ct {fg : List Nat} {e : Env} : turnK fg (.ct e) = .nx (e.clr fg) := rfl
@[simp] theorem turnK_rt {fg : List Nat} {e : Env} {w : W} : turnK fg (.rt w e) = .rt w e := rfl
@[simp] theorem turnK_bk {fg : List Nat} {e : Env} : turnK fg (.bk e) = .bk e := rfl
@[simp] theorem turnK_exn {fg : List Nat} {e : Env} {x : Xn} : turnK fg (.exn x e) = .exn x e := rfl
def turnO (fg : List Nat) (o : Option Env) (body : Sv) : SR := match o with
  | some e1 => turnK fg (body e1)
  | none => .fail
@[simp] theorem turnO_some {fg : List Nat} {e : Env} {body : Sv} : turnO fg (some e) body = turnK fg (body e) := rfl
/-- one turn of a for -/
def turn (g : Tg) (body : Sv) (fg : List Nat) (d : D) (e : Env) : SR := turnO fg (g d e) body
@[simp] theorem turn_ev {g : Tg} {body : Sv} {fg : List Nat} {d : D} {e : Env} : turn g body fg d e = turnO fg (g d e) body := rfl
theorem turn_nx {g : Tg} {body : Sv} {fg : List Nat} {d : D} {e e' : Env} (h : turn g body fg d e = .nx e') : ∃ e1 e2, g d e = some e1 ∧ (body e1 = .nx e2 ∨ body e1 = .ct e2) ∧ e2.clr fg = e' := by
  unfold turn turnO at h
  cases hg : g d e with
  | none => rw [hg] at h; cases h
  | some e1 =>
    rw [hg] at h
    have h : turnK fg (body e1) = .nx e' := h
    cases hb : body e1 with
    | nx e2 => rw [hb] at h; cases h; exact ⟨e1, e2, rfl, .inl hb, rfl⟩
    | ct e2 => rw [hb] at h; cases h; exact ⟨e1, e2, rfl, .inr hb, rfl⟩
    | rt w e2 => rw [hb] at h; cases h
    | bk e2 => rw [hb] at h; cases h
    | exn x e2 => rw [hb] at h; cases h
    | fail => rw [hb] at h; cases h
section
variable {it : Env → Rs Itr} {g : Tg} {fg : List Nat} {body : Sv} {items : List D} {chk : Env → Prop}
/-- a for whose states are told by the turn -/
theorem for_e (E : Nat → Env) {e0 e' : Env} (hit : it e0 = .ok ⟨items, chk⟩ (E 0)) (hs : ∀ i d, items[i]? = some d → chk (E i) ∧ turn g body fg d (E i) = .nx (E (i + 1))) (hc : chk (E items.length)) (he : E items.length = e' := by rfl) :
    sFor it g fg body e0 = .nx e' := by
  subst he
  unfold sFor
  rw [hit]
  show forD g chk body fg items (E 0) = _
  obtain ⟨e', h1, h2⟩ := for_inv (g := g) (chk := chk) (body := body) (fg := fg) (items := items) (e := E 0) (fun i e => e = E i) rfl (fun i d e hd he => by
    subst he
    obtain ⟨h1, h2⟩ := hs i d hd
    obtain ⟨e1, e2, q1, q2, q3⟩ := turn_nx h2
    exact ⟨h1, e1, e2, q1, q2, q3⟩) (fun e he => by subst he; exact hc)
  rw [h1, h2]
/-- a for with an invariant over some state S -/
theorem for_i {S : Type} (E : S → Env) (I : Nat → S → Prop) (s0 : S) {e0 : Env} (hit : it e0 = .ok ⟨items, chk⟩ (E s0)) (h0 : I 0 s0)
    (hs : ∀ i d s, items[i]? = some d → I i s → chk (E s) ∧ ∃ s', turn g body fg d (E s) = .nx (E s') ∧ I (i + 1) s') (hc : ∀ s, I items.length s → chk (E s)) :
    ∃ s, sFor it g fg body e0 = .nx (E s) ∧ I items.length s := by
  unfold sFor
  rw [hit]
  show ∃ s, forD g chk body fg items (E s0) = _ ∧ _
  obtain ⟨e', h1, s, rfl, h2⟩ := for_inv (g := g) (chk := chk) (body := body) (fg := fg) (items := items) (e := E s0) (fun i e => ∃ s, e = E s ∧ I i s) ⟨s0, rfl, h0⟩ (fun i d e hd he => by
    obtain ⟨s, rfl, hi⟩ := he
    obtain ⟨h1, s', h2, h3⟩ := hs i d s hd hi
    obtain ⟨e1, e2, q1, q2, q3⟩ := turn_nx h2
    exact ⟨h1, e1, e2, q1, q2, s', q3, h3⟩) (fun e he => by obtain ⟨s, rfl, hi⟩ := he; exact hc s hi)
  exact ⟨s, h1, h2⟩
def outS : SR → Prop
  | .rt _ _ => True
  | .exn _ _ => True
  | _ => False
/-- a for that leaves at its item n: by return or an exception -/
theorem forD_out (E : Nat → Env) {r : SR} (hr : outS r) : ∀ (items : List D) (j n : Nat) (d : D), items[n]? = some d →
    (∀ i d, i < n → items[i]? = some d → chk (E (j + i)) ∧ turn g body fg d (E (j + i)) = .nx (E (j + i + 1))) →
    (chk (E (j + n)) ∧ turn g body fg d (E (j + n)) = r) → forD g chk body fg items (E j) = r
  | [], _, _, _, h, _, _ => by simp at h
  | a :: l, j, 0, d, h, _, hx => by
    have h : a = d := by simpa using h
    subst h
    obtain ⟨h1, h2⟩ := hx
    have h1 : chk (E j) := h1
    have h2 : turn g body fg a (E j) = r := h2
    unfold forD
    rw [if_pos h1]
    unfold turn turnO at h2
    cases hg : g a (E j) with
    | none => rw [hg] at h2; subst h2; exact hr.elim
    | some e1 =>
      rw [hg] at h2
      dsimp only at h2 ⊢
      cases hb : body e1 with
      | nx e2 => rw [hb] at h2; subst h2; exact hr.elim
      | ct e2 => rw [hb] at h2; subst h2; exact hr.elim
      | bk e2 => rw [hb] at h2; subst h2; exact hr.elim
      | rt w e2 => rw [hb] at h2; exact h2
      | exn x e2 => rw [hb] at h2; exact h2
      | fail => rw [hb] at h2; subst h2; exact hr.elim
  | a :: l, j, n + 1, d, h, hs, hx => by
    obtain ⟨h1, h2⟩ := hs 0 a (by omega) rfl
    have h1 : chk (E j) := h1
    obtain ⟨e1, e3, q1, q2, q3⟩ := turn_nx h2
    have q1 : g a (E j) = some e1 := q1
    have go : forD g chk body fg l (E (j + 0 + 1)) = r := forD_out E hr l (j + 0 + 1) n d (by simpa using h) (fun i d' hi hd => by
      have q := hs (i + 1) d' (by omega) (by simpa using hd)
      rw [show j + (i + 1) = j + 0 + 1 + i by omega] at q
      exact q) (by rw [show j + 0 + 1 + n = j + (n + 1) by omega]; exact hx)
    unfold forD
    rw [if_pos h1, q1]
    rcases q2 with q2 | q2
    · simp only [q2]
      rw [q3]
      exact go
    · simp only [q2]
      rw [q3]
      exact go
theorem for_out (E : Nat → Env) {e0 : Env} (r : SR) (n : Nat) (d : D) (hit : it e0 = .ok ⟨items, chk⟩ (E 0)) (hd : items[n]? = some d)
    (hs : ∀ i d, i < n → items[i]? = some d → chk (E i) ∧ turn g body fg d (E i) = .nx (E (i + 1))) (hx : chk (E n) ∧ turn g body fg d (E n) = r) (hr : outS r) : sFor it g fg body e0 = r := by
  unfold sFor
  rw [hit]
  show forD g chk body fg items (E 0) = _
  refine forD_out E hr items 0 n d hd (fun i d hi hd => ?_) ?_
  · rw [Nat.zero_add]; exact hs i d hi hd
  · rw [Nat.zero_add]; exact hx
end
/-! while by one turn -/
section
variable {t : Env → Rs Bool} {fg : List Nat} {body : Sv} {fuel : Env → Nat}
def whT (r : Rs Bool) (body : Sv) (fg : List Nat) : SR := r.to fun k e1 => if k = true then turnK fg (body e1) else .bk e1
@[simp] theorem whT_t {body : Sv} {fg : List Nat} {e : Env} : whT (.ok true e) body fg = turnK fg (body e) := rfl
@[simp] theorem whT_f {body : Sv} {fg : List Nat} {e : Env} : whT (.ok false e) body fg = .bk e := rfl
theorem turnK_inv {r : SR} {e' : Env} (h : turnK fg r = .nx e') : ∃ e2, (r = .nx e2 ∨ r = .ct e2) ∧ e2.clr fg = e' := by
  cases r with
  | nx e2 => cases h; exact ⟨e2, .inl rfl, rfl⟩
  | ct e2 => cases h; exact ⟨e2, .inr rfl, rfl⟩
  | rt w e2 => cases h
  | bk e2 => cases h
  | exn x e2 => cases h
  | fail => cases h
theorem whD_i {S : Type} (E : S → Env) (I : S → Prop) (μ : S → Nat) (Z : SR → Prop) (hs : ∀ s, I s → (∃ s', whT (t (E s)) body fg = .nx (E s') ∧ I s' ∧ μ s' < μ s) ∨ (∃ e1, whT (t (E s)) body fg = .bk e1 ∧ Z (.nx e1)) ∨ (∃ w e1, whT (t (E s)) body fg = .rt w e1 ∧ Z (.rt w e1)) ∨ (∃ x e1, whT (t (E s)) body fg = .exn x e1 ∧ Z (.exn x e1))) :
    ∀ (n : Nat) (s : S), I s → μ s < n → Z (whD t body fg n (E s))
  | 0, s, _, h => absurd h (Nat.not_lt_zero _)
  | n + 1, s, h, hn => by
    have H := hs s h
    unfold whD
    unfold whT at H
    cases ht : t (E s) with
    | fail => simp only [ht, Rs.to] at H; rcases H with ⟨_, h, _⟩ | ⟨_, h, _⟩ | ⟨_, _, h, _⟩ | ⟨_, _, h, _⟩ <;> cases h
    | exn x e1 =>
      simp only [ht, Rs.to] at H ⊢
      rcases H with ⟨_, h, _⟩ | ⟨_, h, _⟩ | ⟨_, _, h, _⟩ | ⟨_, _, h, z⟩
      · cases h
      · cases h
      · cases h
      · cases h; exact z
    | ok k e1 =>
      simp only [ht, Rs.to] at H ⊢
      cases k with
      | false =>
        simp only [Bool.false_eq_true, if_false] at H ⊢
        rcases H with ⟨_, h, _⟩ | ⟨_, h, z⟩ | ⟨_, _, h, _⟩ | ⟨_, _, h, z⟩
        · cases h
        · cases h; exact z
        · cases h
        · cases h
      | true =>
        simp only [if_true] at H ⊢
        cases hb : body e1 with
        | nx e2 =>
          simp only [hb, turnK_nx] at H ⊢
          rcases H with ⟨s', h, i, l⟩ | ⟨_, h, z⟩ | ⟨_, _, h, _⟩ | ⟨_, _, h, z⟩
          · have h := SR.nx.inj h
            rw [h]
            exact whD_i E I μ Z hs n s' i (by omega)
          · cases h
          · cases h
          · cases h
        | ct e2 =>
          simp only [hb, turnK_ct] at H ⊢
          rcases H with ⟨s', h, i, l⟩ | ⟨_, h, z⟩ | ⟨_, _, h, _⟩ | ⟨_, _, h, z⟩
          · have h := SR.nx.inj h
            rw [h]
            exact whD_i E I μ Z hs n s' i (by omega)
          · cases h
          · cases h
          · cases h
        | bk e2 =>
          simp only [hb, turnK_bk] at H ⊢
          rcases H with ⟨s', h, i, l⟩ | ⟨_, h, z⟩ | ⟨_, _, h, _⟩ | ⟨_, _, h, z⟩
          · cases h
          · cases h; exact z
          · cases h
          · cases h
        | rt w e2 =>
          simp only [hb, turnK_rt] at H ⊢
          rcases H with ⟨s', h, i, l⟩ | ⟨_, h, z⟩ | ⟨_, _, h, z⟩ | ⟨_, _, h, z⟩
          · cases h
          · cases h
          · cases h; exact z
          · cases h
        | exn x e2 =>
          simp only [hb, turnK_exn] at H ⊢
          rcases H with ⟨s', h, i, l⟩ | ⟨_, h, z⟩ | ⟨_, _, h, z⟩ | ⟨_, _, h, z⟩
          · cases h
          · cases h
          · cases h
          · cases h; exact z
        | fail =>
          simp only [hb] at H
          rcases H with ⟨_, h, _⟩ | ⟨_, h, _⟩ | ⟨_, _, h, _⟩ | ⟨_, _, h, _⟩ <;> cases h
/-- a while: an invariant over some state S, a number that falls, what the end says -/
theorem while_i {S : Type} (E : S → Env) (I : S → Prop) (μ : S → Nat) (Z : SR → Prop) (s0 : S) (h0 : I s0) (hn : μ s0 < fuel (E s0))
    (hs : ∀ s, I s → (∃ s', whT (t (E s)) body fg = .nx (E s') ∧ I s' ∧ μ s' < μ s) ∨ (∃ e1, whT (t (E s)) body fg = .bk e1 ∧ Z (.nx e1)) ∨ (∃ w e1, whT (t (E s)) body fg = .rt w e1 ∧ Z (.rt w e1)) ∨ (∃ x e1, whT (t (E s)) body fg = .exn x e1 ∧ Z (.exn x e1))) :
    Z (sWhile fuel t fg body (E s0)) := whD_i E I μ Z hs _ s0 h0 hn
end
/-! comprehensions by one turn -/
def pushR (k : Nat) (vs : List Nat) (w : W) (e : Env) : Rs Unit := match pushK k w e with | some e4 => .ok () (e4.clr vs) | none => .fail
def lcT2 (f : Ev) (k : Nat) (vs : List Nat) (r : Rs Bool) : Rs Unit := r.bindF fun c e2 => if c = true then (f e2).bindF (pushR k vs) else .ok () (e2.clr vs)
def lcT1 (o : Option Env) (t : Env → Rs Bool) (f : Ev) (k : Nat) (vs : List Nat) : Rs Unit := match o with
  | some e1 => lcT2 f k vs (t e1)
  | none => .fail
/-- one turn of a comprehension -/
def lcT (g : Tg) (t : Env → Rs Bool) (f : Ev) (k : Nat) (vs : List Nat) (d : D) (e : Env) : Rs Unit := lcT1 (g d (e.clr vs)) t f k vs
def lcT3 (k : Nat) (vs : List Nat) (r : Rs W) : Rs Unit := r.bindF (pushR k vs)
section
variable {g : Tg} {t : Env → Rs Bool} {f : Ev} {k : Nat} {vs : List Nat} {d : D} {e : Env} {w : W}
@[simp] theorem lcT_ev : lcT g t f k vs d e = lcT1 (g d (e.clr vs)) t f k vs := rfl
@[simp] theorem lcT1_some : lcT1 (some e) t f k vs = lcT2 f k vs (t e) := rfl
@[simp] theorem lcT2_t : lcT2 f k vs (.ok true e) = lcT3 k vs (f e) := rfl
@[simp] theorem lcT2_f : lcT2 f k vs (.ok false e) = .ok () (e.clr vs) := rfl
@[simp] theorem lcT3_ok {x : D} : lcT3 k vs (.ok (.d x) e) = match e.cell k with | some (.lst acc) => if acc.length < sizeLine then .ok () ((e.setC k (some (.lst (acc ++ [x])))).clr vs) else .fail | _ => .fail := by
  show pushR k vs (.d x) e = _
  unfold pushR
  rw [pushK_ev]
  cases e.cell k with
  | none => rfl
  | some c =>
    cases c with
    | lst acc => by_cases h : acc.length < sizeLine
                 · simp only [if_pos h]
                 · simp only [if_neg h]
    | _ => rfl
theorem lcT_inv {e' : Env} (h : lcT g t f k vs d e = .ok () e') : ∃ e1, g d (e.clr vs) = some e1 ∧
    ((∃ e2 w e3 e4, t e1 = .ok true e2 ∧ f e2 = .ok w e3 ∧ pushK k w e3 = some e4 ∧ e4.clr vs = e') ∨ ∃ e2, t e1 = .ok false e2 ∧ e2.clr vs = e') := by
  unfold lcT lcT1 at h
  cases hg : g d (e.clr vs) with
  | none => rw [hg] at h; cases h
  | some e1 =>
    rw [hg] at h
    refine ⟨e1, rfl, ?_⟩
    have h : lcT2 f k vs (t e1) = .ok () e' := h
    cases ht : t e1 with
    | fail => rw [ht] at h; cases h
    | exn x e2 => rw [ht] at h; cases h
    | ok c e2 =>
      rw [ht] at h
      cases c with
      | false => cases h; exact .inr ⟨e2, rfl, rfl⟩
      | true =>
        have h : (f e2).bindF (pushR k vs) = .ok () e' := h
        cases hf : f e2 with
        | fail => rw [hf] at h; cases h
        | exn x e3 => rw [hf] at h; cases h
        | ok w e3 =>
          rw [hf] at h
          have h : pushR k vs w e3 = .ok () e' := h
          unfold pushR at h
          cases hp : pushK k w e3 with
          | none => rw [hp] at h; cases h
          | some e4 => rw [hp] at h; cases h; exact .inl ⟨e2, w, e3, e4, rfl, hf, hp, rfl⟩
end
section
variable {it : Env → Rs Itr} {g : Tg} {t : Env → Rs Bool} {f : Ev} {k : Nat} {keep : Bool} {vs : List Nat} {items : List D} {chk : Env → Prop}
theorem comp_i {S : Type} (E : S → Env) (I : Nat → S → Prop) (s0 : S) {e0 e1 : Env} (hit : it e0 = .ok ⟨items, chk⟩ e1) (ho : e1.open k = true) (hE : e1.setC k (some (.lst [])) = E s0) (h0 : I 0 s0)
    (hs : ∀ i d s, items[i]? = some d → I i s → chk (E s) ∧ ∃ s', lcT g t f k vs d (E s) = .ok () (E s') ∧ I (i + 1) s') (hc : ∀ s, I items.length s → chk (E s)) :
    ∃ s, eLc it g t f k keep vs e0 = endL keep k (E s) ∧ I items.length s := by
  unfold eLc
  rw [hit]
  show ∃ s, (if e1.open k = true then _ else _) = _ ∧ _
  rw [if_pos ho, hE]
  obtain ⟨e', h1, s, rfl, h2⟩ := lc_inv (g := g) (chk := chk) (t := t) (f := f) (k := k) (vs := vs) (items := items) (e := E s0) (fun i e => ∃ s, e = E s ∧ I i s) ⟨s0, rfl, h0⟩ (fun i d e hd he => by
    obtain ⟨s, rfl, hi⟩ := he
    obtain ⟨h1, s', h2, h3⟩ := hs i d s hd hi
    obtain ⟨e1, q1, q2⟩ := lcT_inv h2
    refine ⟨h1, e1, q1, ?_⟩
    rcases q2 with ⟨e2, w, e3, e4, a, b, c, z⟩ | ⟨e2, a, z⟩
    · exact .inl ⟨e2, w, e3, e4, a, b, c, s', z, h3⟩
    · exact .inr ⟨e2, a, s', z, h3⟩) (fun e he => by obtain ⟨s, rfl, hi⟩ := he; exact hc s hi)
  refine ⟨s, ?_, h2⟩
  rw [h1]
  rfl
/-- a comprehension that reads alone: its list -/
theorem comp_e (h : D → Option D) {e0 e1 : Env} {n : Nat} (hit : it e0 = .ok ⟨items, chk⟩ e1) (ho : e1.open k = true) (hl : items.length ≤ n) (hn : n ≤ sizeLine) (hv : e1.clr vs = e1)
    (hs : ∀ (i : Nat) d (acc : List D), items[i]? = some d → acc.length < n → chk (e1.setC k (some (.lst acc))) ∧ lcT g t f k vs d (e1.setC k (some (.lst acc))) = .ok () (e1.setC k (some (.lst (acc ++ (h d).toList))))) (hc : ∀ acc, chk (e1.setC k (some (.lst acc)))) :
    eLc it g t f k keep vs e0 = endL keep k (e1.setC k (some (.lst (items.filterMap h)))) := by
  obtain ⟨s, h1, h2⟩ := comp_i (keep := keep) (items := items) (chk := chk) (fun acc : List D => e1.setC k (some (.lst acc))) (fun i acc => acc = (items.take i).filterMap h) [] hit ho rfl (by simp) (fun i d acc hd hi => by
    have hlt : i < items.length := (List.getElem?_eq_some_iff.mp hd).1
    have hal : acc.length ≤ i := by
      rw [hi]
      exact Nat.le_trans (List.length_filterMap_le _ _) (by simp; omega)
    obtain ⟨q1, q2⟩ := hs i d acc hd (by omega)
    refine ⟨q1, _, q2, ?_⟩
    rw [List.take_add_one, List.filterMap_append, ← hi, hd]
    cases hh : h d with
    | none => simp [hh]
    | some x => simp [hh]) (fun acc _ => hc acc)
  rw [h1, h2, List.take_length]
end
end Dl
end
section
set_option Elab.async false
set_option linter.all false
set_option maxRecDepth 100000
set_option maxHeartbeats 8000000
namespace Dl
open PySem L2
/-- the addresses of the classes -/
structure Cs where
  TopiaryError : Addr
  InvalidRow : Addr
  InvalidPlace : Addr
  Bits : Addr
  InvalidSize : Addr
  InvalidSymbol : Addr
  Wave : Addr
  InvalidStretch : Addr
  NotTurned : Addr
  InvalidText : Addr
  UnknownText : Addr
  InvalidStep : Addr
  InvalidPart : Addr
  Finder : Addr
  TextError : Addr
  TooLarge : Addr
  DocumentReader : Addr
  InvalidRows : Addr
  InvalidDocument : Addr
  Rows : Addr
  Gatherer : Addr
  Builder : Addr
  Kept : Addr
  InvalidQuestion : Addr
  QuestionReader : Addr
  ImproperQuestion : Addr
  Evaluation : Addr
  Meaning : Addr
  FilteredQuestion : Addr
  Comparison : Addr
  InvalidEdit : Addr
  View : Addr
  Layers : Addr
  Search : Addr
  InvalidCounts : Addr
  InvalidLengths : Addr
  InvalidBox : Addr
  Loader : Addr
  InvalidLine : Addr
  Desk : Addr
  fn_node_at : Addr
  fn_parent_of : Addr
  fn_children_of : Addr
  fn_depth_of : Addr
  fn_upward_path : Addr
  fn_depth : Addr
  fn_family : Addr
  fn_name : Addr
  fn_node_of : Addr
  fn_parent : Addr
  fn_place : Addr
  fn_row_of : Addr
  fn_subtree : Addr
  fn_text : Addr
  fn_weight : Addr
  fn_upward : Addr
  fn_found_from : Addr
  fn_nodes : Addr
  fn_nodes_kept : Addr
  fn_compare : Addr
  fn_takes : Addr
  fn_places_after : Addr
  fn_edited : Addr
  fn_taken_back : Addr
  gd_SIGNS_writer : Addr
  gd_ESCAPES : Addr
  gd_NUMBERS : Addr
end Dl
end
section
set_option Elab.async false
set_option linter.all false
set_option maxRecDepth 100000
set_option maxHeartbeats 4000000
namespace LiZ
open PySem PySem.Spec PySem.Calls PyProof.Rows L2
theorem nolen_zip : typeLookup (.type "zip") "__len__" = pure none := by rw [typeLookup_type, builtinLookup_eq_fast]; kernel_rfl
theorem nohint_zip : typeLookup (.type "zip") "__length_hint__" = pure none := by rw [typeLookup_type, builtinLookup_eq_fast]; kernel_rfl
/-- the tuples that a zip gave out, in order -/
structure ZlG (xs ys : Array Value) (lo : Addr) (h : Heap) (as : List Addr) : Prop where
  rise : as.Pairwise (· < ·)
  above : ∀ a ∈ as, lo < a
  pairs : ∀ (j : Nat) (a : Addr), as[j]? = some a → ∃ x y, xs[j]? = some x ∧ ys[j]? = some y ∧ IsPair h a x y
theorem ZlG.there {xs ys : Array Value} {lo : Addr} {h : Heap} {as : List Addr} (g : ZlG xs ys lo h as) {a : Addr} (ha : a ∈ as) : a < h.objs.size := by
  obtain ⟨j, hj⟩ := List.mem_iff_getElem?.mp ha
  obtain ⟨_, _, _, _, e⟩ := g.pairs j a hj
  exact Heap.lt_size e
def ZSt (z TI TO i1 i2 l1 l2 S : Addr) (xs ys : Array Value) (i : Nat) (h : Heap) : Prop :=
  IsPair h TI (.ref i1) (.ref i2) ∧ h.IsListIter i1 l1 i ∧ h.IsListIter i2 l2 i ∧ h.IsList l1 xs ∧ h.IsList l2 ys ∧
    ((IsZip h z TI TO .none ∧ ∃ a b, IsPair h TO a b) ∨ ∃ T f oT, IsZipHeld h z TI TO T f ∧ h.get? T = some oT ∧ T ≠ z ∧ T ≠ i1 ∧ T ≠ i2 ∧ T ≠ S)
structure Below (z TI TO i1 i2 l1 l2 S : Addr) : Prop where
  z : z < S
  TI : TI < S
  TO : TO < S
  i1 : i1 < S
  i2 : i2 < S
  l1 : l1 < S
  l2 : l2 < S
section
variable {z TI TO i1 i2 l1 l2 S : Addr} {xs ys : Array Value}
theorem ZSt.keep {i : Nat} {h h' : Heap} (B : Below z TI TO i1 i2 l1 l2 S) (st : ZSt z TI TO i1 i2 l1 l2 S xs ys i h) (hk : ∀ b o, b ≠ S → h.get? b = some o → h'.get? b = some o) : ZSt z TI TO i1 i2 l1 l2 S xs ys i h' := by
  obtain ⟨hTI, h1, h2, hl1, hl2, hz⟩ := st
  refine ⟨hk _ _ (Nat.ne_of_lt B.TI) hTI, h1.at fun o e => hk _ o (Nat.ne_of_lt B.i1) e, h2.at fun o e => hk _ o (Nat.ne_of_lt B.i2) e, hl1.at fun o e => hk _ o (Nat.ne_of_lt B.l1) e, hl2.at fun o e => hk _ o (Nat.ne_of_lt B.l2) e, ?_⟩
  rcases hz with ⟨hz, a, b, hTO⟩ | ⟨T, f, oT, hz, hT, r1, r2, r3, r4⟩
  · exact .inl ⟨hk _ _ (Nat.ne_of_lt B.z) hz, a, b, hk _ _ (Nat.ne_of_lt B.TO) hTO⟩
  · exact .inr ⟨T, f, oT, hk _ _ (Nat.ne_of_lt B.z) hz, hk _ _ r4 hT, r1, r2, r3, r4⟩
variable {prog : Program} {w : World} {A : Around} {E : Value → Shared → Prop} {s : Shared}
theorem zl_item {i : Nat} {Q : Option Value → Shared → Prop} (D : ZipApart z TI TO i1 i2 l1 l2) (st : ZSt z TI TO i1 i2 l1 l2 S xs ys i s.heap) (hS : S < s.heap.objs.size) (hi : i < min xs.size ys.size)
    (hQ : ∀ h' x y, xs[i]? = some x → ys[i]? = some y → ZSt z TI TO i1 i2 l1 l2 S xs ys (i + 1) h' → IsPair h' s.heap.objs.size x y → h'.objs.size = s.heap.objs.size + 1 →
      (∀ b o, b ≠ z → b ≠ TO → b ≠ i1 → b ≠ i2 → s.heap.get? b = some o → h'.get? b = some o) → Q (some (.ref s.heap.objs.size)) { s with heap := h' }) :
    wpAny (model prog w) A (pyNext (.ref z)) Q E s := by
  obtain ⟨hTI, h1, h2, hl1, hl2, hz⟩ := st
  have hix : i < xs.size := Nat.lt_of_lt_of_le hi (Nat.min_le_left ..)
  have hiy : i < ys.size := Nat.lt_of_lt_of_le hi (Nat.min_le_right ..)
  have ex := Array.getElem?_eq_getElem hix
  have ey := Array.getElem?_eq_getElem hiy
  have lt : ∀ {c o}, s.heap.get? c = some o → s.heap.objs.size ≠ c := fun e => Nat.ne_of_gt (Heap.lt_size e)
  have n1 : s.heap.objs.size ≠ i1 := let ⟨_, e, _⟩ := h1; lt e
  have n2 : s.heap.objs.size ≠ i2 := let ⟨_, e, _⟩ := h2; lt e
  rcases hz with ⟨hz, a, b, hTO⟩ | ⟨T, f, oT, hz, hT, r1, r2, r3, r4⟩
  · refine wpAny_pyNext_zip_item D hz hTI hTO h1 h2 hl1 hl2 ex ey fun h' a1 a2 a3 a4 a5 a6 hk => ?_
    exact hQ h' _ _ ex ey ⟨hk _ _ D.TIz D.TITO D.TIi1 D.TIi2 hTI, a3, a4, hl1.at fun o e => hk _ o D.l1z D.l1TO D.l1i1 D.l1i2 e, hl2.at fun o e => hk _ o D.l2z D.l2TO D.l2i1 D.l2i2 e,
        .inr ⟨s.heap.objs.size, false, _, a1, a5, lt hz, n1, n2, Nat.ne_of_gt hS⟩⟩ a5 a6 hk
  · refine wpAny_pyNext_zip_item_held D hz hT hTI h1 h2 hl1 hl2 ex ey fun h' a1 a3 a4 a5 a6 hk => ?_
    exact hQ h' _ _ ex ey ⟨hk _ _ D.TIz D.TIi1 D.TIi2 hTI, a3, a4, hl1.at fun o e => hk _ o D.l1z D.l1i1 D.l1i2 e, hl2.at fun o e => hk _ o D.l2z D.l2i1 D.l2i2 e,
        .inr ⟨T, true, oT, a1, hk _ _ r1 r2 r3 hT, r1, r2, r3, r4⟩⟩ a5 a6 fun b o q1 _ q3 q4 e => hk b o q1 q3 q4 e
theorem zl_done {i : Nat} {Q : Option Value → Shared → Prop} (hh : A.handled = none) (D : ZipApart z TI TO i1 i2 l1 l2) (st : ZSt z TI TO i1 i2 l1 l2 S xs ys i s.heap) (hi : min xs.size ys.size ≤ i)
    (hQ : ∀ h', (∀ b o, b ≠ z → b ≠ TO → b ≠ i1 → b ≠ i2 → s.heap.get? b = some o → h'.get? b = some o) → Q none { s with heap := h' }) : wpAny (model prog w) A (pyNext (.ref z)) Q E s := by
  obtain ⟨hTI, h1, h2, hl1, hl2, hz⟩ := st
  have hend : xs[i]? = none ∨ ys[i]? = none := by
    rcases Nat.le_total xs.size ys.size with h | h
    · exact .inl (Array.getElem?_eq_none (by omega))
    · exact .inr (Array.getElem?_eq_none (by omega))
  rcases hz with ⟨hz, a, b, hTO⟩ | ⟨T, f, oT, hz, hT, r1, r2, r3, r4⟩
  · exact wpAny_pyNext_zip_end hh D hz hTI hTO h1 h2 hl1 hl2 hend fun h' hk => hQ h' hk
  · exact wpAny_pyNext_zip_end_held hh D hz hT hTI h1 h2 hl1 hl2 hend fun h' hk => hQ h' fun b o q1 _ q3 q4 e => hk b o q1 q3 q4 e
theorem zl_loop {R : Result → Shared → Prop} (hh : A.handled = none) (D : ZipApart z TI TO i1 i2 l1 l2) (B : Below z TI TO i1 i2 l1 l2 S) (hn : min xs.size ys.size ≤ sizeLine) (res : Value) {h₁ : Heap}
    (hR : ∀ h' tk acc c as, (∀ b o, b ≠ S → b ≠ z → b ≠ TO → b ≠ i1 → b ≠ i2 → h₁.get? b = some o → h'.get? b = some o) → h'.get? S = some { cls := .type "list", dict := none, data := .seq acc c, slots := #[] } → as.length = min xs.size ys.size → ZlG xs ys S h' as →
      acc.toList = as.map Value.ref → R (.ok (.ret res)) { s with heap := h', toks := tk }) :
    ∀ (k i : Nat) (h : Heap) (tk c : Nat) (acc : Array Value) (as : List Addr), min xs.size ys.size - i = k → i ≤ min xs.size ys.size → ZSt z TI TO i1 i2 l1 l2 S xs ys i h → (∀ b o, b ≠ S → b ≠ z → b ≠ TO → b ≠ i1 → b ≠ i2 → h₁.get? b = some o → h.get? b = some o) →
      h.get? S = some { cls := .type "list", dict := none, data := .seq acc c, slots := #[] } → acc.toList = as.map Value.ref → as.length = i → ZlG xs ys S h as →
      codeAny (model prog w) A (.builtin "list.extend.loop" ⟨[.ref S, .ref z, res], []⟩) R { s with heap := h, toks := tk } := by
  intro k
  have nS : S ≠ z ∧ S ≠ TO ∧ S ≠ i1 ∧ S ≠ i2 := ⟨Nat.ne_of_gt B.z, Nat.ne_of_gt B.TO, Nat.ne_of_gt B.i1, Nat.ne_of_gt B.i2⟩
  have nA : ∀ {a : Addr}, S < a → a ≠ S ∧ a ≠ z ∧ a ≠ TO ∧ a ≠ i1 ∧ a ≠ i2 := fun ha => ⟨Nat.ne_of_gt ha, Nat.ne_of_gt (Nat.lt_trans B.z ha), Nat.ne_of_gt (Nat.lt_trans B.TO ha), Nat.ne_of_gt (Nat.lt_trans B.i1 ha), Nat.ne_of_gt (Nat.lt_trans B.i2 ha)⟩
  induction k with
  | zero =>
    intro i h tk c acc as hk hi hst hkeep hS hacc hal hG
    refine codeAny_builtin PySem.F.entry_extend_loop ?_
    rw [Around.under_plainId PySem.F.plain_extend_loop _]
    show wpAny _ A.in1 (pyNext (.ref z) >>= _) _ _ _
    refine wpAny_bind (zl_done (s := { s with heap := h, toks := tk }) (A := A.in1) hh D hst (by omega) fun h' he => ?_)
    refine wpAny_pure (hR h' tk acc c as (fun b o q0 q1 q2 q3 q4 e => he b o q1 q2 q3 q4 (hkeep b o q0 q1 q2 q3 q4 e)) (he S _ nS.1 nS.2.1 nS.2.2.1 nS.2.2.2 hS) (by omega) ⟨hG.rise, hG.above, fun j a hj => ?_⟩ hacc)
    obtain ⟨x, y, e1, e2, e3⟩ := hG.pairs j a hj
    obtain ⟨_, q1, q2, q3, q4⟩ := nA (hG.above a (List.mem_of_getElem? hj))
    exact ⟨x, y, e1, e2, he a _ q1 q2 q3 q4 e3⟩
  | succ k ih =>
    intro i h tk c acc as hk hi hst hkeep hS hacc hal hG
    have hlt : i < min xs.size ys.size := by omega
    have hsz : acc.size = i := by rw [← Array.length_toList, hacc, List.length_map, hal]
    refine codeAny_builtin PySem.F.entry_extend_loop ?_
    rw [Around.under_plainId PySem.F.plain_extend_loop _]
    show wpAny _ A.in1 (pyNext (.ref z) >>= _) _ _ _
    refine wpAny_bind (zl_item (s := { s with heap := h, toks := tk }) D hst (Heap.lt_size hS) hlt fun h' x y ex ey hst' ht hz hkp => ?_)
    dsimp only at ht hz hkp ⊢
    have hS' := hkp S _ nS.1 nS.2.1 nS.2.2.1 nS.2.2.2 hS
    have up : ∀ b o, b ≠ S → h'.get? b = some o → (h'.update S (Obj.mapSeq (·.push (Value.ref h.objs.size)))).get? b = some o := fun b o hb e => (Heap.get?_update_other _ _ (Ne.symm hb)).trans e
    have hSl : S < h.objs.size := Heap.lt_size hS
    show wpAny _ A.in1 (updateSeq S (·.push (Value.ref h.objs.size)) >>= _) _ _ _
    refine wpAny_bind ?_
    refine wpAny_updateSeq hS' rfl (wpAny_pure ⟨plainId_quiet PySem.F.plain_extend_loop _, ih (i + 1) _ tk _ (acc.push (Value.ref h.objs.size)) (as ++ [h.objs.size]) (by omega) hlt (hst'.keep B up)
      (fun b o q0 q1 q2 q3 q4 e => up b o q0 (hkp b o q1 q2 q3 q4 (hkeep b o q0 q1 q2 q3 q4 e))) (Heap.get?_update_self _ hS' rfl) (by rw [Array.toList_push, hacc, List.map_append]; rfl) (by rw [List.length_append, hal]; rfl) ⟨?_, ?_, ?_⟩⟩) (by rw [hsz]; omega) (by rw [Array.size_push, hsz]; omega)
    · refine List.pairwise_append.mpr ⟨hG.rise, List.pairwise_singleton _ _, fun a ha b hb => ?_⟩
      rw [List.mem_singleton.mp hb]
      exact hG.there ha
    · intro a ha
      rcases List.mem_append.mp ha with ha | ha
      · exact hG.above a ha
      · rw [List.mem_singleton.mp ha]; exact hSl
    · intro j b hj
      rcases Nat.lt_trichotomy j as.length with g1 | g1 | g1
      · rw [List.getElem?_append_left g1] at hj
        obtain ⟨x', y', f1, f2, e3⟩ := hG.pairs j b hj
        obtain ⟨q0, q1, q2, q3, q4⟩ := nA (hG.above b (List.mem_of_getElem? hj))
        exact ⟨x', y', f1, f2, up b _ q0 (hkp b _ q1 q2 q3 q4 e3)⟩
      · subst g1
        have hb : h.objs.size = b := by simpa using hj
        subst hb
        subst hal
        exact ⟨x, y, ex, ey, up _ _ (Nat.ne_of_gt hSl) ht⟩
      · have hnone : (as ++ [h.objs.size])[j]? = none := List.getElem?_eq_none (by rw [List.length_append, List.length_singleton]; omega)
        rw [hnone] at hj; cases hj
theorem zl_extend {R : Result → Shared → Prop} (hh : A.handled = none) (D : ZipApart z TI TO i1 i2 l1 l2) (B : Below z TI TO i1 i2 l1 l2 S) (hn : min xs.size ys.size ≤ sizeLine) (st : ZSt z TI TO i1 i2 l1 l2 S xs ys 0 s.heap) (hz0 : ∃ f0, IsZip s.heap z TI TO f0) (res : Value) (c₀ : Nat) (hS : s.heap.get? S = some { cls := .type "list", data := .seq #[] c₀ })
    (hR : ∀ h' tk acc c as, (∀ b o, b ≠ S → b ≠ z → b ≠ TO → b ≠ i1 → b ≠ i2 → s.heap.get? b = some o → h'.get? b = some o) → h'.get? S = some { cls := .type "list", dict := none, data := .seq acc c, slots := #[] } → as.length = min xs.size ys.size → ZlG xs ys S h' as →
      acc.toList = as.map Value.ref → R (.ok (.ret res)) { s with heap := h', toks := tk }) :
    wpAny (model prog w) A.in1 (Builtin.List.listExtendWith (.ref S) (.ref z) res)
      (fun fin s' => match fin with | .done f => R (.ok f) s' | .again c' => c'.quiet = true ∧ codeAny (model prog w) A c' R s') (fun e s' => R (.error e) s') s := by
  obtain ⟨f0, hz0⟩ := hz0
  have hT : s.TypeIs (.ref z) "zip" := ⟨_, hz0, rfl⟩
  unfold Builtin.List.listExtendWith
  refine wpAny_bind (wpAny_typeOf hT ?_)
  have h1 : Builtin.List.listSameRef (.ref S) (.ref z) = false := by simp [Builtin.List.listSameRef, Nat.ne_of_gt B.z]
  have h2 : (Value.type "zip" == Value.type "list") = false := by decide
  have h3 : (Value.type "zip" == Value.type "tuple") = false := by decide
  simp only [h1, h2, h3, Bool.or_false, Bool.false_eq_true, if_false]
  refine wpAny_bind (wpAny_pyIter_zip hz0 ?_)
  refine wpAny_bind (wpAny_holding ?_)
  unfold Builtin.List.listLengthHint
  refine wpAny_bind (wpAny_specialOf hT nolen_zip ?_)
  show wpAny _ A.in1 (specialOf (Value.ref z) (Str.ofString "__length_hint__") >>= _) _ _ _
  refine wpAny_bind (wpAny_specialOf hT nohint_zip ?_)
  refine wpAny_pure ?_
  show wpAny _ A.in1 (rule "list.extend.makes-room" >>= fun _ => Builtin.List.listTouch (.ref S) >>= fun _ =>
    again (.builtin "list.extend.loop" ⟨[.ref S, .ref z, res], []⟩)) _ _ _
  refine wpAny_bind (wpAny_rule ?_)
  refine wpAny_bind ?_
  show wpAny _ A.in1 (updateSeq S (·.push .none) >>= fun _ => updateSeq S (·.pop)) _ _ _
  refine wpAny_bind (wpAny_updateSeq hS rfl ?_)
  have hS₂ := Heap.get?_update_self (Obj.mapSeq (·.push Value.none)) hS rfl
  refine wpAny_updateSeq (hz := by seq_fits) hS₂ rfl ?_
  have hS₃ := Heap.get?_update_self (Obj.mapSeq (·.pop)) hS₂ rfl
  have oth : ∀ b o, b ≠ S → s.heap.get? b = some o → ((s.heap.update S (Obj.mapSeq (·.push Value.none))).update S (Obj.mapSeq (·.pop))).get? b = some o :=
    fun b o hb e => (Heap.get?_update_other _ _ (Ne.symm hb)).trans ((Heap.get?_update_other _ _ (Ne.symm hb)).trans e)
  refine wpAny_pure ⟨plainId_quiet PySem.F.plain_extend_loop _, ?_⟩
  exact zl_loop (h₁ := s.heap) hh D B hn res hR (min xs.size ys.size) 0 _ _ _ #[] [] (Nat.sub_zero _) (Nat.zero_le _) (st.keep B oth) (fun b o q0 _ _ _ _ e => oth b o q0 e) hS₃ rfl rfl
    ⟨List.Pairwise.nil, (fun _ ha => nomatch ha), (fun j a hj => by simp at hj)⟩
theorem zl_call {Q : Value → Shared → Prop} (hh : A.handled = none) (D : ZipApart z TI TO i1 i2 l1 l2) (B : Below z TI TO i1 i2 l1 l2 s.heap.objs.size) (hn : min xs.size ys.size ≤ sizeLine)
    (st : IsPair s.heap TI (.ref i1) (.ref i2) ∧ s.heap.IsListIter i1 l1 0 ∧ s.heap.IsListIter i2 l2 0 ∧ s.heap.IsList l1 xs ∧ s.heap.IsList l2 ys) (hz0 : IsZip s.heap z TI TO .none) (hTO : ∃ a b, IsPair s.heap TO a b)
    (hQ : ∀ h' tk acc c as, (∀ b o, b ≠ z → b ≠ TO → b ≠ i1 → b ≠ i2 → s.heap.get? b = some o → h'.get? b = some o) → h'.get? s.heap.objs.size = some { cls := .type "list", dict := none, data := .seq acc c, slots := #[] } → as.length = min xs.size ys.size → ZlG xs ys s.heap.objs.size h' as →
      acc.toList = as.map Value.ref → Q (.ref s.heap.objs.size) { s with heap := h', toks := tk }) :
    wpAny (model prog w) A (call (.type "list") [.ref z]) Q E s := by
  refine callType_codes (Q₁ := fun obj s₁ => obj = .ref s.heap.objs.size ∧ s₁ = { s with heap := s.heap.push { cls := .type "list", data := .seq #[] } }) PySem.F.called_list (PySem.F.typeCall_list_1 _) PySem.F.entry_list_init
    (code_list_new _ ⟨rfl, rfl⟩) fun obj s₁ h₁ => ?_
  obtain ⟨rfl, rfl⟩ := h₁
  have hS : (s.heap.push { cls := .type "list", data := .seq #[] }).get? s.heap.objs.size = some { cls := .type "list", data := .seq #[] } := Heap.get?_push_size _ rfl
  refine ⟨⟨_, hS, rfl⟩, PySem.F.args_list_init_2 _ _, ?_⟩
  show wpAny _ _ (do let old ← Builtin.List.listItems (.ref s.heap.objs.size); Builtin.List.listUpdate (.ref s.heap.objs.size) (fun _ => #[]); letGo old.toList.reverse; Builtin.List.listExtendWith (.ref s.heap.objs.size) (.ref z) .none) _ _ _
  refine wpAny_bind ?_
  unfold Builtin.List.listItems
  refine wpAny_bind (wpAny_seqItems hS rfl (wpAny_pure ?_))
  show wpAny _ _ (updateSeq s.heap.objs.size (fun _ => #[]) >>= fun _ => letGo (#[] : Array Value).toList.reverse >>= fun _ => Builtin.List.listExtendWith (.ref s.heap.objs.size) (.ref z) .none) _ _ _
  refine wpAny_bind (wpAny_updateSeq hS rfl ?_)
  have hS₂ := Heap.get?_update_self (Obj.mapSeq (fun _ => (#[] : Array Value))) hS rfl
  have oth : ∀ b o, b ≠ s.heap.objs.size → s.heap.get? b = some o → ((s.heap.push { cls := .type "list", data := .seq #[] }).update s.heap.objs.size (Obj.mapSeq (fun _ => (#[] : Array Value)))).get? b = some o :=
    fun b o hb e => (Heap.get?_update_other _ _ (Ne.symm hb)).trans (Heap.get?_push_of_some _ e)
  refine wpAny_bind (wpAny_letGo ?_)
  obtain ⟨hTI, h1, h2, hl1, hl2⟩ := st
  obtain ⟨a, b, hTO⟩ := hTO
  have st' : ZSt z TI TO i1 i2 l1 l2 s.heap.objs.size xs ys 0 ((s.heap.push { cls := .type "list", data := .seq #[] }).update s.heap.objs.size (Obj.mapSeq (fun _ => (#[] : Array Value)))) :=
    ZSt.keep B ⟨hTI, h1, h2, hl1, hl2, .inl ⟨hz0, a, b, hTO⟩⟩ oth
  refine zl_extend (A := A.in1) (S := s.heap.objs.size) hh D B hn st' ⟨_, oth _ _ (Nat.ne_of_lt B.z) hz0⟩ .none _ hS₂ (fun h' tk acc c as hk hS' hl hG hacc => ?_)
  exact ⟨rfl, hQ h' tk acc c as (fun b o q1 q2 q3 q4 e => hk b o (Nat.ne_of_lt (Heap.lt_size e)) q1 q2 q3 q4 (oth b o (Nat.ne_of_lt (Heap.lt_size e)) e)) hS' hl hG hacc⟩
end
end LiZ
end
section
set_option Elab.async false
set_option linter.all false
set_option maxRecDepth 100000
set_option maxHeartbeats 4000000
namespace LiZ
open PySem PySem.Spec PySem.Calls PyProof.Rows L2
/-- pairs tracked at their addresses -/
def putP : Hp → List Addr → List (V × V) → Hp
  | H, a :: as, p :: ps => putP (upd H a (.tup [p.1, p.2])) as ps
  | H, _, _ => H
theorem putP_off {b : Addr} : ∀ (as : List Addr) (ps : List (V × V)) (H : Hp), b ∉ as → putP H as ps b = H b
  | [], _, _, _ => rfl
  | _ :: _, [], _, _ => rfl
  | a :: as, p :: ps, H, h => by
    show putP (upd H a (.tup [p.1, p.2])) as ps b = H b
    rw [putP_off as ps _ (fun z => h (List.mem_cons_of_mem _ z)), upd_ne (fun z => h (by rw [z]; exact List.mem_cons_self))]
theorem putP_at : ∀ (as : List Addr) (ps : List (V × V)) (H : Hp), as.length = ps.length → as.Nodup → Paired (fun (t : Addr) (p : V × V) => putP H as ps t = some (.tup [p.1, p.2])) as ps
  | [], [], _, _, _ => .nil
  | [], _ :: _, _, h, _ => by cases h
  | _ :: _, [], _, h, _ => by cases h
  | a :: as, p :: ps, H, h, hn => by
    have hn' := List.nodup_cons.mp hn
    have ih := putP_at as ps (upd H a (.tup [p.1, p.2])) (Nat.succ.inj h) hn'.2
    refine .cons ?_ ih
    show putP (upd H a (.tup [p.1, p.2])) as ps a = some (.tup [p.1, p.2])
    rw [putP_off as ps _ hn'.1, upd_same]
/-- what list(zip(a, b)) asks -/
def rListZip (K : PySem.W.Frag) : List V → Hp → VK → Prop := fun vs H Q => ∃ (a b : Addr) (xs ys : List V), vs = [.ref a, .ref b] ∧ SqL K H a xs ∧ SqL K H b ys ∧
  ∀ (H' : Hp) (p : Addr) (ts : List Addr), (∀ c o, H c = some o → H' c = some o) → H p = none → (∀ t ∈ ts, H t = none) → H' p = some (.lst (ts.map V.ref)) → Paired (fun (t : Addr) (q : V × V) => H' t = some (.tup [q.1, q.2])) ts (xs.zip ys) → Q (.ref p) H'
def tListZip (K : PySem.W.Frag) (ta : TA) : TE := fun σ H Q => ta σ H fun vs H1 => rListZip K vs H1 Q
section
variable {X : Cx} {e e2 : Expr} {ta : TA} {p p2 pos pos2 : Pos}
theorem vals_get {xs : List V} {us : List Value} (h : Vals xs us) {j : Nat} {u : Value} (hj : us[j]? = some u) : ∃ x, xs[j]? = some x ∧ RelV x u := by
  induction h generalizing j with
  | nil => simp at hj
  | cons r t ih =>
    cases j with
    | zero => simp at hj; subst hj; exact ⟨_, rfl, r⟩
    | succ j => simpa using ih (by simpa using hj)
theorem pe_listZip (hc : X.calm = true) (hg : Gl X "list") (hm : X.mg "list" = none) (hv : bootBuiltins "list" = some (.type "list")) (hg2 : Gl X "zip") (hm2 : X.mg "zip" = none) (ha : PA X [e, e2] ta)
    (hs2 : starEach [e, e2] X.env = (false, eval e X.env) :: starEach [e2] X.env := by rfl) (hpl : (backTo pos2 (starEach [e2] X.env)).any (·.1) = false := by rfl)
    (hs : starEach [.Call (.Name "zip" p2) [e, e2] [] pos2] X.env = (false, eval (.Call (.Name "zip" p2) [e, e2] [] pos2) X.env) :: starEach [] X.env := by rfl) :
    PE X (.Call (.Name "list" p) [.Call (.Name "zip" p2) [e, e2] [] pos2] [] pos) (tListZip X.K ta) := by
  refine ⟨fun pins s σ H Q I h => ?_⟩
  refine wpAny_Call_Name_kw (ld_blt I hg hm hv ?_)
  refine PyProof.Rows.callWith_type1 ?_ hs rfl
  rw [hs]
  show wpAny _ _ (spliced ((false, eval (.Call (.Name "zip" p2) [e, e2] [] pos2) X.env) :: backTo pos (starEach [] X.env))) _ _ s
  refine Calls.spliced_cons ?_
  refine Call_ (ld_blt I hg2 hm2 PyProof.Rows.boot_zip (PyProof.Rows.callWith_type1 (thn (ha.run pos2 pins s σ H _ I h) fun us s1 ⟨vs, H1, I1, r1, q1⟩ => ?_) hs2 hpl))
  obtain ⟨a, b, xs, ys, ex, hqx, hqy, q⟩ := q1
  subst ex
  cases r1 with
  | cons r rr =>
    cases rr with
    | cons r' rr =>
      cases rr
      cases r
      cases r'
      obtain ⟨its, rv, pl1, z1⟩ := I1.list hqx
      obtain ⟨its2, rv2, pl2, z2⟩ := I1.list hqy
      have la : a < s1.heap.objs.size := pl1.lt
      have lb : b < s1.heap.objs.size := pl2.lt
      have l1 : its.length = xs.length := (Paired.length rv).symm
      have l2 : its2.length = ys.length := (Paired.length rv2).symm
      have D := PySem.W.ktu_apart s1.heap.objs.size a b la lb
      refine call_zip_2 pl1.isList pl2.isList fun h' hz hTI hTO h1 h2 hsz hk => ?_
      have I2 : Inv X pins σ H1 { s1 with heap := h' } := I1.kept (t' := s1.toks) hk
      refine Calls.spliced_nil ?_
      have hsz' : h'.objs.size = s1.heap.objs.size + 5 := hsz
      have B : Below (s1.heap.objs.size + 4) (s1.heap.objs.size + 2) (s1.heap.objs.size + 3) s1.heap.objs.size (s1.heap.objs.size + 1) a b h'.objs.size := by
        rw [hsz']
        refine ⟨?_, ?_, ?_, ?_, ?_, ?_, ?_⟩ <;> (show (_ : Nat) < _) <;> first | omega | exact Nat.lt_trans la (by omega) | exact Nat.lt_trans lb (by omega)
      refine zl_call (s := { s1 with heap := h' }) (xs := its.toArray) (ys := its2.toArray) (I1.ok.hd hc) D B (by rw [List.size_toArray, List.size_toArray]; omega) ⟨hTI, h1, h2, pl1.isList.at fun o x => hk _ o x, pl2.isList.at fun o x => hk _ o x⟩ hz ⟨_, _, hTO⟩ fun h2' tk acc c as hk2 hS hl hG hacc => ?_
      dsimp only at hk2 hS hl hG ⊢
      rw [List.size_toArray, List.size_toArray, l1, l2] at hl
      have low : ∀ c, c < s1.heap.objs.size → c ≠ s1.heap.objs.size + 4 ∧ c ≠ s1.heap.objs.size + 3 ∧ c ≠ s1.heap.objs.size ∧ c ≠ s1.heap.objs.size + 1 := fun c hc => by
        have hc : (c : Nat) < s1.heap.objs.size := hc
        refine ⟨?_, ?_, ?_, ?_⟩ <;> (intro z; have z : (c : Nat) = _ := z; omega)
      have keep : ∀ c o, s1.heap.get? c = some o → h2'.get? c = some o := fun c o ho => by
        obtain ⟨q1, q2, q3, q4⟩ := low c (Heap.lt_size ho)
        exact hk2 c o q1 q2 q3 q4 (hk c o ho)
      have hle : s1.heap.objs.size ≤ h'.objs.size := by rw [hsz']; exact Nat.le_add_right _ _
      have nd : as.Nodup := List.Pairwise.imp (fun {a b} (h : a < b) => Nat.ne_of_lt h) hG.rise
      have new : ∀ t ∈ as, H1 t = none := fun t ht => I1.hok.fresh (Nat.le_trans hle (Nat.le_of_lt (hG.above t ht)))
      have newS : H1 h'.objs.size = none := I1.hok.fresh hle
      have hSn : h'.objs.size ∉ as := fun z => Nat.lt_irrefl _ (hG.above _ z)
      have lz : as.length = (xs.zip ys).length := by rw [List.length_zip]; exact hl
      have atP := putP_at as (xs.zip ys) (upd H1 h'.objs.size (.lst (as.map V.ref))) lz nd
      have off : ∀ b, b ∉ as → b ≠ h'.objs.size → putP (upd H1 h'.objs.size (.lst (as.map V.ref))) as (xs.zip ys) b = H1 b := fun b h1 h2 => by rw [putP_off as _ _ h1, upd_ne h2]
      have kp : ∀ b u, H1 b = some u → (putP (upd H1 h'.objs.size (.lst (as.map V.ref))) as (xs.zip ys)) b = some u := fun b u e => by
        rw [off b (fun z => by rw [new b z] at e; cases e) (fun z => by rw [z, newS] at e; cases e)]
        exact e
      have eS : putP (upd H1 h'.objs.size (.lst (as.map V.ref))) as (xs.zip ys) h'.objs.size = some (.lst (as.map V.ref)) := by rw [putP_off as _ _ hSn, upd_same]
      refine ⟨.ref h'.objs.size, putP (upd H1 h'.objs.size (.lst (as.map V.ref))) as (xs.zip ys), ?_, rfl, q _ _ as kp newS new eS atP⟩
      refine I1.call' (ch := []) rfl ⟨fun b o q _ _ _ => keep b o q, fun b o q _ _ _ => ⟨o.slots, keep b o q⟩, fun b o q n _ => ?_, fun b o q _ => ⟨o, keep b o q⟩, fun b xs q => kp b _ q, fun b o u q => kp b _ q, fun b ps q => ⟨#[], by rw [kp b _ q]; simp⟩⟩ (fun b u q => ?_) I1.bare fun b z => by simp at z
      · have z1 : b ∉ as := fun z => absurd (Heap.lt_size q) (Nat.not_lt.mpr (Nat.le_trans hle (Nat.le_of_lt (hG.above b z))))
        have z2 : b ≠ h'.objs.size := Nat.ne_of_lt (Nat.lt_of_lt_of_le (Heap.lt_size q) hle)
        rw [off b z1 z2]
        exact n
      · by_cases hb : b ∈ as
        · obtain ⟨j, pk, e1, e2, e3⟩ := LiI.paired_ix atP hb
          rw [e3] at q
          cases q
          obtain ⟨x, y, f1, f2, f3⟩ := hG.pairs j b e1
          have f1 : its[j]? = some x := by simpa using f1
          have f2 : its2[j]? = some y := by simpa using f2
          obtain ⟨x', g1, g2⟩ := vals_get rv f1
          obtain ⟨y', g3, g4⟩ := vals_get rv2 f2
          have e4 : (xs.zip ys)[j]? = some (x', y') := by rw [List.getElem?_zip_eq_some]; exact ⟨g1, g3⟩
          rw [e4] at e2
          cases e2
          exact ⟨by show 2 ≤ sizeLine; decide, [x, y], .cons g2 (.cons g4 .nil), ⟨_, f3, rfl, _, rfl⟩⟩
        · by_cases hb2 : b = h'.objs.size
          · rw [hb2] at q ⊢
            rw [eS] at q
            cases q
            refine ⟨by rw [List.length_map]; omega, acc.toList, c, by rw [hacc]; exact LiI.vals_refs as, ?_⟩
            rw [Array.toArray_toList]
            exact hS
          · rw [off b hb hb2] at q
            exact (I1.hok b u q).stay (fun d v _ y => keep d v y) (fun d y => kp d _ y) fun d xs y => kp d _ y
end
end LiZ
end
section
set_option Elab.async false
set_option linter.all false
set_option maxRecDepth 100000
set_option maxHeartbeats 4000000
namespace Dl
open PySem L2
section
variable {K : PySem.W.Frag} {Wx : WX} {b : Bs} {R : Hp} {ρ : Nat → Addr} {e : Env} {σ : St} {H : Hp}
/-- the heap grows by objects that are frozen at once -/
theorem Md.grow2 (m : Md K b R ρ e σ H) {H' R2 : Hp} (s : Same H H') (s1 : Same R R2) (s2 : Same R2 H') (hn : ∀ a o, R2 a = some o → R a = some o ∨ H a = none) : Md K b R2 ρ e σ H' where
  slot := fun i w h => let ⟨v, h1, h2⟩ := m.slot i w h; ⟨v, h1, h2.mono s1⟩
  cell := fun n c hc => by
    have h := m.cell n c hc
    obtain ⟨o, ho⟩ := h.some
    exact h.mono s1 (by rw [s _ _ ho, ho]) fun _ _ => rfl
  inj := m.inj
  own := fun n c hc => by
    refine ⟨?_, (m.own n c hc).2⟩
    cases h : R2 (ρ n) with
    | none => rfl
    | some o =>
      rcases hn _ _ h with z | z
      · rw [(m.own n c hc).1] at z; cases z
      · obtain ⟨o', ho⟩ := (m.cell n c hc).some
        rw [z] at ho; cases ho
  par := m.par
  npl := m.npl
  sub := s2
  ext := m.ext.trans s1
  new := fun a o h => by
    rcases hn _ _ h with z | z
    · exact m.new a o z
    · exact .inr (m.fresh0 z)
  frame := fun a o h n => s _ _ (m.frame a o h n)
  there := fun a o h => let ⟨o', q⟩ := m.there a o h; ⟨o', s _ _ q⟩
  len := m.len
theorem zip_reps {R2 : Hp} : ∀ {xs ys : List D} {vs us : List V} {ts : List Addr}, RepL K R2 xs vs → RepL K R2 ys us → Paired (fun (t : Addr) (q : V × V) => R2 t = some (.tup [q.1, q.2])) ts (vs.zip us) → RepL K R2 (zipL xs ys) (ts.map V.ref)
  | [], ys, _, us, ts, .nil, _, p => by
    cases p
    exact .nil
  | x :: xs, [], _, _, ts, .cons a t, .nil, p => by
    rw [List.zip_nil_right] at p
    cases p
    exact .nil
  | x :: xs, y :: ys, _, _, _, .cons a t, .cons c u, .cons h p => .cons (.tup h (.cons a (.cons c .nil))) (zip_reps t u p)
def kLZ : List W → Ev := fun ws e => match ws with
  | [.d (.lst xs), .d (.lst ys)] => .ok (.d (.lst (zipL xs ys))) e
  | _ => .fail
end
section
variable {X : Cx} {Wx : WX} {a c : Expr} {p p2 pos pos2 : Pos}
theorem d_listZip {f g : Ev} (hc : X.calm = true) (hg : Gl X "list") (hm : X.mg "list" = none) (hv : bootBuiltins "list" = some (.type "list")) (hg2 : Gl X "zip") (hm2 : X.mg "zip" = none) (ha : PA X [a, c] (tDA X.K Wx (evA [f, g])))
    (hs2 : starEach [a, c] X.env = (false, eval a X.env) :: starEach [c] X.env := by rfl) (hpl : (backTo pos2 (starEach [c] X.env)).any (·.1) = false := by rfl)
    (hs : starEach [.Call (.Name "zip" p2) [a, c] [] pos2] X.env = (false, eval (.Call (.Name "zip" p2) [a, c] [] pos2) X.env) :: starEach [] X.env := by rfl) :
    PE X (.Call (.Name "list" p) [.Call (.Name "zip" p2) [a, c] [] pos2] [] pos) (tD X.K Wx (eCB kLZ [f, g])) := (LiZ.pe_listZip hc hg hm hv hg2 hm2 ha hs2 hpl hs).imp fun σ H Q q =>
  tG_one q fun bs R ρ e H ws vs m r q2 => by
    unfold kLZ at q2
    split at q2
    · obtain ⟨v, u, e1, rv, ru⟩ := pair2 r
      subst e1
      have rv : Rep X.K R _ v := rv
      have ru : Rep X.K R _ u := ru
      cases rv with
      | lst h1 l1 =>
        cases ru with
        | lst h2 l2 =>
          refine ⟨_, _, _, _, rfl, SqL.of (m.sub _ _ h1), SqL.of (m.sub _ _ h2), fun H' p ts hk hp hts hP hT => ?_⟩
          let R2 : Hp := fun x => if x = p ∨ x ∈ ts then H' x else R x
          have hRn : ∀ x, H x = none → R x = none := fun x hx => m.freshR hx
          have s1 : Same R R2 := fun x o h => by
            show (if x = p ∨ x ∈ ts then H' x else R x) = some o
            split
            · rename_i hx
              rcases hx with rfl | hx
              · rw [hRn _ hp] at h; cases h
              · rw [hRn _ (hts x hx)] at h; cases h
            · exact h
          have s2 : Same R2 H' := fun x o h => by
            have h : (if x = p ∨ x ∈ ts then H' x else R x) = some o := h
            split at h
            · exact h
            · exact hk _ _ (m.sub _ _ h)
          have hn : ∀ x o, R2 x = some o → R x = some o ∨ H x = none := fun x o h => by
            have h : (if x = p ∨ x ∈ ts then H' x else R x) = some o := h
            split at h
            · rename_i hx
              rcases hx with rfl | hx
              · exact .inr hp
              · exact .inr (hts x hx)
            · exact .inl h
          have m' := m.grow2 hk s1 s2 hn
          have eP : R2 p = some (.lst (ts.map V.ref)) := by
            show (if p = p ∨ p ∈ ts then H' p else R p) = _
            rw [if_pos (.inl rfl)]; exact hP
          have eT : Paired (fun (t : Addr) (q : V × V) => R2 t = some (.tup [q.1, q.2])) ts _ := Paired.monoMem hT fun t q ht h => by
            show (if t = p ∨ t ∈ ts then H' t else R t) = _
            rw [if_pos (.inr ht)]; exact h
          exact q2 R2 ρ (.ref p) H' s1 (Live.refl e ρ) m' (.lst eP (zip_reps (RepL.mono s1 l1) (RepL.mono s1 l2) eT))
    · exact q2.elim
@[simp] theorem kLZ_ev {xs ys : List D} {e : Env} : kLZ [.d (.lst xs), .d (.lst ys)] e = .ok (.d (.lst (zipL xs ys))) e := rfl
end
end Dl
end
section
set_option Elab.async false
set_option linter.all false
set_option maxRecDepth 100000
set_option maxHeartbeats 4000000
/-! a op b op c op d, as a test -/
namespace L2
open PySem PySem.Spec PyProof.Rows
section
variable {X : Cx} {a b c d : Expr} {ta tb tc td : TE} {pos : Pos}
def tChain3 (r r' r'' : R2) (ta tb tc td : TE) : TT := fun σ H Q => ta σ H fun x H1 => tb σ H1 fun y H2 => r x y H2 fun z H3 => ∃ k, z = .bl k ∧
  (if k = true then tc σ H3 fun w' H4 => r' y w' H4 fun z' H5 => ∃ k', z' = .bl k' ∧ (if k' = true then td σ H5 fun u' H6 => r'' w' u' H6 fun x H' => ∃ k, x = .bl k ∧ Q k H' else Q false H5) else Q false H3)
theorem pt_chain3 {op op' op'' : CmpOp} {r r' r'' : R2} (ho : OpR X (compareOp op) r) (ho' : OpR X (compareOp op') r') (ho'' : OpR X (compareOp op'') r'') (ha : PE X a ta) (hb : PE X b tb) (hc : PE X c tc) (hd : PE X d td)
    (hm : lastMarks [op, op', op''] [b, c, d] = false := by with_unfolding_all rfl) : PT X (.Compare a [op, op', op''] [b, c, d] pos) (tChain3 r r' r'' ta tb tc td) := by
  refine ⟨fun pins s σ H Q I h => ?_⟩
  refine isTrue_chain (thn (ha.run pins s σ H _ I h) fun v s1 ⟨x, H1, I1, r1, q1⟩ => test_link (thn (hb.run pins s1 σ H1 _ I1 q1) fun u s2 ⟨y, H2, I2, r2, q2⟩ =>
    thn (ho pins s2 σ H2 x y v u _ I2 r1 r2 q2) fun d s3 ⟨z, H3, I3, r3, k, e, q3⟩ => ?_)) hm
  subst e
  cases r3
  refine wpAny_truthy_bool ?_
  cases k with
  | false => exact ite_ff ⟨H3, I3, q3⟩
  | true =>
    refine ite_tt (test_link (thn (hc.run pins s3 σ H3 _ I3 q3) fun w' s4 ⟨z', H4, I4, r4, q4⟩ => thn (ho' pins s4 σ H4 y z' u w' _ I4 r2 r4 q4) fun d' s5 ⟨z2, H5, I5, r5, k2, e2, q5⟩ => ?_))
    subst e2
    cases r5
    refine wpAny_truthy_bool ?_
    cases k2 with
    | false => exact ite_ff ⟨H5, I5, q5⟩
    | true =>
      refine ite_tt (test_last (thn (hd.run pins s5 σ H5 _ I5 q5) fun u' s6 ⟨z3, H6, I6, r6, q6⟩ => thn (ho'' pins s6 σ H6 z' z3 w' u' _ I6 r4 r6 q6) fun d' s7 ⟨z4, H7, I7, r7, k3, e3, q7⟩ => ?_))
      subst e3
      cases r7
      exact wpAny_truthy_bool ⟨H7, I7, q7⟩
end
end L2
namespace Dl
open PySem L2
section
variable {X : Cx} {Wx : WX} {a b c d : Expr} {pos : Pos}
def ch3b (g' g'' : D → D → Option Bool) (w2 : W) (f3 f4 : Ev) : Env → Rs Bool := fun e => (f3 e).bind fun w3 e3 => (kB2 g' w2 w3 e3).bind fun k e4 => if k = true then (if wl e4 w3 = true then (f4 e4).bind (kB2 g'' w3) else .fail) else .ok false e4
def bChain3 (g g' g'' : D → D → Option Bool) (f1 f2 f3 f4 : Ev) : Env → Rs Bool := bin2 f1 f2 fun w1 w2 e => (kB2 g w1 w2 e).bind fun k e1 => if k = true then (if wl e1 w2 = true then ch3b g' g'' w2 f3 f4 e1 else .fail) else .ok false e1
theorem t_chain3 {op op' op'' : CmpOp} {r r' r'' : R2} {g g' g'' : D → D → Option Bool} {f1 f2 f3 f4 : Ev} (ho : OpR X (compareOp op) r) (ho' : OpR X (compareOp op') r') (ho'' : OpR X (compareOp op'') r'') (hd : OpB X.K g r) (hd' : OpB X.K g' r') (hd'' : OpB X.K g'' r'')
    (ha : PE X a (tD X.K Wx f1)) (hb : PE X b (tD X.K Wx f2)) (hc : PE X c (tD X.K Wx f3)) (he : PE X d (tD X.K Wx f4))
    (hm : lastMarks [op, op', op''] [b, c, d] = false := by with_unfolding_all rfl) : PT X (.Compare a [op, op', op''] [b, c, d] pos) (tDT X.K Wx (bChain3 g g' g'' f1 f2 f3 f4)) := by
  refine (pt_chain3 ho ho' ho'' ha hb hc he hm).imp fun σ H Q h => ?_
  refine tG_two h fun bs R ρ e H2 w1 w2 v1 v2 m r1 r2 q => ?_
  cases w1 with
  | loc n => exact q.elim
  | d x =>
    cases w2 with
    | loc n => exact q.elim
    | d y =>
      unfold kB2 at q
      cases hg : g x y with
      | none => simp only [hg] at q; exact q.elim
      | some z =>
        simp only [hg, Rs.bind] at q
        refine hd x y z v1 v2 R H2 _ hg r1 r2 m.sub ⟨z, rfl, ?_⟩
        cases z with
        | false => exact q.fin m rfl
        | true =>
          rw [if_pos rfl] at q
          rw [if_pos rfl]
          have q : OkR X.K Wx lB bs R ρ e σ Q ((f3 e).bind fun w3 e3 => (kB2 g' (.d y) w3 e3).bind fun k e4 => if k = true then (if wl e4 w3 = true then (f4 e4).bind (kB2 g'' w3) else .fail) else .ok false e4) := q
          refine ⟨bs, R, ρ, e, m, (OkR.bind (L := lW X.K) q).imp fun v H4 h2 => ?_⟩
          obtain ⟨R2, ρ2, e2, w3, s2, l2, m2, r3, _, q2⟩ := h2
          cases w3 with
          | loc n => exact q2.elim
          | d z =>
            unfold kB2 at q2
            cases hg2 : g' y z with
            | none => simp only [hg2] at q2; exact q2.elim
            | some k2 =>
              simp only [hg2, Rs.bind] at q2
              refine hd' y z k2 v2 v R2 H4 _ hg2 (RepW.mono (w := .d y) s2 r2) r3 m2.sub ⟨k2, rfl, ?_⟩
              cases k2 with
              | false => exact q2.fin m2 rfl
              | true =>
                rw [if_pos rfl] at q2
                rw [if_pos rfl]
                have q2 : OkR X.K Wx lB bs R2 ρ2 e2 σ Q ((f4 e2).bind (kB2 g'' (W.d z))) := q2
                refine ⟨bs, R2, ρ2, e2, m2, (OkR.bind (L := lW X.K) q2).imp fun v' H6 h6 => ?_⟩
                obtain ⟨R3, ρ3, e3, w4, s3, l3, m3, r4, _, q3⟩ := h6
                exact hd''.run (Wx := Wx) m3 (RepW.mono (w := .d z) s3 r3) r4 q3
end
section
variable {e : Env} {f1 f2 f3 f4 : Ev} {g g' g'' : D → D → Option Bool} {w2 w3 : W} {x y z : D}
def c3a (g' g'' : D → D → Option Bool) (w2 : W) (r : Rs Bool) (f3 f4 : Ev) : Rs Bool := r.bind fun k e1 => if k = true then (if wl e1 w2 = true then ch3b g' g'' w2 f3 f4 e1 else .fail) else .ok false e1
def c3b (g' g'' : D → D → Option Bool) (w2 : W) (r : Rs W) (f4 : Ev) : Rs Bool := r.bind fun w3 e3 => (kB2 g' w2 w3 e3).bind fun k e4 => if k = true then (if wl e4 w3 = true then (f4 e4).bind (kB2 g'' w3) else .fail) else .ok false e4
def c3c (g'' : D → D → Option Bool) (w3 : W) (r : Rs Bool) (f4 : Ev) : Rs Bool := r.bind fun k e4 => if k = true then (if wl e4 w3 = true then (f4 e4).bind (kB2 g'' w3) else .fail) else .ok false e4
def c3d (g'' : D → D → Option Bool) (w3 : W) (r : Rs W) : Rs Bool := r.bind (kB2 g'' w3)
def c3k (g g' g'' : D → D → Option Bool) (f3 f4 : Ev) (w1 w2 : W) (e : Env) : Rs Bool := c3a g' g'' w2 (kB2 g w1 w2 e) f3 f4
@[simp] theorem bChain3_ev : bChain3 g g' g'' f1 f2 f3 f4 e = b2a (f1 e) f2 (c3k g g' g'' f3 f4) := rfl
@[simp] theorem c3k_ev {w1 : W} : c3k g g' g'' f3 f4 w1 w2 e = c3a g' g'' w2 (kB2 g w1 w2 e) f3 f4 := rfl
@[simp] theorem c3a_t {k : Bool} : c3a g' g'' (.d y) (.ok k e) f3 f4 = if k = true then c3b g' g'' (.d y) (f3 e) f4 else .ok false e := rfl
@[simp] theorem c3b_ok : c3b g' g'' (.d y) (.ok w3 e) f4 = c3c g'' w3 (kB2 g' (.d y) w3 e) f4 := rfl
@[simp] theorem c3c_ok {k : Bool} : c3c g'' (.d z) (.ok k e) f4 = if k = true then c3d g'' (.d z) (f4 e) else .ok false e := rfl
@[simp] theorem c3d_ok : c3d g'' (.d z) (.ok w2 e) = kB2 g'' (.d z) w2 e := rfl
end
end Dl
end
section
set_option Elab.async false
set_option linter.all false
set_option maxRecDepth 100000
set_option maxHeartbeats 4000000
namespace Dl
open PySem L2
/-! raise of an own exception class whose __init__ stores several fields -/
def spXIn (C : Addr) (fs : List Str) : Sp := fun vs H Q _ => ∃ (a : Addr) (us : List V), vs = .ref a :: us ∧ us.length = fs.length ∧ H a = some (exo a C none) ∧ ∀ dx, H dx = none → dx ≠ a → Q .non (upd (upd H dx (exd dx (fs.zip us).reverse)) a (exo a C (some dx)))
structure XClsN (K : PySem.W.Frag) (C fI : Addr) (fs : List Str) : Prop where
  ox : OexC K C
  no : ∀ f ∈ fs, PySem.W.findIn K (.ref C) f = some none
  iC : PySem.W.findIn K (.ref C) "__init__" = some (some (.ref fI))
  tI : PySem.W.typeIn K (.ref fI) = some (.type "function")
theorem XClsN.one {K : PySem.W.Frag} {C fI : Addr} {f : Str} (T : XClsN K C fI [f]) : XCls K C fI f := ⟨T.ox, T.no f List.mem_cons_self, T.iC, T.tI⟩
def dsOf : List W → Option (List D) := toDs
def sRaiseN (C : Addr) (fs : List Str) (gs : List Ev) : Sv := fun e => match evA gs e with
  | .ok ws e1 => (match toDs ws with
    | some ds => if ds.length = fs.length then .exn ⟨C, some (fs.zip ds).reverse⟩ e1 else .fail
    | none => .fail)
  | .exn x e1 => .exn x e1
  | .fail => .fail
theorem zip_names {α : Type} : ∀ {fs : List Str} {ds : List D} {vs : List α}, ds.length = fs.length → vs.length = fs.length → ((fs.zip vs).reverse).map (·.1) = ((fs.zip ds).reverse).map (·.1)
  | fs, ds, vs, h1, h2 => by
    rw [List.map_reverse, List.map_reverse, List.map_fst_zip (by omega), List.map_fst_zip (by omega)]
theorem zip_vals {K : PySem.W.Frag} {R : Hp} {fs : List Str} {ds : List D} {vs : List V} (h1 : ds.length = fs.length) (h2 : vs.length = fs.length) (r : RepL K R ds vs) : RepL K R (((fs.zip ds).reverse).map (·.2)) (((fs.zip vs).reverse).map (·.2)) := by
  rw [List.map_reverse, List.map_reverse, List.map_snd_zip (by omega), List.map_snd_zip (by omega)]
  exact r.reverse
section
variable {X : Cx} {Wx : WX} {a : Expr} {es : List Expr} {pos pos2 p : Pos} {g : Ev} {gs : List Ev} {C fI : Addr} {fs : List Str} {cn : Str} {k : Nat} {fd : FuncData} {ps : List Str} {CX : CXT}
theorem s_raiseN (hc : X.calm = true) (T : XClsN X.K C fI fs) (F1 : FnOk X.prog X.w X.K X.mg X.base CX k fI fd ps (spXIn C fs)) (hr : Room (k + 1) X.A) (hb : Binds X.K fd ps []) (hx : Passes CX X (fun _ _ _ => False)) (tk : L2.Takes X Wx)
    (hg : Gl X cn) (hm : X.mg cn = some (.ref C)) (ha : PA X (a :: es) (tDA X.K Wx (evA (g :: gs)))) (hdb : (cn == ("__debug__" : Str)) = false := by decide)
    (he : starEach (a :: es) X.env = (false, eval a X.env) :: starEach es X.env := by rfl) (hpl : (backTo pos (starEach es X.env)).any (·.1) = false := by rfl) (hlen : fs.length ≤ 900 := by decide) :
    PS X (.Raise (some (.Call (.Name cn p) (a :: es) [] pos)) none pos2) (tS X.K Wx (sRaiseN C fs (g :: gs))) :=
  (ps_raise hc tk (pmk_oex T.ox T.iC T.tI F1 hr hb .nil hx hg hm ha hdb he hpl)).imp fun D σ H h => by
    obtain ⟨b, R, ρ, e, m, q⟩ := h
    refine ⟨b, R, ρ, e, m, ?_⟩
    unfold sRaiseN at q
    cases hge : evA (g :: gs) e with
    | fail => rw [hge] at q; exact q.elim
    | exn x e1 =>
      rw [hge] at q
      exact q
    | ok ws e1 =>
      rw [hge] at q
      dsimp only at q
      cases hd : toDs ws with
      | none => rw [hd] at q; exact q.elim
      | some ds =>
        rw [hd] at q
        dsimp only at q
        split at q
        · rename_i hl
          intro R' ρ' vs H1 s l m' r
          have rl : RepL X.K R' ds vs := toDs_rep hd r
          have hvl : vs.length = fs.length := by rw [← rl.length]; exact hl
          refine ⟨by rw [hvl]; omega, fun a na => ⟨a, vs, by rw [List.append_nil], hvl, upd_same, fun dx hdx hne => ⟨rfl, dx, (fs.zip vs).reverse, upd_same, by rw [upd_ne hne, upd_same], by rw [upd_ne hne] at hdx; exact hdx, ?_⟩⟩⟩
          have hd1 : H1 dx = none := by rw [upd_ne hne] at hdx; exact hdx
          show Wx (.ref C) (some dx) σ (upd (del (upd (upd (upd H1 a _) dx _) a _) a) dx (.xd _))
          rw [del_upd na hne]
          have sm : Same R' (upd R' dx (.xd (fs.zip vs).reverse)) := same_upd (m'.freshR hd1)
          exact q _ ρ' σ _ _ _ (s.trans sm) (m'.freshD hd1 _) ⟨rfl, dx, (fs.zip vs).reverse, rfl, upd_same, zip_names hl hvl, zip_vals hl hvl (RepL.mono sm rl)⟩
        · exact q.elim
end
/-! the __init__ of such a class -/
section
variable {P : Program} {w : World} {K : PySem.W.Frag} {mg : Str → Option Value} {base : Heap} {x qual : Str} {params : Arguments} {body : List Stmt} {scope : Scope} {kws : List (Str × V)} {C fI : Addr} {fd : FuncData}
theorem upd_twice {H : Hp} {a dx : Addr} {o1 o2 o3 : HO} (h : dx ≠ a) : upd (upd (upd H dx o1) a o2) dx o3 = upd (upd H dx o3) a o2 := by
  funext b
  by_cases hb : b = dx
  · subst hb
    rw [upd_same, upd_ne h, upd_same]
  · rw [upd_ne hb]
    by_cases ha : b = a
    · subst ha
      rw [upd_same, upd_same]
    · rw [upd_ne ha, upd_ne hb, upd_ne ha, upd_ne hb]
theorem fnX1_ok {s0 p1 f1 : Str} (F : FunD K x qual params body scope [] kws fI fd) (S : FnScope [s0, p1] [s0, p1] scope) (T : XClsN K C fI [f1])
    (hb : ∀ (cdv : Value) (A : Around) (outer : List PySem.Env) (s : Shared) (H : Hp) (E : XK), PSs (cxOf (L2.CX P w) P w K mg base [s0, p1] qual scope fI cdv A outer s H E) body (tOst K f1 (tVar 0) (tVar 1))) :
    FnOk P w K mg base (L2.CX P w) 1 fI fd [s0, p1] (spXIn C [f1]) := by
  refine F.ok (k := 0) (CX := L2.CX P w) S (fun vs H Q E h => ?_) (fun cdv A outer s H vs Q E hr h => ⟨_, hb cdv A outer s H E, ?_⟩)
  · obtain ⟨a, us, rfl, hl, _⟩ := h
    simp at hl ⊢; exact hl
  · obtain ⟨a, us, rfl, hl, ha, q⟩ := h
    match us, hl with
    | [v], _ => exact ⟨v, rfl, .ref a, rfl, a, C, rfl, T.ox, T.no f1 List.mem_cons_self, .inl ⟨ha, fun dx n ne => q dx n ne⟩⟩
theorem fnX2_ok {s0 p1 p2 f1 f2 : Str} (F : FunD K x qual params body scope [] kws fI fd) (S : FnScope [s0, p1, p2] [s0, p1, p2] scope) (T : XClsN K C fI [f1, f2])
    (hb : ∀ (cdv : Value) (A : Around) (outer : List PySem.Env) (s : Shared) (H : Hp) (E : XK), PSs (cxOf (L2.CX P w) P w K mg base [s0, p1, p2] qual scope fI cdv A outer s H E) body (fun D σ H => tOst K f1 (tVar 0) (tVar 1) { D with nx := tOst K f2 (tVar 0) (tVar 2) D } σ H)) :
    FnOk P w K mg base (L2.CX P w) 1 fI fd [s0, p1, p2] (spXIn C [f1, f2]) := by
  refine F.ok (k := 0) (CX := L2.CX P w) S (fun vs H Q E h => ?_) (fun cdv A outer s H vs Q E hr h => ⟨_, hb cdv A outer s H E, ?_⟩)
  · obtain ⟨a, us, rfl, hl, _⟩ := h
    simp at hl ⊢; exact hl
  · obtain ⟨a, us, rfl, hl, ha, q⟩ := h
    match us, hl with
    | [v, u], _ =>
      refine ⟨v, rfl, .ref a, rfl, a, C, rfl, T.ox, T.no f1 List.mem_cons_self, .inl ⟨ha, fun dx n ne => ?_⟩⟩
      refine ⟨u, rfl, .ref a, rfl, a, C, rfl, T.ox, T.no f2 (by simp), .inr ⟨dx, _, upd_same, by rw [upd_ne ne, upd_same], by simp, ?_⟩⟩
      rw [upd_twice ne]
      exact q dx n ne
theorem fnX3_ok {s0 p1 p2 p3 f1 f2 f3 : Str} (F : FunD K x qual params body scope [] kws fI fd) (S : FnScope [s0, p1, p2, p3] [s0, p1, p2, p3] scope) (T : XClsN K C fI [f1, f2, f3])
    (hb : ∀ (cdv : Value) (A : Around) (outer : List PySem.Env) (s : Shared) (H : Hp) (E : XK), PSs (cxOf (L2.CX P w) P w K mg base [s0, p1, p2, p3] qual scope fI cdv A outer s H E) body (fun D σ H => tOst K f1 (tVar 0) (tVar 1) { D with nx := fun σ H => tOst K f2 (tVar 0) (tVar 2) { D with nx := tOst K f3 (tVar 0) (tVar 3) D } σ H } σ H)) :
    FnOk P w K mg base (L2.CX P w) 1 fI fd [s0, p1, p2, p3] (spXIn C [f1, f2, f3]) := by
  refine F.ok (k := 0) (CX := L2.CX P w) S (fun vs H Q E h => ?_) (fun cdv A outer s H vs Q E hr h => ⟨_, hb cdv A outer s H E, ?_⟩)
  · obtain ⟨a, us, rfl, hl, _⟩ := h
    simp at hl ⊢; exact hl
  · obtain ⟨a, us, rfl, hl, ha, q⟩ := h
    match us, hl with
    | [v, u, z], _ =>
      refine ⟨v, rfl, .ref a, rfl, a, C, rfl, T.ox, T.no f1 List.mem_cons_self, .inl ⟨ha, fun dx n ne => ?_⟩⟩
      refine ⟨u, rfl, .ref a, rfl, a, C, rfl, T.ox, T.no f2 (by simp), .inr ⟨dx, _, upd_same, by rw [upd_ne ne, upd_same], by simp, ?_⟩⟩
      rw [upd_twice ne]
      refine ⟨z, rfl, .ref a, rfl, a, C, rfl, T.ox, T.no f3 (by simp), .inr ⟨dx, _, upd_same, by rw [upd_ne ne, upd_same], by simp, ?_⟩⟩
      rw [upd_twice ne]
      exact q dx n ne
end
/-! the head's facts -/
def xBn (K : PySem.W.Frag) (x : Str) (fs : List Str) : Bool := oexB K (He.ga K x) && (He.eqO (PySem.W.findIn K (.ref (He.ga K x)) "__setattr__") (some (some (.builtin "object.__setattr__"))) &&
  (decide (PySem.W.subIn K (.ref (He.ga K x)) (.type "BaseException") = some true) && (decide (PySem.W.typeIn K (.ref (He.ga K x)) = some (.type "type")) && (PySem.W.keepIn K (.ref (He.ga K x)) &&
  ((fs.all fun f => He.eqO (PySem.W.findIn K (.ref (He.ga K x)) f) (some none)) && (He.eqO (PySem.W.findIn K (.ref (He.ga K x)) "__init__") (some (some (.ref (He.ma K (He.ga K x) "__init__")))) &&
  (decide (PySem.W.typeIn K (.ref (He.ma K (He.ga K x) "__init__")) = some (.type "function")) && (xfB K (He.ga K x) && (decide (PySem.W.exmOne K (.ref (He.ga K x)) (.ref (He.ga K x)) = some true) && decide (PySem.W.kitOne K (.ref (He.ga K x)) (.type "ValueError") = some true))))))))))
theorem xBn_ok {K : PySem.W.Frag} {x : Str} {fs : List Str} (h : xBn K x fs = true) : XClsN K (He.ga K x) (He.ma K (He.ga K x) "__init__") fs ∧ XfC K (He.ga K x) ∧ PySem.W.exmOne K (.ref (He.ga K x)) (.ref (He.ga K x)) = some true ∧ PySem.W.kitOne K (.ref (He.ga K x)) (.type "ValueError") = some true := by
  unfold xBn at h
  simp only [Bool.and_eq_true, decide_eq_true_eq] at h
  obtain ⟨h1, h2, h3, h4, h5, h6, h7, h8, h9, h10, h11⟩ := h
  exact ⟨⟨⟨oexB_ok h1, He.eqO_ok h2, h3, h4, h5⟩, fun f hf => He.eqO_ok (List.all_eq_true.mp h6 f hf), He.eqO_ok h7, h8⟩, xfB_ok h9, h10, h11⟩
/-- x.2: a pair of classes, does the one catch the other -/
abbrev XPair : Type := Str × Str × Bool
def xpB (K : PySem.W.Frag) (p : XPair) : Bool := decide (PySem.W.exmOne K (.ref (He.ga K p.1)) (.ref (He.ga K p.2.1)) = some p.2.2)
def obsXn (xs : List (Str × List Str)) (ps : List XPair) (fa : List He.Fa) (fn : List He.DefD) (K : PySem.W.Frag) : AlX := ((xs.all fun x => xBn K x.1 x.2) && ps.all (xpB K), He.obsD fa fn K)
def SaysXn (xs : List (Str × List Str)) (ps : List XPair) (fa : List He.Fa) (fn : List He.DefD) (K : PySem.W.Frag) : Prop := obsXn xs ps fa fn K = valX fn
def obsXnG (n : Nat) (xs : List (Str × List Str)) (ps : List XPair) (fa : List He.Fa) (fn : List He.DefD) (g : Addr → Option Obj) : AlX := obsXn xs ps fa fn (He.frG g (He.asD g n))
def hookXn (n : Nat) (xs : List (Str × List Str)) (ps : List XPair) (fa : List He.Fa) (fn : List He.DefD) : PySem.W.Hook where
  α := AlX
  obs := fun s => obsXnG n xs ps fa fn s.heap.get?
  val := fun _ => valX fn
  says := fun _ h => ∃ K : PySem.W.Frag, K.In h ∧ SaysXn xs ps fa fn K
  of := fun _ _ e => ⟨_, He.frG_in, e⟩
  keeps := fun _ _ _ ⟨K, hK, c⟩ k => ⟨K, PySem.W.Frag.In.keeps hK k, c⟩
theorem obsXnG_eq {n : Nat} {xs : List (Str × List Str)} {ps : List XPair} {fa : List He.Fa} {fn : List He.DefD} {g : Addr → Option Obj} {s : Shared} (h : ∀ a, g a = s.heap.get? a) : obsXnG n xs ps fa fn g = (hookXn n xs ps fa fn).obs s := by
  have e : g = s.heap.get? := funext h
  rw [e] <;> rfl
theorem SaysXn.d {xs : List (Str × List Str)} {ps : List XPair} {fa : List He.Fa} {fn : List He.DefD} {K : PySem.W.Frag} (c : SaysXn xs ps fa fn K) : He.SaysD fa fn K := congrArg (fun z : AlX => z.2) c
theorem SaysXn.x {xs : List (Str × List Str)} {ps : List XPair} {fa : List He.Fa} {fn : List He.DefD} {K : PySem.W.Frag} (c : SaysXn xs ps fa fn K) (i : Nat) {x : Str × List Str} (h : xs[i]? = some x := by rfl) : xBn K x.1 x.2 = true := by
  have c1 : ((xs.all fun x => xBn K x.1 x.2) && ps.all (xpB K)) = true := congrArg (fun z : AlX => z.1) c
  rw [Bool.and_eq_true] at c1
  exact List.all_eq_true.mp c1.1 x (List.mem_of_getElem? h)
theorem SaysXn.p {xs : List (Str × List Str)} {ps : List XPair} {fa : List He.Fa} {fn : List He.DefD} {K : PySem.W.Frag} (c : SaysXn xs ps fa fn K) (i : Nat) {x : XPair} (h : ps[i]? = some x := by rfl) : PySem.W.exmOne K (.ref (He.ga K x.1)) (.ref (He.ga K x.2.1)) = some x.2.2 := by
  have c1 : ((xs.all fun x => xBn K x.1 x.2) && ps.all (xpB K)) = true := congrArg (fun z : AlX => z.1) c
  rw [Bool.and_eq_true] at c1
  exact of_decide_eq_true (List.all_eq_true.mp c1.2 x (List.mem_of_getElem? h))
/-! evaluation -/
def xrnK (C : Addr) (fs : List Str) (r : Rs (List W)) : SR := match r with
  | .ok ws e1 => (match toDs ws with
    | some ds => if ds.length = fs.length then .exn ⟨C, some (fs.zip ds).reverse⟩ e1 else .fail
    | none => .fail)
  | .exn x e1 => .exn x e1
  | .fail => .fail
@[simp] theorem sRaiseN_ev {C : Addr} {fs : List Str} {gs : List Ev} {e : Env} : sRaiseN C fs gs e = xrnK C fs (evA gs e) := rfl
@[simp] theorem xrnK_ok {C : Addr} {fs : List Str} {ws : List W} {e : Env} : xrnK C fs (.ok ws e) = (match toDs ws with | some ds => if ds.length = fs.length then .exn ⟨C, some (fs.zip ds).reverse⟩ e else .fail | none => .fail) := rfl
end Dl
end
section
set_option Elab.async false
set_option linter.all false
set_option maxRecDepth 100000
set_option maxHeartbeats 4000000
/-! several except clauses, with names or without -/
namespace L2
open PySem PySem.Spec PyProof.Rows
abbrev HdT : Type := Value × Option Nat × (Addr → Value → Option Addr → TS)
def wMix (K : PySem.W.Frag) (Wout : WX) (D : Ends) : List HdT → WX
  | [] => Wout
  | (c, oi, ts) :: r => fun cls d σ H => ∃ b, PySem.W.exmOne K cls c = some b ∧ (b = true → ∀ a, H a = none → match oi with
      | none => ts a cls d D σ H
      | some i => ts a cls d { nx := fun σ' H' => D.nx (σ'.set i none) H', rt := D.rt, bk := fun σ' H' => D.bk (σ'.set i none) H', ct := fun σ' H' => D.ct (σ'.set i none) H' } (σ.set i (some (.ref a))) H) ∧ (b = false → wMix K Wout D r cls d σ H)
inductive HdMix (X : Cx) : List ExceptHandler → List HdT → Prop
  | nil : HdMix X [] []
  | cons {x : Str} {c : Value} {ts : Addr → Value → Option Addr → TS} {b₀ : Stmt} {suite : List Stmt} {np pos' : Pos} {hds : List ExceptHandler} {l : List HdT} (hc : Names X x c)
      (hsu : ∀ (a : Addr) (oe : Obj) (cls : Value) (d : Option Addr) (pn : List (Addr × Obj)), Zc cls d oe → (∃ vs, oe.data = .fields vs) → PSs (X.suite a ((a, oe) :: pn)) (b₀ :: suite) (ts a cls d)) (r : HdMix X hds l) :
      HdMix X (.ExceptHandler (some (.Name x np)) none (b₀ :: suite) pos' :: hds) ((c, none, ts) :: l)
  | as {x n : Str} {i : Nat} {c : Value} {ts : Addr → Value → Option Addr → TS} {b₀ : Stmt} {suite : List Stmt} {np pos' : Pos} {hds : List ExceptHandler} {l : List HdT} (hN : X.N.Nodup) (hi : X.N[i]? = some n) (hln : X.env.kindOf n = some .local) (hc : Names X x c)
      (hsu : ∀ (a : Addr) (oe : Obj) (cls : Value) (d : Option Addr) (pn : List (Addr × Obj)), Zc cls d oe → (∃ vs, oe.data = .fields vs) → PSs (X.suite a ((a, oe) :: pn)) (b₀ :: suite) (ts a cls d)) (r : HdMix X hds l) :
      HdMix X (.ExceptHandler (some (.Name x np)) (some n) (b₀ :: suite) pos' :: hds) ((c, some i, ts) :: l)
/-- an own error is caught: it stands at a, and behind it the walk's state -/
structure Caught1 (X : Cx) (pins : List (Addr × Obj)) (σ : St) (H : Hp) (G : Heap) (s0 : Shared) (a : Addr) (cls : Value) (d : Option Addr) (s : Shared) : Prop where
  state : Inv X pins σ H s0
  ground : ∀ b o, s0.heap.get? b = some o → b ∉ frs X.stack → G.get? b = some o
  grown : s0.heap.UpToSlots s.heap
  flies : HandSPX.FlyingZ G (X.env :: X.outer) a (Zc cls d) s.heap
  free : H a = none
  os : s.os = s0.os
  bare : AllBare s.gens
section
variable {X : Cx} {pins : List (Addr × Obj)} {σ : St} {H : Hp} {G : Heap} {s0 s : Shared} {a : Addr} {cls : Value} {d : Option Addr}
theorem Caught1.inv (c : Caught1 X pins σ H G s0 a cls d s) : Inv X pins σ H s := c.state.landed c.ground c.flies.1 c.grown c.os c.bare
theorem Caught1.noFrame (c : Caught1 X pins σ H G s0 a cls d s) : a ∉ frs (X.env :: X.outer) := by
  obtain ⟨o, v, at_, _, dat⟩ := c.flies.there
  intro m
  obtain ⟨_, o2, at2, no⟩ := c.flies.2.2.1.mem m
  cases at_.symm.trans at2
  exact no _ dat
/-- within a suite -/
theorem Caught1.within (c : Caught1 X pins σ H G s0 a cls d s) (hf : X.env.frame = some X.env.locals) : ∃ o, s.heap.get? a = some o ∧ Zc cls d o ∧ (∃ v, o.data = .fields v) ∧ Inv (X.suite a ((a, o) :: (X.pn ++ pins))) [] σ H s := by
  obtain ⟨o, v, at_, z, dat⟩ := c.flies.there
  have no := c.noFrame
  refine ⟨o, at_, z, ⟨v, dat⟩, c.inv.suite at_ dat c.free (fun e => no ?_) fun m => no ?_⟩
  · exact List.mem_filterMap.mpr ⟨X.env, List.mem_cons_self, hf.trans (congrArg some e.symm)⟩
  · obtain ⟨e, me, fe⟩ := List.mem_filterMap.mp m
    exact List.mem_filterMap.mpr ⟨e, List.mem_cons_of_mem _ me, fe⟩
/-- the class that a clause names -/
theorem Caught1.named (c : Caught1 X pins σ H G s0 a cls d s) (hf : X.env.frame = some X.env.locals) {x : Str} {v : Value} {np : Pos} (hx : Names X x v) {Q E : Value → Shared → Prop} (q : Q v s) : wpAny (model X.prog X.w) (X.A.mark (some (.ref a))) (eval (.Name x np) X.env) Q E s := by
  obtain ⟨o, _, _, _, I⟩ := c.within hf
  obtain ⟨gl, db, r | ⟨r, bo, nn⟩⟩ := hx
  · exact ld_glob I gl r q db
  · exact ld_blt I gl r bo q nn db
/-- does the clause's class meet the error's -/
theorem Caught1.meets (c : Caught1 X pins σ H G s0 a cls d s) {v : Value} {b : Bool} (h : PySem.W.exmOne X.K cls v = some b) : PySem.W.Looks (model X.prog X.w) s.heap (excMatches (.ref a) v) b :=
  PySem.W.exm_one (M := model X.prog X.w) c.inv.kIn (fun A Q E t keep q => by
    obtain ⟨o, _, at_, z, _⟩ := c.flies.there
    exact wpAny_typeOf_ref (keep _ _ at_) (by rw [z.1]; exact q)) h
/-- no clause is left: the error goes on -/
theorem Caught1.over (c : Caught1 X pins σ H G s0 a cls d s) (hs : X.stack = X.env :: X.outer) (hf : X.env.frame = some X.env.locals) {W : WX} (tk : Takes X W) (w : W cls d σ H) {P : Flow → Shared → Prop} : wpAny (model X.prog X.w) X.A (handleBy (.ref a) X.env []) P X.xe s := by
  have fin : wpAny (model X.prog X.w) X.A (setFlight (.ref a) X.env.frame) (fun _ t => wpAny (model X.prog X.w) X.A (throw (.ref a) : Sem Flow) P X.xe t) X.xe s := by
    rw [hf]
    refine HandSPX.setFlight_upZ c.flies fun h hold up => wpAny_throw (tk _ _ ?_)
    refine ⟨a, G, s0, pins, σ, H, cls, d, rfl, c.state, c.ground, c.grown.trans up, .inr (.inr ?_), c.free, c.os, c.bare, w⟩
    rw [hs]; exact hold
  obtain ⟨_, _, _, o, v, T, oT, t0, at_, z, dat, first, rest⟩ := id c.flies
  refine wpAny_handleBy_nil ?_
  unfold PySem.passOn
  refine wpAny_bind (wpAny_field at_ dat first ?_)
  rw [if_neg (show ¬ ((Value.ref T == Value.none) = true) from by simp)]
  first
    | exact wpAny_bind (wpAny_pure (wpAny_bind fin))
    | exact wpAny_bind fin
/-- a clause without a name -/
theorem Caught1.plain (c : Caught1 X pins σ H G s0 a cls d s) (hf : X.env.frame = some X.env.locals) {t : Addr → Value → Option Addr → TS} {b0 : Stmt} {su : List Stmt} {D : Ends}
    (hsu : ∀ (a : Addr) (oe : Obj) (cls : Value) (d : Option Addr) (pn : List (Addr × Obj)), Zc cls d oe → (∃ vs, oe.data = .fields vs) → PSs (X.suite a ((a, oe) :: pn)) (b0 :: su) (t a cls d)) (q : t a cls d D σ H) {E : Value → Shared → Prop} :
    wpAny (model X.prog X.w) (X.A.mark (some (.ref a))) (execs (b0 :: su) X.env) (SP X pins D) (fun _ _ => False) s := by
  obtain ⟨o, at_, z, dat, I⟩ := c.within hf
  refine wpAny_mono ((hsu a o cls d (X.pn ++ pins) z dat).run [] s σ H D I q) (fun f t1 e => ?_) fun _ _ no => no.elim
  cases f with
  | ret v =>
    obtain ⟨x, σ1, H1, I1, r1, q1⟩ := e
    exact ⟨x, σ1, H1, I1.unsuite c.state.ok, r1, q1⟩
  | next => exact let ⟨σ1, H1, I1, q1⟩ := e; ⟨σ1, H1, I1.unsuite c.state.ok, q1⟩
  | brk => exact let ⟨σ1, H1, I1, q1⟩ := e; ⟨σ1, H1, I1.unsuite c.state.ok, q1⟩
  | cont => exact let ⟨σ1, H1, I1, q1⟩ := e; ⟨σ1, H1, I1.unsuite c.state.ok, q1⟩
/-- a clause with a name, which is gone behind it -/
def gone (i : Nat) (D : Ends) : Ends := { nx := fun σ H => D.nx (σ.set i none) H, rt := D.rt, bk := fun σ H => D.bk (σ.set i none) H, ct := fun σ H => D.ct (σ.set i none) H }
theorem Caught1.bound (c : Caught1 X pins σ H G s0 a cls d s) (hf : X.env.frame = some X.env.locals) {n : Str} {i : Nat} {pos : Pos} (hN : X.N.Nodup) (hi : X.N[i]? = some n) (hl : X.env.kindOf n = some .local) {t : Addr → Value → Option Addr → TS} {b0 : Stmt} {su : List Stmt} {D : Ends}
    (hsu : ∀ (a : Addr) (oe : Obj) (cls : Value) (d : Option Addr) (pn : List (Addr × Obj)), Zc cls d oe → (∃ vs, oe.data = .fields vs) → PSs (X.suite a ((a, oe) :: pn)) (b0 :: su) (t a cls d)) (q : t a cls d (gone i D) (σ.set i (some (.ref a))) H) {E : Value → Shared → Prop} :
    wpAny (model X.prog X.w) (X.A.mark (some (.ref a))) (storeName X.env n (.ref a)) (fun _ t0 => wpAny (model X.prog X.w) (X.A.mark (some (.ref a))) (execs (b0 :: su) X.env)
      (fun f t1 => wpAny (model X.prog X.w) X.A (do bindName X.env n .none; unbindBehindTheSuite X.env n pos) (fun _ t2 => SP X pins D f t2) X.xe t1) (fun _ _ => False) t0) E s := by
  obtain ⟨o, at_, z, dat, I⟩ := c.within hf
  refine store_ok (X := X.suite a ((a, o) :: (X.pn ++ pins))) (v := .ref a) I hN hi (.inl hl) rfl (fun t0 I0 => ?_) (.inr hl)
  refine wpAny_mono ((hsu a o cls d (X.pn ++ pins) z dat).run [] t0 _ H _ I0 q) (fun f t1 e => ?_) fun _ _ no => no.elim
  have off : ∀ {σ1 : St} {H1 : Hp} {Q : Shared → Prop}, Inv (X.suite a ((a, o) :: (X.pn ++ pins))) [] σ1 H1 t1 → (∀ t2, Inv X pins (σ1.set i none) H1 t2 → Q t2) →
      wpAny (model X.prog X.w) X.A (do bindName X.env n .none; unbindBehindTheSuite X.env n pos) (fun _ t2 => Q t2) X.xe t1 := fun I1 q1 => gone_ok (I1.unsuite c.state.ok) hN hi hl q1
  cases f with
  | ret v =>
    obtain ⟨x, σ1, H1, I1, r1, q1⟩ := e
    exact off I1 fun t2 I2 => ⟨x, _, H1, I2, r1, q1⟩
  | next => exact let ⟨σ1, H1, I1, q1⟩ := e; off I1 fun t2 I2 => ⟨_, H1, I2, q1⟩
  | brk => exact let ⟨σ1, H1, I1, q1⟩ := e; off I1 fun t2 I2 => ⟨_, H1, I2, q1⟩
  | cont => exact let ⟨σ1, H1, I1, q1⟩ := e; off I1 fun t2 I2 => ⟨_, H1, I2, q1⟩
end
section
variable {X : Cx} {pins : List (Addr × Obj)} {σ : St} {H : Hp} {G : Heap} {s0 s : Shared} {a : Addr} {cls : Value} {d : Option Addr}
theorem Caught1.on (c : Caught1 X pins σ H G s0 a cls d s) {h : Heap} (fl : HandSPX.FlyingZ G (X.env :: X.outer) a (Zc cls d) h) (up : s.heap.UpToSlots h) : Caught1 X pins σ H G s0 a cls d { s with heap := h } := ⟨c.state, c.ground, c.grown.trans up, fl, c.free, c.os, c.bare⟩
/-- the clauses, one after another -/
theorem Caught1.clauses (c : Caught1 X pins σ H G s0 a cls d s) (hs : X.stack = X.env :: X.outer) (hf : X.env.frame = some X.env.locals) {W : WX} (tk : Takes X W) {D : Ends} {hds : List ExceptHandler} {l : List HdT} (k : HdMix X hds l) : wMix X.K W D l cls d σ H → wpAny (model X.prog X.w) X.A (handleBy (.ref a) X.env hds) (SP X pins D) X.xe s := by
  induction k with
  | nil => exact fun w => c.over hs hf tk w
  | cons hx hsu more ih =>
    rintro ⟨b, hb, yes, no⟩
    refine wpAny_handleBy_cons (codeAny_handlers_test (c.named hf hx ((c.meets hb).here ?_))) nofun
    cases b with
    | false => exact ih (no rfl)
    | true => exact codeAny_handlers_suite (HandSPX.lands_againZ c.flies fun h fl up => wpAny_mono ((c.on fl up).plain hf hsu (yes rfl a c.free) (E := fun _ _ => False)) (fun f t1 e => e) fun _ _ no => no.elim)
  | as hN hi hl hx hsu more ih =>
    rintro ⟨b, hb, yes, no⟩
    refine wpAny_handleBy_cons (codeAny_handlers_test (c.named hf hx ((c.meets hb).here ?_))) nofun
    cases b with
    | false => exact ih (no rfl)
    | true => exact codeAny_handlers_suite_as (HandSPX.lands_againZ c.flies fun h fl up => wpAny_mono ((c.on fl up).bound hf hN hi hl hsu (yes rfl a c.free)) (fun _ t0 e => wpAny_mono e (fun _ _ e => e) fun _ _ no => no.elim) fun _ _ e => e)
variable {body : List Stmt} {h₀ : ExceptHandler} {hds : List ExceptHandler} {l : List HdT} {pos : Pos} {tb : WX → TS} {Wout : WX}
theorem ps_try_mix (hs : X.stack = X.env :: X.outer) (hf : X.env.frame = some X.env.locals) (tk : Takes X Wout)
    (hb : ∀ (W : WX) (pn : List (Addr × Obj)) (xe : Value → Shared → Prop), Takes (X.tr pn xe) W → PassesOwn (model X.prog X.w) X.A X.env xe → PSs (X.tr pn xe) body (tb W))
    (hh : HdMix X (h₀ :: hds) l) : PS X (.Try body (h₀ :: hds) [] [] pos) (fun D σ H => tb (wMix X.K Wout D l) D σ H) := ⟨fun pins s σ H D I h => by
  have ok := I.ok
  have go := (hb (wMix X.K Wout D l) (X.pn ++ pins) (fun e t => wpAny (model X.prog X.w) X.A (noteFrame e X.env) (fun _ t2 => wpAny (model X.prog X.w) X.A (setFlight e none) (fun _ t3 => wpAny (model X.prog X.w) X.A (handleBy e X.env (h₀ :: hds)) (SP X pins D) X.xe t3) X.xe t2) X.xe t)
    (fun u t ⟨a, G, s0, ps, σ1, H1, cls, d, eu, I1, gr, up, sk, fr, os, ba, w⟩ => by
      subst eu
      rw [show (X.tr _ _).stack = X.env :: X.outer from hs] at sk
      exact Sky.land Zc.steady (by rw [ok.frames, hs]) hf sk fun h fl up2 => Caught1.clauses (s := { t with heap := h }) ⟨I1.ofTry ok, gr, up.trans up2, fl, fr, os, ba⟩ hs hf tk hh w) PassesOwn.looking).run [] s σ H D (I.toTry _) h
  refine wpAny_Try_except (wpAny_mono go (fun f t e => ?_) fun _ _ e => e)
  cases f with
  | next => exact let ⟨σ1, H1, I1, q1⟩ := e; wpAny_execs_nil ⟨σ1, H1, I1.ofTry ok, q1⟩
  | ret v => exact let ⟨x, σ1, H1, I1, r1, q1⟩ := e; ⟨x, σ1, H1, I1.ofTry ok, r1, q1⟩
  | brk => exact let ⟨σ1, H1, I1, q1⟩ := e; ⟨σ1, H1, I1.ofTry ok, q1⟩
  | cont => exact let ⟨σ1, H1, I1, q1⟩ := e; ⟨σ1, H1, I1.ofTry ok, q1⟩⟩
end
end L2
namespace Dl
open PySem L2
/-! the same over data: each suite returns what its function reads of the error's fields -/
abbrev Hd : Type := Addr × Option Nat × (List (Str × D) → Option D)
def pickH (n : Nat) : List Hd → Xn → Option D
  | [], _ => none
  | (C, oi, k) :: r, x => if x.C = C then (if (match oi with | none => true | some i => decide (i < n)) = true then k (x.fs.getD []) else none) else pickH n r x
def sTryM (hs : List Hd) (fb : Sv) : Sv := fun e => match fb e with
  | .exn x e1 => (match pickH e1.ws.length hs x with | some y => .rt (.d y) e1 | none => .fail)
  | r => r
/-- what a suite must do -/
def SuOk (K : PySem.W.Frag) (C : Addr) (oi : Option Nat) (k : List (Str × D) → Option D) (ts : Addr → Value → Option Addr → TS) : Prop :=
  ∀ (a : Addr) (D' : Ends) (σ : St) (H R : Hp) (x : Xn) (d : Option Addr) (y : D), k (x.fs.getD []) = some y → (∀ i, oi = some i → σ[i]? = some (some (.ref a))) → ExR K R x (.ref C) d → Same R H →
    (∀ (v : V) (H' : Hp), (∃ (p : Addr) (o : HO), H p = none ∧ H' = upd H p o ∧ Rep K (upd R p o) y v) ∨ (H' = H ∧ Rep K R y v) → D'.rt v H') → ts a (.ref C) d D' σ H
inductive HdOkD (K : PySem.W.Frag) : List Hd → List HdT → Prop
  | nil : HdOkD K [] []
  | cons {C : Addr} {oi : Option Nat} {k : List (Str × D) → Option D} {ts : Addr → Value → Option Addr → TS} {l : List Hd} {t : List HdT} (su : SuOk K C oi k ts) (te : PySem.W.exmOne K (.ref C) (.ref C) = some true)
      (ne : ∀ h ∈ l, PySem.W.exmOne K (.ref h.1) (.ref C) = some false) (r : HdOkD K l t) : HdOkD K ((C, oi, k) :: l) ((.ref C, oi, ts) :: t)
theorem pick_mem {n : Nat} : ∀ {l : List Hd} {x : Xn} {y : D}, pickH n l x = some y → ∃ h ∈ l, x.C = h.1
  | [], _, _, h => by cases h
  | (C, oi, k) :: r, x, y, h => by
    unfold pickH at h
    by_cases hc : x.C = C
    · exact ⟨_, List.mem_cons_self, hc⟩
    · rw [if_neg hc] at h
      obtain ⟨g, h1, h2⟩ := pick_mem h
      exact ⟨g, List.mem_cons_of_mem _ h1, h2⟩
section
variable {X : Cx} {Wx : WX} {pos : Pos}
theorem wMix_ok {D' : Ends} {σ : St} {H R : Hp} {x : Xn} {d : Option Addr} {y : D} (xr : ExR X.K R x (.ref x.C) d) (sm : Same R H)
    (q : ∀ (v : V) (H' : Hp), (∃ (p : Addr) (o : HO), H p = none ∧ H' = upd H p o ∧ Rep X.K (upd R p o) y v) ∨ (H' = H ∧ Rep X.K R y v) → D'.rt v H') : ∀ {l : List Hd} {t : List HdT}, HdOkD X.K l t → pickH σ.length l x = some y → wMix X.K Wx D' t (.ref x.C) d σ H
  | _, _, .nil, h => by cases h
  | _, _, .cons (C := C) (oi := oi) (k := k) (ts := ts) su te ne r, h => by
    unfold pickH at h
    by_cases hc : x.C = C
    · rw [if_pos hc] at h
      subst hc
      refine ⟨true, te, fun _ a na => ?_, fun z => Bool.noConfusion z⟩
      cases oi with
      | none =>
        rw [if_pos rfl] at h
        exact su a D' σ H R x d y h (fun i z => by cases z) xr sm q
      | some i =>
        dsimp only at h ⊢
        split at h
        · rename_i hi
          have hi : i < σ.length := of_decide_eq_true hi
          exact su a _ _ H R x d y h (fun j z => by cases z; exact List.getElem?_set_self hi) xr sm q
        · cases h
    · rw [if_neg hc] at h
      obtain ⟨g, h1, h2⟩ := pick_mem h
      refine ⟨false, by rw [h2]; exact ne g h1, fun z => Bool.noConfusion z, fun _ => wMix_ok xr sm q r h⟩
theorem s_tryM {body : List Stmt} {h₀ : ExceptHandler} {hds : List ExceptHandler} {l : List Hd} {t : List HdT} {fb : Sv} (hs : X.stack = X.env :: X.outer) (hf : X.env.frame = some X.env.locals) (tk : L2.Takes X Wx)
    (hb : ∀ (W : WX) (pn : List (Addr × Obj)) (xe : Value → Shared → Prop), L2.Takes (X.tr pn xe) W → PassesOwn (model X.prog X.w) X.A X.env xe → PSs (X.tr pn xe) body (tS X.K W fb))
    (hh : HdMix X (h₀ :: hds) t) (ok : HdOkD X.K l t) : PS X (.Try body (h₀ :: hds) [] [] pos) (tS X.K Wx (sTryM l fb)) :=
  (L2.ps_try_mix (tb := fun W => tS X.K W fb) hs hf tk hb hh).imp fun D' σ H h => by
    obtain ⟨b, R, ρ, e, m, q⟩ := h
    refine ⟨b, R, ρ, e, m, ?_⟩
    unfold sTryM at q
    cases hfe : fb e with
    | nx e1 => rw [hfe] at q; exact q
    | rt w e1 => rw [hfe] at q; exact q
    | bk e1 => rw [hfe] at q; exact q
    | ct e1 => rw [hfe] at q; exact q
    | fail => rw [hfe] at q; exact q.elim
    | exn x e1 =>
      rw [hfe] at q
      intro R' ρ' σ' H' cls d s' m' xr
      dsimp only at q
      cases hp : pickH e1.ws.length l x with
      | none => rw [hp] at q; exact q.elim
      | some y =>
        rw [hp] at q
        have hcls := xr.1
        subst hcls
        refine wMix_ok xr m'.sub (fun v H2 hv => ?_) ok (by rw [m'.len]; exact hp)
        rcases hv with ⟨p, o, hp, rfl, rv⟩ | ⟨rfl, rv⟩
        · exact q _ ρ' σ' _ v (s'.trans (same_upd (m'.freshR hp))) (m'.freshD hp o) rv
        · exact q R' ρ' σ' _ v s' m' rv
end
/-! suites -/
/-- a part of what a suite returns -/
def PtOk (K : PySem.W.Frag) (C : Addr) (oi : Option Nat) (k : List (Str × D) → Option D) (t : Addr → Value → Option Addr → TE) : Prop :=
  ∀ (a : Addr) (σ : St) (H R : Hp) (x : Xn) (d : Option Addr) (y : D) (Q : VK), k (x.fs.getD []) = some y → (∀ i, oi = some i → σ[i]? = some (some (.ref a))) → ExR K R x (.ref C) d → Same R H → (∀ v, Rep K R y v → Q v H) → t a (.ref C) d σ H Q
def PtsOk (K : PySem.W.Frag) (C : Addr) (oi : Option Nat) (k : List (Str × D) → Option (List D)) (t : Addr → Value → Option Addr → TA) : Prop :=
  ∀ (a : Addr) (σ : St) (H R : Hp) (x : Xn) (d : Option Addr) (ys : List D) (Q : List V → Hp → Prop), k (x.fs.getD []) = some ys → (∀ i, oi = some i → σ[i]? = some (some (.ref a))) → ExR K R x (.ref C) d → Same R H → (∀ vs, RepL K R ys vs → Q vs H) → t a (.ref C) d σ H Q
def kC (d : D) : List (Str × D) → Option D := fun _ => some d
def kNil : List (Str × D) → Option (List D) := fun _ => some []
def kCons (k : List (Str × D) → Option D) (r : List (Str × D) → Option (List D)) : List (Str × D) → Option (List D) := fun fs => match k fs, r fs with | some x, some xs => some (x :: xs) | _, _ => none
def upTo (f : List D → D) : Option (List D) → Option D
  | some ys => if ys.length ≤ 1000 then some (f ys) else none
  | none => none
def kTupF (k : List (Str × D) → Option (List D)) : List (Str × D) → Option D := fun fs => upTo .tup (k fs)
def kLstF (k : List (Str × D) → Option (List D)) : List (Str × D) → Option D := fun fs => upTo .lst (k fs)
theorem upTo_some {f : List D → D} {o : Option (List D)} {y : D} (h : upTo f o = some y) : ∃ ys, o = some ys ∧ ys.length ≤ 1000 ∧ y = f ys := by
  cases o with
  | none => cases h
  | some ys =>
    by_cases hl : ys.length ≤ 1000
    · have h2 : upTo f (some ys) = some (f ys) := if_pos hl
      exact ⟨ys, rfl, hl, Option.some.inj (h.symm.trans h2)⟩
    · have h2 : upTo f (some ys) = none := if_neg hl
      exact nomatch h.symm.trans h2
section
variable {K : PySem.W.Frag} {C : Addr} {oi : Option Nat}
theorem pt_c {d : D} {v : V} (r : ∀ R, Rep K R d v) : PtOk K C oi (kC d) (fun _ _ _ => tC v) := fun a σ H R x dd y Q hk hi xr sm q => by
  cases hk
  exact q _ (r R)
theorem pt_fld {i : Nat} {f : Str} : PtOk K C (some i) (kFld f) (fun a cls d => tXf a cls d C f (tVar i)) := fun a σ H R x d y Q hk hi xr sm q => by
  have h2 := xr.2
  unfold kFld at hk
  cases hfs : x.fs with
  | none => rw [hfs] at hk; cases hk
  | some fs =>
    rw [hfs] at hk h2
    have hk : fs.lookup f = some y := hk
    obtain ⟨dd, ws, rfl, g1, g2, g3⟩ := h2
    obtain ⟨c, q1, q2⟩ := lookup_rep (F := fun x v => Rep K R x v) f g2 g3.paired hk
    exact ⟨.ref a, hi i rfl, rfl, rfl, dd, ws, c, rfl, sm _ _ g1, q1, q c q2⟩
theorem pts_nil' : PtsOk K C oi kNil (fun _ _ _ => tNil) := fun a σ H R x d ys Q hk hi xr sm q => by
  cases hk
  exact q _ .nil
theorem pts_cons' {k : List (Str × D) → Option D} {r : List (Str × D) → Option (List D)} {t : Addr → Value → Option Addr → TE} {u : Addr → Value → Option Addr → TA} (h : PtOk K C oi k t) (g : PtsOk K C oi r u) : PtsOk K C oi (kCons k r) (fun a cls d => tCons (t a cls d) (u a cls d)) := fun a σ H R x d ys Q hk hi xr sm q => by
  unfold kCons at hk
  cases h1 : k (x.fs.getD []) with
  | none => simp only [h1] at hk; cases hk
  | some y =>
    cases h2 : r (x.fs.getD []) with
    | none => simp only [h1, h2] at hk; cases hk
    | some zs =>
      simp only [h1, h2] at hk
      cases hk
      exact h a σ H R x d y _ h1 hi xr sm fun v rv => g a σ H R x d zs _ h2 hi xr sm fun vs rvs => q _ (.cons rv rvs)
/-- return part -/
theorem su_one {k : List (Str × D) → Option D} {t : Addr → Value → Option Addr → TE} (h : PtOk K C oi k t) : SuOk K C oi k (fun a cls d => tRet (t a cls d)) := fun a D' σ H R x d y hk hi xr sm q =>
  h a σ H R x d y _ hk hi xr sm fun v rv => q v H (.inr ⟨rfl, rv⟩)
theorem freeR {R H : Hp} (sm : Same R H) {p : Addr} (hp : H p = none) : R p = none := by
  cases hR : R p with
  | none => rfl
  | some o => exact absurd ((sm p o hR).symm.trans hp) (fun z => nomatch z)
/-- return (part, ..) -/
theorem su_tup {k : List (Str × D) → Option (List D)} {t : Addr → Value → Option Addr → TA} (h : PtsOk K C oi k t) : SuOk K C oi (kTupF k) (fun a cls d => tRet (tTup (t a cls d))) := fun a D' σ H R x d y hk hi xr sm q => by
  obtain ⟨ys, hl, hz, rfl⟩ := upTo_some hk
  exact h a σ H R x d ys _ hl hi xr sm fun vs rvs => ⟨by rw [← rvs.length, sizeL]; omega, fun p hp => q (.ref p) _ (.inl ⟨p, _, hp, rfl, .tup upd_same (RepL.mono (same_upd (freeR sm hp)) rvs)⟩)⟩
/-- return [part, ..] -/
theorem su_lst {k : List (Str × D) → Option (List D)} {t : Addr → Value → Option Addr → TA} (h : PtsOk K C oi k t) : SuOk K C oi (kLstF k) (fun a cls d => tRet (tLst (t a cls d))) := fun a D' σ H R x d y hk hi xr sm q => by
  obtain ⟨ys, hl, hz, rfl⟩ := upTo_some hk
  exact h a σ H R x d ys _ hl hi xr sm fun vs rvs => ⟨by rw [← rvs.length, sizeL]; omega, fun p hp => q (.ref p) _ (.inl ⟨p, _, hp, rfl, .lst upd_same (RepL.mono (same_upd (freeR sm hp)) rvs)⟩)⟩
end
/-! evaluation -/
section
variable {hs : List Hd} {fb : Sv} {e : Env} {w : W} {x : Xn} {y : D}
def tmK (hs : List Hd) (r : SR) : SR := match r with
  | .exn x e1 => (match pickH e1.ws.length hs x with | some y => .rt (.d y) e1 | none => .fail)
  | r => r
@[simp] theorem sTryM_ev : sTryM hs fb e = tmK hs (fb e) := rfl
@[simp] theorem tmK_nx : tmK hs (.nx e) = .nx e := rfl
@[simp] theorem tmK_rt : tmK hs (.rt w e) = .rt w e := rfl
theorem tmK_exn (h : pickH e.ws.length hs x = some y) : tmK hs (.exn x e) = .rt (.d y) e := by
  show (match pickH e.ws.length hs x with | some y => SR.rt (.d y) e | none => .fail) = _
  rw [h]
end
end Dl
end
section
set_option Elab.async false
set_option linter.all false
set_option maxRecDepth 100000
set_option maxHeartbeats 4000000
/-! sorted(set(xs)) of a list of ints -/
namespace DlSet
open PySem PySem.Spec PySem.Calls PyProof.Rows L2
/-- what set() makes -/
abbrev bare (w : World) : Obj := { cls := .type "set", dict := none, data := .set #[] 0 (.fresh 0 0 (!w.params.followText "set-order")) }
section
variable {P : Program} {w : World} {A : Around} {E : Value → Shared → Prop} {s : Shared} {l S : Addr} {items : Array Value} {ns : List Int}
theorem fill {R : Result → Shared → Prop} (hh : A.handled = none) (hl : s.heap.IsList l items) (hS : s.heap.get? S = some (bare w)) (hit : IntsAre items.toList ns) (hb : ns.length + 1 < scanBound)
    (hR : ∀ (h' : Heap) (tk c : Nat), SetR w h' S (fun j => decide (j ∈ ns)) c → c ≤ ns.length → (∀ b o, b ≠ S → s.heap.get? b = some o → h'.get? b = some o) → R (.ok (.ret .none)) { s with heap := h', toks := tk }) :
    codeAny (model P w) A (.call (.builtin "set.__init__") ⟨[.ref S, .ref l], []⟩) R s := by
  have tS : Shared.TypeIs s (.ref S) "set" := ⟨_, hS, rfl⟩
  have sz : items.size = ns.length := (Array.length_toList (xs := items)).symm.trans (IntsAre.length hit)
  obtain ⟨⟨lc, ld, lda, lsl⟩, gl, cl, n, dl⟩ := id hl
  simp only at cl dl
  subst cl dl
  refine codeAny_call_builtin F.called_set.init.plain F.entry_set_init (check_set_init_1 tS ?_)
  have n1 := F.sub_list_set
  have n2 := F.sub_list_frozenset
  have n3 : (Value.type "list" == Value.type "dict") = false := by decide
  unfold Builtin.«set.__init__» noKeywords Builtin.Frozenset.updateFrom
  generalize hi : pyIter = it
  wp_walk
  subst hi
  have hneS : S ≠ s.heap.objs.size := Nat.ne_of_lt (Heap.lt_size hS)
  have hnel : l ≠ s.heap.objs.size := Nat.ne_of_lt (Heap.lt_size gl)
  have hSl : S ≠ l := fun e => by
    subst e
    have z := congrArg Obj.cls (Option.some.inj (gl.symm.trans hS))
    exact absurd z (by simp)
  refine wpAny_pyIter_list hl (wpAny_bind (wpAny_runValue ?_))
  have quiet : A.in1.in1.handled = none := hh
  refine set_update_ints ((Walks.list quiet s.heap.objs.size l hnel items).toS) S (by simp [hneS, hSl]) ns sz hb (fun i v hv => ?_) (items.size - 0) 0 _ (by omega) (Nat.zero_le _)
    ⟨⟨_, Heap.get?_push_size _ rfl, rfl, rfl⟩, hl.push _⟩ ⟨0, Nat.le_refl 0, setR_new_at (Heap.get?_push_of_some _ hS)⟩ fun t c mv le sr => ?_
  · have hi : i < ns.length := by rw [← sz]; exact (Array.getElem?_eq_some_iff.mp hv).1
    obtain ⟨tk, e⟩ := IntsAre.int_at hit i v (by rw [Array.getElem?_toList]; exact hv)
    exact ⟨ns[i], tk, List.getElem?_eq_getElem hi, by rw [e, List.getD_eq_getElem?_getD, List.getElem?_eq_getElem hi] <;> rfl⟩
  · obtain ⟨th, tg, td, tt, to⟩ := t
    obtain rfl : tg = s.gens := mv.gens
    obtain rfl : td = s.drawn := mv.drawn
    obtain rfl : to = s.os := mv.os
    refine wpAny_pure ?_
    show wpAny _ _ (ret Value.none) _ _ _
    exact wpAny_pure (hR th tt c sr (by rw [← sz]; exact le) fun b o ne e => mv.heap b o (by simp [ne, Nat.ne_of_lt (Heap.lt_size e)]) (Heap.get?_push_of_some _ e))
/-- set(xs), the items whole numbers -/
theorem made {Q : Value → Shared → Prop} (hh : A.handled = none) (hl : s.heap.IsList l items) (hit : IntsAre items.toList ns) (hb : ns.length + 1 < scanBound)
    (hQ : ∀ (h' : Heap) (tk c : Nat), SetR w h' s.heap.objs.size (fun j => decide (j ∈ ns)) c → c ≤ ns.length → (∀ b o, s.heap.get? b = some o → h'.get? b = some o) → Q (.ref s.heap.objs.size) { s with heap := h', toks := tk }) :
    wpAny (model P w) A (call (.type "set") [.ref l]) Q E s := by
  have T := F.called_set
  obtain ⟨c0, tl, mro⟩ := T.mro
  have a1 := T.made
  have a2 := T.sub
  have a3 := T.notType
  have a4 := T.canCreate
  have a5 := F.typeCall_set_1 (.ref l)
  refine wpAny_call (codeAny_of_tree ?_)
  show wpAny _ _ (callAny (.type "set") _) _ _ _
  refine wpAny_pure ⟨Code.quiet_builtin _ (by decide +kernel), codeAny_builtin F.entry_type_call ?_⟩
  rw [Around.under_plain (weight_type_call_type "set" [.ref l] []) rfl]
  repeat (any_goals (first | assumption | wp_step))
  refine codeAny_mono (code_set_led1 (.ref l) (E := E) (Q₁ := fun v t => v = .ref s.heap.objs.size ∧ t = { s with heap := s.heap.push (bare w) }) ⟨rfl, rfl⟩) fun r t e => ?_
  match r, e with
  | .ok (.ret v), e =>
    obtain ⟨rfl, rfl⟩ := e
    have at_ : (s.heap.push (bare w)).get? s.heap.objs.size = some (bare w) := Heap.get?_push_size _ rfl
    have tS : Shared.TypeIs { s with heap := s.heap.push (bare w) } (.ref s.heap.objs.size) "set" := ⟨_, at_, rfl⟩
    have b1 := T.init.lookup
    have b2 := T.init.bind (.ref s.heap.objs.size)
    repeat (any_goals (first | assumption | wp_step))
    refine codeAny_mono (fill (R := wants (fun r t => r = .none ∧ ∃ h' tk c, t = { s with heap := h', toks := tk } ∧ SetR w h' s.heap.objs.size (fun j => decide (j ∈ ns)) c ∧ c ≤ ns.length ∧ (∀ b o, s.heap.get? b = some o → h'.get? b = some o)) E) hh (hl.push _) at_ hit hb
      fun h' tk c sr le old => ⟨rfl, h', tk, c, rfl, sr, le, fun b o e => old b o (Nat.ne_of_lt (Heap.lt_size e)) (Heap.get?_push_of_some _ e)⟩) fun r2 t2 e2 => ?_
    match r2, e2 with
    | .ok (.ret v2), e2 =>
      obtain ⟨rfl, h', tk, c, rfl, sr, le, old⟩ := e2
      repeat (any_goals (first | assumption | wp_step))
      exact hQ _ _ _ sr le old
    | .error _, e2 => exact e2
  | .error _, e => exact e
end
end DlSet
end
section
set_option Elab.async false
set_option linter.all false
set_option maxRecDepth 100000
set_option maxHeartbeats 4000000
namespace Dl
open PySem L2
/-! sorted(set(xs)), whole numbers, fewer than 64 -/
def insI (x : Int) : List Int → List Int
  | [] => [x]
  | y :: r => if x < y then x :: y :: r else if x = y then y :: r else y :: insI x r
def srtI (ns : List Int) : List Int := ns.foldr insI []
theorem insI_mem {x k : Int} : ∀ {l : List Int}, k ∈ insI x l ↔ k = x ∨ k ∈ l
  | [] => by simp [insI]
  | y :: r => by
    unfold insI
    split
    · simp
    · split
      · rename_i _ h
        subst h
        simp
      · rw [List.mem_cons, insI_mem, List.mem_cons]
        constructor
        · rintro (h | h | h) <;> simp [h]
        · rintro (h | h | h) <;> simp [h]
theorem insI_asc {x : Int} : ∀ {l : List Int}, l.Pairwise (· < ·) → (insI x l).Pairwise (· < ·)
  | [], _ => by simp [insI]
  | y :: r, h => by
    have h' := List.pairwise_cons.mp h
    unfold insI
    split
    · rename_i hx
      refine List.pairwise_cons.mpr ⟨fun z hz => ?_, h⟩
      rcases List.mem_cons.mp hz with rfl | hz
      · exact hx
      · exact Int.lt_trans hx (h'.1 z hz)
    · split
      · exact h
      · rename_i h1 h2
        refine List.pairwise_cons.mpr ⟨fun z hz => ?_, insI_asc h'.2⟩
        rcases insI_mem.mp hz with rfl | hz
        · omega
        · exact h'.1 z hz
theorem srtI_mem {k : Int} : ∀ {l : List Int}, k ∈ srtI l ↔ k ∈ l
  | [] => by simp [srtI]
  | y :: r => by
    have ih := srtI_mem (k := k) (l := r)
    unfold srtI at ih ⊢
    rw [List.foldr_cons, insI_mem, ih, List.mem_cons]
theorem srtI_asc : ∀ {l : List Int}, (srtI l).Pairwise (· < ·)
  | [] => .nil
  | y :: r => by
    have ih := srtI_asc (l := r)
    unfold srtI at ih ⊢
    rw [List.foldr_cons]
    exact insI_asc ih
/-- an ascending list is told by its members -/
theorem asc_uniq : ∀ {l m : List Int}, l.Pairwise (· < ·) → m.Pairwise (· < ·) → (∀ k, k ∈ l ↔ k ∈ m) → l = m
  | [], [], _, _, _ => rfl
  | [], y :: m, _, _, h => absurd ((h y).mpr List.mem_cons_self) (by simp)
  | x :: l, [], _, _, h => absurd ((h x).mp List.mem_cons_self) (by simp)
  | x :: l, y :: m, hl, hm, h => by
    have h1 := List.pairwise_cons.mp hl
    have h2 := List.pairwise_cons.mp hm
    have exy : x = y := by
      rcases List.mem_cons.mp ((h x).mp List.mem_cons_self) with e | e
      · exact e
      · rcases List.mem_cons.mp ((h y).mpr List.mem_cons_self) with e2 | e2
        · exact e2.symm
        · have := h1.1 y e2
          have := h2.1 x e
          omega
    subst exy
    rw [asc_uniq h1.2 h2.2 fun k => ?_]
    constructor
    · intro hk
      rcases List.mem_cons.mp ((h k).mp (List.mem_cons_of_mem _ hk)) with e | e
      · have := h1.1 k hk; omega
      · exact e
    · intro hk
      rcases List.mem_cons.mp ((h k).mpr (List.mem_cons_of_mem _ hk)) with e | e
      · have := h2.1 k hk; omega
      · exact e
theorem asc_len_le : ∀ {l : List Int}, (srtI l).length ≤ l.length
  | [] => Nat.le_refl 0
  | y :: r => by
    have ih := asc_len_le (l := r)
    have one : ∀ m : List Int, (insI y m).length ≤ m.length + 1 := fun m => by
      induction m with
      | nil => simp [insI]
      | cons z m ih =>
        unfold insI
        split
        · simp
        · split
          · simp
          · simp; omega
    unfold srtI at ih ⊢
    rw [List.foldr_cons, List.length_cons]
    exact Nat.le_trans (one _) (by omega)
/-- set(xs) -/
def rSetL (K : PySem.W.Frag) (w : World) : List V → Hp → VK → Prop := fun xs H Q => ∃ (p : Addr) (ns : List Int), xs = [V.ref p] ∧ SqL K H p (ns.map V.int) ∧ ns.length ≤ 1000 ∧ ∀ (a : Addr) (n : Nat), n ≤ ns.length → H a = none → Q (.ref a) (upd H a (SetO w a (fun k => decide (k ∈ ns)) n))
section
variable {X : Cx} {Wx : WX} {c : Expr} {p p2 pos pos2 : Pos}
theorem cr_setL (hc : X.calm = true) : CallR X (.type "set") (rSetL X.K X.w) := by
  intro pins s σ H xs us Q I r h
  obtain ⟨q, ns, rfl, hq, hl, k⟩ := h
  obtain rfl := Vals.ref1 r
  obtain ⟨its, rv, pl, hz⟩ := I.list hq
  have fr : H s.heap.objs.size = none := I.hok.fresh (Nat.le_refl _)
  exact DlSet.made (I.ok.hd hc) pl.isList (by simpa using ints_of_vals rv) (by unfold scanBound; omega) fun h' tk n sr le old => ⟨.ref s.heap.objs.size, _, I.laid (t' := tk) old (Nat.le_refl _) (setO_new sr), rfl, k _ n le fr⟩
def kSoSet : W → Ev := fun w e => match w with
  | .d (.lst xs) => (match intsD xs with | some ns => if ns.length < 64 then .ok (.d (.lst ((srtI ns).map .int))) e else .fail | none => .fail)
  | _ => .fail
def eSoSet (f : Ev) : Ev := fun e => (f e).bind kSoSet
theorem d_soSet {f : Ev} (hc : X.calm = true) (hg : Gl X "sorted") (hm : X.mg "sorted" = none) (hg2 : Gl X "set") (hm2 : X.mg "set" = none) (ha : PE X c (tD X.K Wx f))
    (hs2 : starEach [c] X.env = (false, eval c X.env) :: starEach [] X.env := by rfl) (hpl2 : (backTo pos2 (starEach [] X.env)).any (·.1) = false := by rfl)
    (hs : starEach [.Call (.Name "set" p2) [c] [] pos2] X.env = (false, eval (.Call (.Name "set" p2) [c] [] pos2) X.env) :: starEach [] X.env := by rfl) (hpl : (backTo pos (starEach [] X.env)).any (·.1) = false := by rfl) :
    PE X (.Call (.Name "sorted" p) [.Call (.Name "set" p2) [c] [] pos2] [] pos) (tD X.K Wx (eSoSet f)) :=
  (pe_callB (cr_sortedSet hc) hg hm (by rfl) (pa_cons (pe_callTy (cr_setL hc) hg2 hm2 (by rfl) (pa_cons ha pa_nil hs2) (by decide) (by decide) hs2 hpl2) pa_nil hs) (by decide) (by decide) hs hpl).imp fun σ H Q q =>
  tG_one q fun bs R ρ e H w v m r q2 => by
    unfold kSoSet at q2
    split at q2
    · rename_i xs
      cases hi : intsD xs with
      | none => rw [hi] at q2; exact q2.elim
      | some ns =>
        rw [hi] at q2
        dsimp only at q2
        split at q2
        · rename_i h64
          have r : Rep X.K R (.lst xs) v := r
          cases r with
          | lst h1 l1 =>
            rw [intsD_eq hi] at l1
            rw [l1.ints_inv] at h1
            refine ⟨_, ns, rfl, SqL.of (m.sub _ _ h1), by omega, fun a n hn fa => ⟨a, _, n, rfl, upd_same, by omega, fun out q pw mem len fq => ?_⟩⟩
            have eo : out = srtI ns := asc_uniq pw srtI_asc fun z => by rw [mem z, srtI_mem, decide_eq_true_iff]
            subst eo
            have nq : q ≠ a := fun z => by rw [z, upd_same] at fq; cases fq
            have fq : H q = none := by rwa [upd_ne nq] at fq
            have g1 : Same H (upd (upd H a (SetO X.w a (fun k => decide (k ∈ ns)) n)) q (.lst ((srtI ns).map V.int))) := fun x o h => by
              rw [upd_ne (fun z => by rw [z, fq] at h; cases h), upd_ne (fun z => by rw [z, fa] at h; cases h)]; exact h
            have g2 : Same R (upd R q (.lst ((srtI ns).map V.int))) := same_upd (m.freshR fq)
            have g3 : Same (upd R q (.lst ((srtI ns).map V.int))) (upd (upd H a (SetO X.w a (fun k => decide (k ∈ ns)) n)) q (.lst ((srtI ns).map V.int))) := fun x o h => by
              by_cases z : x = q
              · subst z; rw [upd_same] at h ⊢; exact h
              · rw [upd_ne z] at h; exact g1 _ _ (m.sub _ _ h)
            refine q2 _ ρ (.ref q) _ g2 (Live.refl e ρ) (m.grow2 g1 g2 g3 fun x o h => ?_) (.lst upd_same ?_)
            · by_cases z : x = q
              · subst z; exact .inr fq
              · rw [upd_ne z] at h; exact .inl h
            · exact RepL.ints
        · exact q2.elim
    · exact q2.elim
end
/-! xs.count(k), whole numbers -/
section
variable {K : PySem.W.Frag} {Wx : WX}
def kCount (w : W) (ws : List W) : Ev := fun e => match w, ws with
  | .d (.lst xs), [.d (.int k)] => (match intsD xs with | some ns => .ok (.d (.int (ns.count k : Nat))) e | none => .fail)
  | _, _ => .fail
theorem kCount_ok : MethD K Wx kCount (rCntI K) := fun b R ρ e σ H w v ws vs Q m r rs q => by
  unfold kCount at q
  split at q
  · rename_i xs k
    obtain ⟨u, e2, ru⟩ := pair1 rs
    subst e2
    have ru : Rep K R (.int k) u := ru
    cases ru
    have r : Rep K R (.lst xs) v := r
    cases r with
    | lst h1 l1 =>
      cases hi : intsD xs with
      | none => rw [hi] at q; exact q.elim
      | some ns =>
        rw [hi] at q
        rw [intsD_eq hi] at l1
        rw [l1.ints_inv] at h1
        exact ⟨_, ns, k, rfl, rfl, SqL.of (m.sub _ _ h1), q.fin m (.int _)⟩
  · exact q.elim
end
section
variable {f : Ev} {e : Env} {ns : List Int} {k : Int}
def soK (r : Rs W) : Rs W := r.bind kSoSet
@[simp] theorem eSoSet_ev : eSoSet f e = soK (f e) := rfl
@[simp] theorem soK_ok : soK (.ok (.d (.lst (ns.map .int))) e) = if ns.length < 64 then .ok (.d (.lst ((srtI ns).map .int))) e else .fail := by
  show (match intsD (ns.map .int) with | some ns => if ns.length < 64 then Rs.ok (W.d (.lst ((srtI ns).map .int))) e else .fail | none => .fail) = _
  rw [intsD_map]
@[simp] theorem isLst_dat {l : List D} : isLst e (.d (.lst l)) = true := rfl
@[simp] theorem kCount_ev : kCount (.d (.lst (ns.map .int))) [.d (.int k)] e = .ok (.d (.int (ns.count k : Nat))) e := by
  show (match intsD (ns.map .int) with | some ns => Rs.ok (W.d (.int (ns.count k : Nat))) e | none => .fail) = _
  rw [intsD_map]
end
end Dl
end
section
set_option Elab.async false
set_option linter.all false
set_option maxRecDepth 100000
set_option maxHeartbeats 4000000
namespace Dl
open PySem L2
/-! dicts: keys are ints and texts, or tuples of them -/
section
variable {κ : Type} [DecidableEq κ]
def lkp : List (κ × D) → κ → Option D
  | [], _ => none
  | p :: r, k => if p.1 = k then some p.2 else lkp r k
/-- in its place, or at the end -/
def putD (kvs : List (κ × D)) (k : κ) (y : D) : List (κ × D) := if (lkp kvs k).isSome = true then kvs.map (fun p => if p.1 = k then (p.1, y) else p) else kvs ++ [(k, y)]
theorem lkp_app : ∀ (kvs l : List (κ × D)) (k : κ), lkp (kvs ++ l) k = (lkp kvs k).or (lkp l k)
  | [], _, _ => rfl
  | p :: r, l, k => by
    rw [List.cons_append, lkp, lkp]
    split
    · rfl
    · exact lkp_app r l k
theorem lkp_map (k j : κ) (y : D) : ∀ kvs : List (κ × D), lkp (kvs.map fun p => if p.1 = k then (p.1, y) else p) j = (lkp kvs j).map fun x => if j = k then y else x
  | [] => rfl
  | p :: r => by
    rw [List.map_cons, lkp, lkp]
    by_cases e : p.1 = k
    · rw [if_pos e]
      by_cases f : p.1 = j
      · rw [if_pos f, if_pos f, Option.map_some, if_pos (f.symm.trans e)]
      · rw [if_neg f, if_neg f]; exact lkp_map k j y r
    · rw [if_neg e]
      by_cases f : p.1 = j
      · rw [if_pos f, if_pos f, Option.map_some, if_neg (fun z => e (f.trans z))]
      · rw [if_neg f, if_neg f]; exact lkp_map k j y r
theorem lkp_put (kvs : List (κ × D)) (k j : κ) (y : D) : lkp (putD kvs k y) j = if j = k then some y else lkp kvs j := by
  unfold putD
  by_cases h : (lkp kvs k).isSome = true
  · rw [if_pos h, lkp_map]
    by_cases e : j = k
    · subst e
      obtain ⟨x, hx⟩ := Option.isSome_iff_exists.mp h
      rw [hx, if_pos rfl, Option.map_some, if_pos rfl]
    · rw [if_neg e]
      cases lkp kvs j with
      | none => rfl
      | some x => rw [Option.map_some, if_neg e]
  · rw [if_neg h, lkp_app]
    have h0 : lkp kvs k = none := by cases q : lkp kvs k with
      | none => rfl
      | some x => rw [q] at h; exact absurd rfl h
    by_cases e : j = k
    · subst e
      rw [if_pos rfl, h0, lkp, if_pos rfl]
      rfl
    · rw [if_neg e, lkp, if_neg (fun z => e z.symm), lkp]
      cases lkp kvs j <;> rfl
theorem put_len (kvs : List (κ × D)) (k : κ) (y : D) : (putD kvs k y).length = if (lkp kvs k).isSome = true then kvs.length else kvs.length + 1 := by
  unfold putD
  split <;> simp
end
def keyD : D → Option Key
  | .int i => some (.inl i)
  | .str x => some (.inr x)
  | _ => none
def keysD : List D → Option (List Key)
  | [] => some []
  | x :: r => match keyD x, keysD r with | some k, some ks => some (k :: ks) | _, _ => none
/-- what a dict holds at a key -/
def getD (kvs : List (Key × D)) (y : D) : Option (Option D) := (keyD y).map (lkp kvs)
def getT (kvs : List (List Key × D)) (y : D) : Option (Option D) := match y with | .tup xs => (keysD xs).map (lkp kvs) | _ => none
section
variable {K : PySem.W.Frag} {R : Hp}
theorem keyD_rep {x : D} {k : Key} {v : V} (h : keyD x = some k) (r : Rep K R x v) : v = kV k := by
  cases r <;> first | (cases h; rfl) | cases h
theorem keysD_rep : ∀ {xs : List D} {ks : List Key} {vs : List V}, keysD xs = some ks → RepL K R xs vs → vs = ks.map kV
  | [], _, _, h, .nil => by cases h; rfl
  | x :: r, _, _, h, .cons a t => by
    unfold keysD at h
    cases h1 : keyD x with
    | none => rw [h1] at h; cases h
    | some k =>
      cases h2 : keysD r with
      | none => rw [h1, h2] at h; cases h
      | some ks =>
        rw [h1, h2] at h; cases h
        rw [keyD_rep h1 a, keysD_rep h2 t]
        rfl
variable {κ : Type} [DecidableEq κ]
theorem lkp_rep : ∀ {kvs : List (κ × D)} {ws : List (κ × V)} (k : κ), ws.map (·.1) = kvs.map (·.1) → RepL K R (kvs.map (·.2)) (ws.map (·.2)) →
    (lkp kvs k = none ∧ valV ws k = none) ∨ ∃ d v, lkp kvs k = some d ∧ valV ws k = some v ∧ Rep K R d v
  | [], [], k, _, _ => .inl ⟨rfl, valV_nil⟩
  | [], _ :: _, k, h, _ => by simp at h
  | _ :: _, [], k, h, _ => by simp at h
  | p :: r, q :: s, k, h, .cons a t => by
    rw [List.map_cons, List.map_cons] at h
    injection h with h1 h2
    unfold lkp
    by_cases e : p.1 = k
    · rw [if_pos e, valV_pos (h1.trans e)]
      exact .inr ⟨_, _, rfl, rfl, a⟩
    · rw [if_neg e, valV_neg (fun z => e (h1.symm.trans z))]
      exact lkp_rep k h2 t
theorem put_rep {kvs : List (κ × D)} {ws : List (κ × V)} (k : κ) {y : D} {v : V} (h : ws.map (·.1) = kvs.map (·.1)) (r : RepL K R (kvs.map (·.2)) (ws.map (·.2))) (ry : Rep K R y v) :
    (putK ws k v).map (·.1) = (putD kvs k y).map (·.1) ∧ RepL K R ((putD kvs k y).map (·.2)) ((putK ws k v).map (·.2)) := by
  have hany : (ws.any fun kv => decide (kv.1 = k)) = (lkp kvs k).isSome := by
    rw [valV_any]
    rcases lkp_rep k h r with ⟨a, b⟩ | ⟨d, v, a, b, _⟩
    · rw [a, b]; rfl
    · rw [a, b]; rfl
  have hm : ∀ {kvs : List (κ × D)} {ws : List (κ × V)}, ws.map (·.1) = kvs.map (·.1) → RepL K R (kvs.map (·.2)) (ws.map (·.2)) →
      (ws.map fun kv => if kv.1 = k then (kv.1, v) else kv).map (·.1) = (kvs.map fun p => if p.1 = k then (p.1, y) else p).map (·.1) ∧ RepL K R ((kvs.map fun p => if p.1 = k then (p.1, y) else p).map (·.2)) ((ws.map fun kv => if kv.1 = k then (kv.1, v) else kv).map (·.2)) := by
    intro kvs
    induction kvs with
    | nil =>
      intro ws h r
      cases ws with
      | nil => exact ⟨rfl, .nil⟩
      | cons q s => simp at h
    | cons p l ih =>
      intro ws h r
      cases ws with
      | nil => simp at h
      | cons q s =>
        rw [List.map_cons, List.map_cons] at h
        injection h with h1 h2
        cases r with
        | cons a t =>
          obtain ⟨i1, i2⟩ := ih h2 t
          simp only [List.map_cons]
          by_cases e : p.1 = k
          · have e2 : q.1 = k := h1.trans e
            rw [if_pos e, if_pos e2]
            exact ⟨by rw [i1, h1], .cons ry i2⟩
          · have e2 : ¬ q.1 = k := fun z => e (h1.symm.trans z)
            rw [if_neg e, if_neg e2]
            exact ⟨by rw [i1, h1], .cons a i2⟩
  unfold putK putD
  rw [hany]
  split
  · exact hm h r
  · rw [List.map_append, List.map_append, h]
    exact ⟨rfl, by rw [List.map_append, List.map_append]; exact r.append (.cons ry .nil)⟩
theorem put_le (kvs : List (κ × D)) (k : κ) (y : D) : kvs.length ≤ (putD kvs k y).length := by
  rw [put_len]; split <;> omega
end
end Dl
end
section
set_option Elab.async false
set_option linter.all false
set_option maxRecDepth 100000
set_option maxHeartbeats 4000000
namespace Dl
open PySem L2
/-! dicts: what is read of them -/
/-- what the dict w1 holds at the key w2 -/
def getC (c : Cell) (y : D) : Option (Option D) := match c with
  | .dic kvs => getD kvs y
  | .dct kvs => getT kvs y
  | _ => none
def getW (e : Env) (w y : W) : Option (Option D) := match w, y with
  | .d (.dic kvs), .d y => getD kvs y
  | .d (.dct kvs), .d y => getT kvs y
  | .loc n, .d y => (match e.cell n with | some c => getC c y | none => none)
  | _, _ => none
section
variable {K : PySem.W.Frag} {Wx : WX} {b : Bs} {R : Hp} {ρ : Nat → Addr} {e : Env} {σ : St} {H : Hp}
def LkR (K : PySem.W.Frag) (R : Hp) (o : Option D) (ov : Option V) : Prop := (o = none ∧ ov = none) ∨ ∃ d v, o = some d ∧ ov = some v ∧ Rep K R d v
theorem getD_ok {kvs : List (Key × D)} {ws : List (Key × V)} {a : Addr} {y : D} {vy : V} {o : Option D} (h : getD kvs y = some o) (ha : H a = some (.dK ws)) (hk : ws.map (·.1) = kvs.map (·.1)) (hl : RepL K R (kvs.map (·.2)) (ws.map (·.2))) (ry : Rep K R y vy) :
    ∃ ov, DGet H a vy ov ∧ LkR K R o ov := by
  unfold getD at h
  cases hy : keyD y with
  | none => rw [hy] at h; cases h
  | some k =>
    rw [hy] at h
    cases h
    rw [keyD_rep hy ry]
    refine ⟨valV ws k, .k ha, ?_⟩
    rcases lkp_rep k hk hl with ⟨h1, h2⟩ | ⟨d, v, h1, h2, h3⟩
    · exact .inl ⟨h1, h2⟩
    · exact .inr ⟨d, v, h1, h2, h3⟩
theorem getT_ok {kvs : List (List Key × D)} {ws : List (List Key × V)} {a : Addr} {y : D} {vy : V} {o : Option D} (h : getT kvs y = some o) (ha : H a = some (.dT ws)) (hk : ws.map (·.1) = kvs.map (·.1)) (hl : RepL K R (kvs.map (·.2)) (ws.map (·.2))) (ry : Rep K R y vy) (s : Same R H) :
    ∃ ov, DGet H a vy ov ∧ LkR K R o ov := by
  unfold getT at h
  cases y with
  | tup xs =>
    have h : (keysD xs).map (lkp kvs) = some o := h
    cases hy : keysD xs with
    | none => rw [hy] at h; cases h
    | some k =>
      rw [hy] at h
      cases h
      cases ry with
      | tup h1 l1 =>
        rw [keysD_rep hy l1] at h1
        refine ⟨valV ws k, .t ha (s _ _ h1), ?_⟩
        rcases lkp_rep k hk hl with ⟨g1, g2⟩ | ⟨d, v, g1, g2, g3⟩
        · exact .inl ⟨g1, g2⟩
        · exact .inr ⟨d, v, g1, g2, g3⟩
  | _ => cases h
theorem getW_ok {w y : W} {vw vy : V} {o : Option D} (m : Md K b R ρ e σ H) (r : RepW K R ρ w vw) (ry : RepW K R ρ y vy) (h : getW e w y = some o) : ∃ a ov, vw = .ref a ∧ DGet H a vy ov ∧ LkR K R o ov := by
  unfold getW at h
  split at h
  · rename_i kvs y
    have r : Rep K R (.dic kvs) vw := r
    cases r with
    | dic h1 h2 h3 =>
      obtain ⟨ov, g1, g2⟩ := getD_ok h (m.sub _ _ h1) h2 h3 ry
      exact ⟨_, ov, rfl, g1, g2⟩
  · rename_i kvs y
    have r : Rep K R (.dct kvs) vw := r
    cases r with
    | dct h1 h2 h3 =>
      obtain ⟨ov, g1, g2⟩ := getT_ok h (m.sub _ _ h1) h2 h3 ry m.sub
      exact ⟨_, ov, rfl, g1, g2⟩
  · rename_i n y
    cases hc : e.cell n with
    | none => rw [hc] at h; cases h
    | some c =>
      rw [hc] at h
      have h : getC c y = some o := h
      have e1 : vw = .ref (ρ n) := r
      have ca := m.cell n c hc
      cases c with
      | dic kvs =>
        obtain ⟨ws, h1, h2, h3⟩ := ca
        obtain ⟨ov, g1, g2⟩ := getD_ok (o := o) h h1 h2 h3 ry
        exact ⟨_, ov, e1, g1, g2⟩
      | dct kvs =>
        obtain ⟨ws, h1, h2, h3⟩ := ca
        obtain ⟨ov, g1, g2⟩ := getT_ok (o := o) h h1 h2 h3 ry m.sub
        exact ⟨_, ov, e1, g1, g2⟩
      | _ => cases h
  · cases h
theorem lk_isSome {o : Option D} {ov : Option V} (l : LkR K R o ov) : ov.isSome = o.isSome := by
  rcases l with ⟨rfl, rfl⟩ | ⟨d, v, rfl, rfl, _⟩ <;> rfl
end
/-- d[k] -/
def kDGet (w y : W) : Ev := fun e => match getW e w y with | some (some d) => .ok (.d d) e | _ => .fail
def eDGet (f g : Ev) : Ev := bin2 f g kDGet
/-- k in d, k not in d -/
def kDIn (neg : Bool) (y w : W) : Ev := fun e => match getW e w y with | some o => .ok (.d (.bl (o.isSome != neg))) e | none => .fail
def kDInB (neg : Bool) (y w : W) : Env → Rs Bool := fun e => match getW e w y with | some o => .ok (o.isSome != neg) e | none => .fail
def eDIn (neg : Bool) (g f : Ev) : Ev := bin2 g f (kDIn neg)
def bDIn (neg : Bool) (g f : Ev) : Env → Rs Bool := bin2 g f (kDInB neg)
section
variable {X : Cx} {Wx : WX} {a c : Expr} {pos : Pos} {f g : Ev}
theorem d_dget (hu : X.A.units + 64 < cLine) (ha : PE X a (tD X.K Wx f)) (hb : PE X c (tD X.K Wx g)) (hs : NoSl c) : PE X (.Subscript a c pos) (tD X.K Wx (eDGet f g)) := (pe_dget (by omega) ha hb hs).imp fun σ H Q h =>
  tG_two h fun bs R ρ e H w y v vy m r ry q => by
    unfold kDGet at q
    split at q
    · rename_i d hg
      obtain ⟨p, ov, e1, g1, g2⟩ := getW_ok m r ry hg
      rcases g2 with ⟨z, _⟩ | ⟨d', v', z, rfl, rd⟩
      · cases z
      · cases z
        exact ⟨p, v', e1, g1, q.fin (L := lW X.K) (a := .d d) m rd⟩
    · exact q.elim
theorem t_din (hu : X.A.units + 64 < cLine) (hb : PE X c (tD X.K Wx g)) (ha : PE X a (tD X.K Wx f)) (hm : behindInMarks .In a = false := by rfl) : PT X (.Compare c [.In] [a] pos) (tDT X.K Wx (bDIn false g f)) := (pt_cmp (pc_din (by omega) hb ha) hm).imp fun σ H Q h =>
  tG_two h fun bs R ρ e H y w vy v m ry r q => by
    unfold kDInB at q
    split at q
    · rename_i o hg
      obtain ⟨p, ov, e1, g1, g2⟩ := getW_ok m r ry hg
      exact ⟨p, ov, e1, g1, _, rfl, q.fin (L := lB) m (by rw [lk_isSome g2]; cases o <;> rfl)⟩
    · exact q.elim
theorem t_dnotin (hu : X.A.units + 64 < cLine) (hb : PE X c (tD X.K Wx g)) (ha : PE X a (tD X.K Wx f)) (hm : behindInMarks .NotIn a = false := by rfl) : PT X (.Compare c [.NotIn] [a] pos) (tDT X.K Wx (bDIn true g f)) := (pt_cmp (pc_dnotin (by omega) hb ha) hm).imp fun σ H Q h =>
  tG_two h fun bs R ρ e H y w vy v m ry r q => by
    unfold kDInB at q
    split at q
    · rename_i o hg
      obtain ⟨p, ov, e1, g1, g2⟩ := getW_ok m r ry hg
      exact ⟨p, ov, e1, g1, _, rfl, q.fin (L := lB) m (by rw [lk_isSome g2]; cases o <;> rfl)⟩
    · exact q.elim
theorem d_din (hu : X.A.units + 64 < cLine) (hb : PE X c (tD X.K Wx g)) (ha : PE X a (tD X.K Wx f)) (hm : behindInMarks .In a = false := by rfl) : PE X (.Compare c [.In] [a] pos) (tD X.K Wx (eDIn false g f)) := (pe_cmp (pc_din (by omega) hb ha) hm).imp fun σ H Q h =>
  tG_two h fun bs R ρ e H y w vy v m ry r q => by
    unfold kDIn at q
    split at q
    · rename_i o hg
      obtain ⟨p, ov, e1, g1, g2⟩ := getW_ok m r ry hg
      refine ⟨p, ov, e1, g1, q.fin (L := lW X.K) m ?_⟩
      rw [lk_isSome g2]
      cases o <;> exact .bl _
    · exact q.elim
theorem d_dnotin (hu : X.A.units + 64 < cLine) (hb : PE X c (tD X.K Wx g)) (ha : PE X a (tD X.K Wx f)) (hm : behindInMarks .NotIn a = false := by rfl) : PE X (.Compare c [.NotIn] [a] pos) (tD X.K Wx (eDIn true g f)) := (pe_cmp (pc_dnotin (by omega) hb ha) hm).imp fun σ H Q h =>
  tG_two h fun bs R ρ e H y w vy v m ry r q => by
    unfold kDIn at q
    split at q
    · rename_i o hg
      obtain ⟨p, ov, e1, g1, g2⟩ := getW_ok m r ry hg
      refine ⟨p, ov, e1, g1, q.fin (L := lW X.K) m ?_⟩
      rw [lk_isSome g2]
      cases o <;> exact .bl _
    · exact q.elim
end
/-! d[k] = v -/
def putC (c : Cell) (y : D) (x : D) : Option Cell := match c with
  | .dic kvs => (match keyD y with | some k => if kvs.length < sizeLine then some (.dic (putD kvs k x)) else none | none => none)
  | .dct kvs => (match y with | .tup xs => (match keysD xs with | some k => if kvs.length < sizeLine then some (.dct (putD kvs k x)) else none | none => none) | _ => none)
  | _ => none
def kDPut (w o i : W) : Sv := fun e => match o, i, w with
  | .loc n, .d y, .d x => (match e.cell n with
    | some c => (match putC c y x with
      | some c' => .nx (e.setC n (some c'))
      | none => .fail)
    | none => .fail)
  | _, _, _ => .fail
def sDPut (fo fi fv : Ev) : Sv := fun e => (fv e).to fun w e1 => if wl e1 w = true then (fo e1).to fun o e2 => if (wl e2 w && wl e2 o) = true then (fi e2).to fun i e3 => kDPut w o i e3 else .fail else .fail
section
variable {K : PySem.W.Frag} {b : Bs} {R : Hp} {ρ : Nat → Addr} {e : Env} {σ : St} {H : Hp}
theorem putC_ok {n : Nat} {c c' : Cell} {y x : D} {vy v : V} (m : Md K b R ρ e σ H) (h : putC c y x = some c') (hc : e.cell n = some c) (ry : Rep K R y vy) (rx : Rep K R x v) : ∃ o, DPut H (ρ n) vy v (upd H (ρ n) o) ∧ CellAt K R ρ (upd H (ρ n) o) (ρ n) c' := by
  have ca := m.cell n c hc
  cases c with
  | dic kvs =>
    obtain ⟨ws, h1, h2, h3⟩ := ca
    have h : (match keyD y with | some k => if kvs.length < sizeLine then some (Cell.dic (putD kvs k x)) else none | none => none) = some c' := h
    cases hy : keyD y with
    | none => rw [hy] at h; cases h
    | some k =>
      rw [hy] at h
      dsimp only at h
      split at h
      · rename_i hl
        cases h
        have hlen : ws.length = kvs.length := by
          have := congrArg List.length h2
          simpa using this
        obtain ⟨g1, g2⟩ := put_rep k h2 h3 rx
        rw [keyD_rep hy ry]
        exact ⟨_, .k h1 (by omega), _, upd_same, g1, g2⟩
      · cases h
  | dct kvs =>
    obtain ⟨ws, h1, h2, h3⟩ := ca
    cases y with
    | tup xs =>
      have h : (match keysD xs with | some k => if kvs.length < sizeLine then some (Cell.dct (putD kvs k x)) else none | none => none) = some c' := h
      cases hy : keysD xs with
      | none => rw [hy] at h; cases h
      | some k =>
        rw [hy] at h
        dsimp only at h
        split at h
        · rename_i hl
          cases h
          have hlen : ws.length = kvs.length := by
            have := congrArg List.length h2
            simpa using this
          obtain ⟨g1, g2⟩ := put_rep k h2 h3 rx
          cases ry with
          | tup q1 l1 =>
            rw [keysD_rep hy l1] at q1
            exact ⟨_, .t h1 (m.sub _ _ q1) (by omega), _, upd_same, g1, g2⟩
        · cases h
    | _ => cases h
  | _ => cases h
end
section
variable {X : Cx} {Wx : WX} {a o i : Expr} {p' pos : Pos} {fo fi fv : Ev}
theorem s_dput (hu : X.A.units + 64 < cLine) (hv : PE X a (tD X.K Wx fv)) (ho : PE X o (tD X.K Wx fo)) (hi : PE X i (tD X.K Wx fi)) (hs : swapsWith a (some (.Subscript o i p')) pos.line X.env = pure false := by rfl) :
    PS X (.Assign [.Subscript o i p'] a pos) (tS X.K Wx (sDPut fo fi fv)) := (ps_dput (by omega) ho hi hv hs).imp fun D σ H h =>
  tS_one h fun b R ρ e H w v m r q => by
    split at q
    · rename_i hl
      refine ⟨b, R, ρ, e, m, (OkS.to (L := lW X.K) q).imp fun ov H2 h2 => ?_⟩
      obtain ⟨R2, ρ2, e2, wo, s2, l2, m2, r2, q2⟩ := h2
      split at q2
      · rename_i hl2
        rw [Bool.and_eq_true] at hl2
        refine ⟨b, R2, ρ2, e2, m2, (OkS.to (L := lW X.K) q2).imp fun iv H3 h3 => ?_⟩
        obtain ⟨R3, ρ3, e3, wi, s3, l3, m3, r3, q3⟩ := h3
        have rv := (r.later hl s2 l2).later hl2.1 s3 l3
        have ro := r2.later hl2.2 s3 l3
        unfold kDPut at q3
        split at q3
        · rename_i n y x
          have e1 : ov = .ref (ρ3 n) := ro
          subst e1
          cases hc : e3.cell n with
          | none => simp only [hc] at q3; exact q3.elim
          | some c =>
            simp only [hc] at q3
            cases hp : putC c y x with
            | none => simp only [hp] at q3; exact q3.elim
            | some c' =>
              simp only [hp] at q3
              obtain ⟨ob, g1, g2⟩ := putC_ok m3 hp hc r3 rv
              exact ⟨_, _, rfl, g1, q3 R3 ρ3 σ _ (Same.refl R3) (m3.write hc g2)⟩
        · exact q3.elim
      · exact q2.elim
    · exact q.elim
end
/-! {}: the test tells whether its keys will be tuples -/
def eDNew (k : Nat) (t : Env → Bool) : Ev := fun e => newC k (if t e = true then .dct [] else .dic []) e
/-- is the list at slot i one of tuples -/
def tupsAt (i : Nat) (e : Env) : Bool := match e.slot i with
  | some (.d (.lst (.tup _ :: _))) => true
  | _ => false
def eDicC (keep : Option Nat) (kvs : List (Key × D)) : Ev := match keep with
  | none => fun e => .ok (.d (.dic kvs)) e
  | some k => newC k (.dic kvs)
section
variable {X : Cx} {Wx : WX} {pos : Pos}
theorem d_dnew {k : Nat} {t : Env → Bool} : PE X (.Dict [] [] pos) (tD X.K Wx (eDNew k t)) := ⟨fun pins s σ H Q I h => by
  obtain ⟨b, R, ρ, e, m, q⟩ := h
  unfold eDNew at q
  cases ht : t e with
  | true =>
    rw [ht, if_pos rfl] at q
    exact pe_dnewT.run pins s σ H Q I fun p hp => newC_ok m q hp ⟨[], upd_same, rfl, .nil⟩
  | false =>
    rw [ht, if_neg Bool.false_ne_true] at q
    exact pe_dnewK.run pins s σ H Q I fun p hp => newC_ok m q hp ⟨[], upd_same, rfl, .nil⟩⟩
/-- {k: v, ..}, constants -/
def cPairs (ws : List (Key × V)) : List (TE × TE) := ws.map fun kv => (tC (kV kv.1), tC kv.2)
theorem tPairs_c {σ : St} {H : Hp} {Q : List (V × V) → Hp → Prop} : ∀ {ws : List (Key × V)}, Q (ws.map fun kv => (kV kv.1, kv.2)) H → tPairs (cPairs ws) σ H Q
  | [], h => h
  | kv :: ws, h => tPairs_c (ws := ws) (Q := fun ps H3 => Q ((kV kv.1, kv.2) :: ps) H3) h
theorem d_dicC {keep : Option Nat} {kvs : List (Key × D)} {ws : List (Key × V)} {keys : List (Option Expr)} {values : List Expr} (h : PPs X pos keys values (cPairs ws)) (hk : ws.map (·.1) = kvs.map (·.1)) (hr : ∀ K R, RepL K R (kvs.map (·.2)) (ws.map (·.2)))
    (hm : mergeK [] ws = ws) (hall : keys.all (·.isSome) = true := by rfl) (hl : keys.length = values.length := by rfl) (h0 : keys ≠ [] := by exact fun z => nomatch z) (h15 : keys.length ≤ 15 := by decide) (h15' : ws.length ≤ 15 := by decide) :
    PE X (.Dict keys values pos) (tD X.K Wx (eDicC keep kvs)) := (pe_disp h hall hl h0 h15).imp fun σ H Q q p hp => by
  obtain ⟨b, R, ρ, e, m, q⟩ := q
  refine tPairs_c ⟨upd_same, ws, rfl, h15', ?_⟩
  rw [hm, upd_upd]
  unfold eDicC at q
  cases keep with
  | none => exact OkR.finD q m hp (.dic upd_same hk (hr _ _))
  | some k => exact newC_ok m q hp ⟨ws, upd_same, hk, hr _ _⟩
end
/-! evaluation -/
section
variable {f g fo fi fv : Ev} {e : Env} {neg : Bool} {n : Nat} {y x : D} {c : Cell}
@[simp] theorem eDGet_ev : eDGet f g e = b2a (f e) g kDGet := rfl
@[simp] theorem eDIn_ev : eDIn neg g f e = b2a (g e) f (kDIn neg) := rfl
@[simp] theorem bDIn_ev : bDIn neg g f e = b2a (g e) f (kDInB neg) := rfl
def dgR (o : Option (Option D)) (e : Env) : Rs W := match o with | some (some d) => .ok (.d d) e | _ => .fail
def diR (neg : Bool) (o : Option (Option D)) (e : Env) : Rs W := match o with | some o => .ok (.d (.bl (o.isSome != neg))) e | none => .fail
def diB (neg : Bool) (o : Option (Option D)) (e : Env) : Rs Bool := match o with | some o => .ok (o.isSome != neg) e | none => .fail
@[simp] theorem kDGet_ev {w y : W} : kDGet w y e = dgR (getW e w y) e := rfl
@[simp] theorem kDIn_ev {w y : W} : kDIn neg y w e = diR neg (getW e w y) e := rfl
@[simp] theorem kDInB_ev {w y : W} : kDInB neg y w e = diB neg (getW e w y) e := rfl
@[simp] theorem dgR_ok {d : D} : dgR (some (some d)) e = .ok (.d d) e := rfl
@[simp] theorem diR_ok {o : Option D} : diR neg (some o) e = .ok (.d (.bl (o.isSome != neg))) e := rfl
@[simp] theorem diB_ok {o : Option D} : diB neg (some o) e = .ok (o.isSome != neg) e := rfl
@[simp] theorem getW_dic {kvs : List (Key × D)} : getW e (.d (.dic kvs)) (.d y) = getD kvs y := rfl
@[simp] theorem getW_dct {kvs : List (List Key × D)} : getW e (.d (.dct kvs)) (.d y) = getT kvs y := rfl
def gcO (o : Option Cell) (y : D) : Option (Option D) := match o with | some c => getC c y | none => none
@[simp] theorem getW_loc : getW e (.loc n) (.d y) = gcO (e.cell n) y := by
  show (match e.cell n with | some c => getC c y | none => none) = _
  unfold gcO
  rfl
@[simp] theorem gcO_dic {kvs : List (Key × D)} : gcO (some (.dic kvs)) y = getD kvs y := rfl
@[simp] theorem gcO_dct {kvs : List (List Key × D)} : gcO (some (.dct kvs)) y = getT kvs y := rfl
@[simp] theorem getD_int {kvs : List (Key × D)} {i : Int} : getD kvs (.int i) = some (lkp kvs (.inl i)) := rfl
@[simp] theorem getD_str {kvs : List (Key × D)} {i : Str} : getD kvs (.str i) = some (lkp kvs (.inr i)) := rfl
@[simp] theorem getT_ints {kvs : List (List Key × D)} {i j : Int} : getT kvs (.tup [.int i, .int j]) = some (lkp kvs [.inl i, .inl j]) := rfl
def dpK (fo fi : Ev) (r : Rs W) : SR := r.to fun w e1 => if wl e1 w = true then (fo e1).to fun o e2 => if (wl e2 w && wl e2 o) = true then (fi e2).to fun i e3 => kDPut w o i e3 else .fail else .fail
def dpK2 (l : Bool) (w : W) (r : Rs W) (fi : Ev) : SR := if l = true then r.to fun o e2 => if (wl e2 w && wl e2 o) = true then (fi e2).to fun i e3 => kDPut w o i e3 else .fail else .fail
def dpK3 (l : Bool) (w o : W) (r : Rs W) : SR := if l = true then r.to fun i e3 => kDPut w o i e3 else .fail
@[simp] theorem sDPut_ev : sDPut fo fi fv e = dpK fo fi (fv e) := rfl
@[simp] theorem dpK_ok {w : W} : dpK fo fi (.ok w e) = dpK2 (wl e w) w (fo e) fi := rfl
@[simp] theorem dpK_exn {z : Xn} : dpK fo fi (.exn z e) = .exn z e := rfl
@[simp] theorem dpK2_ok {w1 w2 : W} : dpK2 true w1 (.ok w2 e) fi = dpK3 (wl e w1 && wl e w2) w1 w2 (fi e) := rfl
@[simp] theorem dpK3_ok {w1 w2 w3 : W} : dpK3 true w1 w2 (.ok w3 e) = kDPut w1 w2 w3 e := rfl
def pcR (n : Nat) (o : Option Cell) (e : Env) : SR := match o with | some c' => .nx (e.setC n (some c')) | none => .fail
def pcO (o : Option Cell) (y x : D) : Option Cell := match o with | some c => putC c y x | none => none
@[simp] theorem kDPut_ev : kDPut (.d x) (.loc n) (.d y) e = pcR n (pcO (e.cell n) y x) e := by
  show (match e.cell n with | some c => (match putC c y x with | some c' => SR.nx (e.setC n (some c')) | none => .fail) | none => .fail) = _
  unfold pcO pcR
  cases e.cell n with
  | none => rfl
  | some c => cases putC c y x <;> rfl
@[simp] theorem pcR_ok : pcR n (some c) e = .nx (e.setC n (some c)) := rfl
@[simp] theorem pcO_int {kvs : List (Key × D)} {i : Int} : pcO (some (.dic kvs)) (.int i) x = if kvs.length < sizeLine then some (.dic (putD kvs (.inl i) x)) else none := rfl
@[simp] theorem pcO_str {kvs : List (Key × D)} {i : Str} : pcO (some (.dic kvs)) (.str i) x = if kvs.length < sizeLine then some (.dic (putD kvs (.inr i) x)) else none := rfl
@[simp] theorem pcO_ints {kvs : List (List Key × D)} {i j : Int} : pcO (some (.dct kvs)) (.tup [.int i, .int j]) x = if kvs.length < sizeLine then some (.dct (putD kvs [.inl i, .inl j] x)) else none := rfl
@[simp] theorem eDNew_ev {k : Nat} {t : Env → Bool} : eDNew k t e = newC k (if t e = true then .dct [] else .dic []) e := rfl
@[simp] theorem eDicC_none {kvs : List (Key × D)} : eDicC none kvs e = .ok (.d (.dic kvs)) e := rfl
@[simp] theorem eDicC_some {k : Nat} {kvs : List (Key × D)} : eDicC (some k) kvs e = newC k (.dic kvs) e := rfl
end
end Dl
end
section
set_option Elab.async false
set_option linter.all false
set_option maxRecDepth 100000
set_option maxHeartbeats 4000000
namespace Dl
open PySem L2
/-! sorted(xs) of any data that can be compared -/
def keyPy (d : D) : PyData := (toPy d).getD .none
def sortD (xs : List D) : List D := xs.mergeSort (PySem.W.dataLe false keyPy)
def srtOk (ps : List PyData) : Bool := (ps.all fun d => ps.all fun d' => PySem.W.alike d d') && ((ps.all fun d => match d with | .tuple (_ :: _) => true | _ => false) || (ps.all fun d => match d with | .none => false | .tuple _ => false | _ => true)) && ps.all fun d => decide (d.depth ≤ 60)
def okSort (xs : List D) : Bool := match toPyL xs with | some ps => srtOk ps && decide (xs.length ≤ sizeLine) | none => false
theorem toPyL_each : ∀ {xs : List D} {ps : List PyData}, toPyL xs = some ps → xs.map keyPy = ps ∧ ∀ x ∈ xs, (toPy x).isSome = true
  | [], _, h => by cases h; exact ⟨rfl, fun x h => nomatch h⟩
  | x :: xs, _, h => by
    unfold toPyL at h
    cases e1 : toPy x with
    | none => rw [e1] at h; cases h
    | some y =>
      cases e2 : toPyL xs with
      | none => rw [e1, e2] at h; cases h
      | some ys =>
        rw [e1, e2] at h; cases h
        obtain ⟨i1, i2⟩ := toPyL_each e2
        refine ⟨by rw [List.map_cons, i1]; unfold keyPy; rw [e1]; rfl, fun z hz => ?_⟩
        rcases List.mem_cons.mp hz with rfl | hz
        · rw [e1]; rfl
        · exact i2 z hz
theorem srtOk_of {ps : List PyData} (h : srtOk ps = true) : PySem.W.AllAlike ps ∧ PySem.W.Sortable ps ∧ ∀ d ∈ ps, d.depth ≤ 60 := by
  unfold srtOk at h
  rw [Bool.and_eq_true, Bool.and_eq_true, Bool.or_eq_true] at h
  obtain ⟨⟨h1, h2⟩, h3⟩ := h
  refine ⟨fun d hd d' hd' => List.all_eq_true.mp (List.all_eq_true.mp h1 d hd) d' hd', ?_, fun d hd => of_decide_eq_true (List.all_eq_true.mp h3 d hd)⟩
  rcases h2 with h2 | h2
  · refine .inl fun d hd => ?_
    have := List.all_eq_true.mp h2 d hd
    split at this
    · exact ⟨_, _, rfl⟩
    · cases this
  · refine .inr fun d hd => ?_
    have := List.all_eq_true.mp h2 d hd
    split at this
    · cases this
    · cases this
    · rename_i g1 g2
      exact ⟨fun z => g1 z, fun xs z => g2 xs z⟩
def rSortD (K : PySem.W.Frag) : List V → Hp → VK → Prop := fun vs H Q => ∃ (a : Addr) (bs : List (D × V)), vs = [V.ref a] ∧ SqL K H a (bs.map (·.2)) ∧ (∀ b ∈ bs, Dp K H b.2 (keyPy b.1)) ∧ srtOk (bs.map fun b => keyPy b.1) = true ∧
  ∀ p, H p = none → Q (.ref p) (upd H p (.lst ((bs.mergeSort (PySem.W.dataLe false fun b => keyPy b.1)).map (·.2))))
section
variable {X : Cx}
theorem each_vals : ∀ {bs : List (D × V)} {us : List Value}, Vals (bs.map (·.2)) us → PySem.W.EachIs (fun v (b : D × V) => RelV b.2 v) us bs
  | [], _, .nil => .nil
  | b :: bs, _, .cons h t => .cons h (each_vals t)
theorem vals_each : ∀ {bs : List (D × V)} {us : List Value}, PySem.W.EachIs (fun v (b : D × V) => RelV b.2 v) us bs → Vals (bs.map (·.2)) us
  | _, _, .nil => .nil
  | _, _, .cons h t => .cons h (vals_each t)
theorem each_both {α β : Type} {F G : α → β → Prop} : ∀ {as : List α} {bs : List β}, PySem.W.EachIs F as bs → (∀ a b, b ∈ bs → F a b → G a b) → PySem.W.EachIs G as bs
  | _, _, .nil, _ => .nil
  | _, _, .cons h t, f => .cons (f _ _ List.mem_cons_self h) (each_both t fun a b m => f a b (List.mem_cons_of_mem _ m))
theorem cr_sortD (hu : X.A.units + 64 < cLine) : CallR X (.builtin "sorted") (rSortD X.K) := by
  intro pins s σ H vs us Q I r h
  obtain ⟨a, bs, rfl, hs, hd, ho, q⟩ := h
  obtain rfl := Vals.ref1 r
  obtain ⟨its, rv, hl, hz⟩ := I.list hs
  have hz : bs.length ≤ sizeLine := by simpa using hz
  obtain ⟨s1, s2, s3⟩ := srtOk_of ho
  have e1 := each_vals rv
  have mm : ∀ b ∈ bs, keyPy b.1 ∈ bs.map fun b => keyPy b.1 := fun b hb => List.mem_map.mpr ⟨b, hb, rfl⟩
  have e2 : PySem.W.EachIs (fun v (b : D × V) => ∃ as, PySem.Reads s.heap v (keyPy b.1) as) its bs := each_both e1 fun v b hb rel => Dp.reads I _ _ _ (hd b hb) rel
  refine PySem.W.sorted_data (enc := fun b : D × V => keyPy b.1) hl.isList e1 e2 s1 s2 hz (fun b hb => by have := s3 _ (mm b hb); omega) fun out hlen eo => ?_
  obtain ⟨ep, he⟩ := PyProof.Rows.sortedAll_at s.heap its out.toArray
  have rv2 := vals_each eo
  have hlen2 : ((bs.mergeSort (PySem.W.dataLe false fun b => keyPy b.1)).map (·.2)).length ≤ sizeLine := by rw [List.length_map, List.length_mergeSort]; exact hz
  exact ⟨.ref _, upd H (s.heap.objs.size + 1) (.lst ((bs.mergeSort (PySem.W.dataLe false fun b => keyPy b.1)).map (·.2))), I.laid (t' := s.toks) (fun _ _ => PyProof.Rows.sortedAll_old) (Nat.le_succ _) ⟨hlen2, out, ep, rv2, he⟩, rfl, q _ (I.hok.fresh (Nat.le_succ _))⟩
end
section
variable {K : PySem.W.Frag} {Wx : WX}
theorem sort_fst (xs : List D) (vs : List V) (h : xs.length = vs.length) : ((xs.zip vs).mergeSort (PySem.W.dataLe false fun b => keyPy b.1)).map (·.1) = sortD xs := by
  have e : (xs.zip vs).map (·.1) = xs := List.map_fst_zip (by omega)
  unfold sortD
  conv => rhs; rw [← e]
  exact List.map_mergeSort fun a _ b _ => rfl
theorem zip_rep {R : Hp} : ∀ {xs : List D} {vs : List V}, RepL K R xs vs → ∀ b ∈ xs.zip vs, Rep K R b.1 b.2
  | _, _, .nil, b, h => by cases h
  | _, _, .cons a t, b, h => by
    rw [List.zip_cons_cons] at h
    rcases List.mem_cons.mp h with rfl | h
    · exact a
    · exact zip_rep t b h
theorem rep_zip {R : Hp} : ∀ {bs : List (D × V)}, (∀ b ∈ bs, Rep K R b.1 b.2) → RepL K R (bs.map (·.1)) (bs.map (·.2))
  | [], _ => .nil
  | b :: bs, h => .cons (h b List.mem_cons_self) (rep_zip fun c hc => h c (List.mem_cons_of_mem _ hc))
def kSortD : List W → Ev := fun ws e => match ws with
  | [.d (.lst xs)] => if okSort xs = true then .ok (.d (.lst (sortD xs))) e else .fail
  | [.loc n] => (match e.cell n with
    | some (.lst xs) => if okSort xs = true then .ok (.d (.lst (sortD xs))) e else .fail
    | _ => .fail)
  | _ => .fail
theorem kSortD_ok : CallD K Wx kSortD (rSortD K) := fun b R ρ e σ H ws vs Q m rp q => by
  have fin : ∀ {xs : List D} {us : List V} {a : Addr}, OkR K Wx (lW K) b R ρ e σ Q (if okSort xs = true then .ok (.d (.lst (sortD xs))) e else .fail) → SqL K H a us → RepL K R xs us → rSortD K [V.ref a] H Q := fun {xs us a} q hs l => by
    split at q
    · rename_i ho
      unfold okSort at ho
      cases hp : toPyL xs with
      | none => rw [hp] at ho; cases ho
      | some ps =>
        rw [hp] at ho
        rw [Bool.and_eq_true] at ho
        obtain ⟨e1, e2⟩ := toPyL_each hp
        have hlen : xs.length = us.length := l.length
        have ez : (xs.zip us).map (·.2) = us := List.map_snd_zip (by omega)
        have ez1 : (xs.zip us).map (fun b => keyPy b.1) = ps := by
          rw [← e1]
          conv => rhs; rw [← List.map_fst_zip (l₁ := xs) (l₂ := us) (by omega), List.map_map]
          rfl
        have zr := zip_rep l
        refine ⟨a, xs.zip us, rfl, by rw [ez]; exact hs, fun c hc => ?_, by rw [ez1]; exact ho.1, fun p hp => ?_⟩
        · have hm : c.1 ∈ xs := (List.of_mem_zip (a := c.1) (b := c.2) hc).1
          have hsome := e2 _ hm
          cases hq : toPy c.1 with
          | none => rw [hq] at hsome; cases hsome
          | some y =>
            have : keyPy c.1 = y := by unfold keyPy; rw [hq]; rfl
            rw [this]
            exact toPy_dp m.sub hq (zr c hc)
        · have r2 : RepL K R (sortD xs) (((xs.zip us).mergeSort (PySem.W.dataLe false fun b => keyPy b.1)).map (·.2)) := by
            rw [← sort_fst xs us hlen]
            exact rep_zip fun c hc => zr c ((List.mergeSort_perm _ _).mem_iff.mp hc)
          exact OkR.finD q m hp (.lst upd_same (RepL.mono (same_upd (m.freshR hp)) r2))
    · exact q.elim
  unfold kSortD at q
  split at q
  · obtain ⟨v, e1, rv⟩ := pair1 rp
    subst e1
    have rv : Rep K R (.lst _) v := rv
    cases rv with
    | lst h1 l1 => exact fin q (SqL.of (m.sub _ _ h1)) l1
  · rename_i n
    obtain ⟨v, e1, rv⟩ := pair1 rp
    subst e1
    have e1 : v = .ref (ρ n) := rv
    subst e1
    split at q
    · rename_i xs hc
      obtain ⟨us, h1, l1⟩ := m.cell n _ hc
      exact fin q (SqL.of h1) l1
    · exact q.elim
  · exact q.elim
end
/-! evaluation -/
@[simp] theorem kSortD_ev {xs : List D} {e : Env} : kSortD [.d (.lst xs)] e = if okSort xs = true then .ok (.d (.lst (sortD xs))) e else .fail := rfl
theorem sortD_perm (xs : List D) : (sortD xs).Perm xs := List.mergeSort_perm _ _
@[simp] theorem sortD_len (xs : List D) : (sortD xs).length = xs.length := (sortD_perm xs).length_eq
/-! < of lists and tuples -/
def rLtD (K : PySem.W.Frag) : R2 := fun x y H Q => ∃ d e, Dp K H x d ∧ Dp K H y e ∧ PySem.W.alike d e = true ∧ d ≠ .none ∧ d.depth ≤ 60 ∧ Q (.bl (PySem.W.dataLt d e)) H
theorem op_ltD {X : Cx} (hu : X.A.units + 64 < cLine) : OpR X (compareOp .Lt) (rLtD X.K) := by
  intro pins s σ H x y v u Q I rx ry h
  obtain ⟨d, e, hd, he, al, nn, dp, q⟩ := h
  obtain ⟨as, r1⟩ := Dp.reads I d x v hd rx
  obtain ⟨bs, r2⟩ := Dp.reads I e y u he ry
  exact PySem.W.rcLt_alike d e X.A s v u as bs r1 r2 al nn (by omega) X.prog X.w X.xe _ ⟨.bl _, H, I, rfl, q⟩
def notNo : PyData → Bool | .none => false | _ => true
theorem notNo_ok {d : PyData} (h : notNo d = true) : d ≠ .none := fun z => by subst z; cases h
def ltX (x y : D) : Option Bool := match toPy x, toPy y with
  | some d, some e => if PySem.W.alike d e = true ∧ notNo d = true ∧ d.depth ≤ 60 then some (PySem.W.dataLt d e) else none
  | _, _ => none
theorem ltX_ok {K : PySem.W.Frag} : OpB K ltX (rLtD K) := fun x y z v u R H Q hg r1 r2 s q => by
  unfold ltX at hg
  split at hg
  · rename_i d e h1 h2
    split at hg
    · rename_i hc
      cases hg
      exact ⟨d, e, toPy_dp s h1 r1, toPy_dp s h2 r2, hc.1, notNo_ok hc.2.1, hc.2.2, q⟩
    · cases hg
  · cases hg
theorem toPyL_ints : ∀ ns : List Int, toPyL (ns.map .int) = some (ns.map .int)
  | [] => rfl
  | n :: ns => by rw [List.map_cons, toPyL, toPyL_ints ns]; rfl
theorem toPy_ints (ns : List Int) : toPy (.lst (ns.map .int)) = some (.list (ns.map .int)) := by
  rw [toPy, toPyL_ints]
theorem depth_lst (ns : List Int) : (PyData.list (ns.map .int)).depth ≤ 1 := by
  rw [PyData.depth, PySem.W.depth_ints]
  omega
theorem ltX_ints (xs ys : List Int) : ltX (.lst (xs.map .int)) (.lst (ys.map .int)) = some (decide (xs < ys)) := by
  unfold ltX
  rw [toPy_ints, toPy_ints]
  dsimp only
  have h1 : PySem.W.alike (.list (xs.map .int)) (.list (ys.map .int)) = true := by rw [PySem.W.alike]; exact PySem.W.alike_ints xs ys
  rw [if_pos ⟨h1, rfl, Nat.le_trans (depth_lst xs) (by omega)⟩, PySem.W.dataLt_list]
  have := PySem.W.dataLt_ints xs ys
  unfold PySem.W.rowLt at this
  rw [this]
end Dl
end
section
set_option Elab.async false
set_option linter.all false
set_option maxRecDepth 100000
set_option maxHeartbeats 4000000
namespace Dl
open PySem L2
/-! min, max of a list of ints; xs.index(k) -/
def minI : List Int → Int
  | [] => 0
  | [x] => x
  | x :: y :: r => min x (minI (y :: r))
def maxI : List Int → Int
  | [] => 0
  | [x] => x
  | x :: y :: r => max x (maxI (y :: r))
theorem minI_mem : ∀ {l : List Int}, l ≠ [] → minI l ∈ l
  | [], h => absurd rfl h
  | [x], _ => List.mem_cons_self
  | x :: y :: r, _ => by
    have ih := minI_mem (l := y :: r) (by simp)
    unfold minI
    rcases Int.le_total x (minI (y :: r)) with h | h
    · rw [Int.min_eq_left h]; exact List.mem_cons_self
    · rw [Int.min_eq_right h]; exact List.mem_cons_of_mem _ ih
theorem minI_le : ∀ {l : List Int} {z : Int}, z ∈ l → minI l ≤ z
  | [], _, h => nomatch h
  | [x], _, h => by rw [List.mem_singleton.mp h]; exact Int.le_refl _
  | x :: y :: r, z, h => by
    unfold minI
    rcases List.mem_cons.mp h with rfl | h
    · exact Int.min_le_left _ _
    · exact Int.le_trans (Int.min_le_right _ _) (minI_le h)
theorem maxI_mem : ∀ {l : List Int}, l ≠ [] → maxI l ∈ l
  | [], h => absurd rfl h
  | [x], _ => List.mem_cons_self
  | x :: y :: r, _ => by
    have ih := maxI_mem (l := y :: r) (by simp)
    unfold maxI
    rcases Int.le_total x (maxI (y :: r)) with h | h
    · rw [Int.max_eq_right h]; exact List.mem_cons_of_mem _ ih
    · rw [Int.max_eq_left h]; exact List.mem_cons_self
theorem maxI_le : ∀ {l : List Int} {z : Int}, z ∈ l → z ≤ maxI l
  | [], _, h => nomatch h
  | [x], _, h => by rw [List.mem_singleton.mp h]; exact Int.le_refl _
  | x :: y :: r, z, h => by
    unfold maxI
    rcases List.mem_cons.mp h with rfl | h
    · exact Int.le_max_left _ _
    · exact Int.le_trans (maxI_le h) (Int.le_max_right _ _)
theorem minI_uniq {l : List Int} {m : Int} (h : m ∈ l) (g : ∀ y ∈ l, m ≤ y) : minI l = m := by
  have h0 : l ≠ [] := fun z => by rw [z] at h; cases h
  have a := minI_le h
  have b := g _ (minI_mem h0)
  omega
theorem maxI_uniq {l : List Int} {m : Int} (h : m ∈ l) (g : ∀ y ∈ l, y ≤ m) : maxI l = m := by
  have h0 : l ≠ [] := fun z => by rw [z] at h; cases h
  have a := maxI_le h
  have b := g _ (maxI_mem h0)
  omega
section
variable {K : PySem.W.Frag} {Wx : WX}
def kFoldI (g : List Int → Int) : List W → Ev := fun ws e => match ws with
  | [.d (.lst xs)] => (match intsD xs with | some ns => if ns ≠ [] then .ok (.d (.int (g ns))) e else .fail | none => .fail)
  | _ => .fail
theorem kFold_at {g : List Int → Int} {b : Bs} {R : Hp} {ρ : Nat → Addr} {e : Env} {σ : St} {H : Hp} {ws : List W} {vs : List V} {Q : VK} (m : Md K b R ρ e σ H) (rp : Paired (RepW K R ρ) ws vs) (q : OkR K Wx (lW K) b R ρ e σ Q (kFoldI g ws e)) :
    ∃ a ns, vs = [V.ref a] ∧ SqL K H a (ns.map V.int) ∧ ns ≠ [] ∧ Q (.int (g ns)) H := by
  unfold kFoldI at q
  split at q
  · rename_i xs
    obtain ⟨v, e1, rv⟩ := pair1 rp
    subst e1
    have rv : Rep K R (.lst xs) v := rv
    cases rv with
    | lst h1 l1 =>
      cases hi : intsD xs with
      | none => rw [hi] at q; exact q.elim
      | some ns =>
        rw [hi] at q
        dsimp only at q
        split at q
        · rename_i h0
          rw [intsD_eq hi] at l1
          rw [l1.ints_inv] at h1
          exact ⟨_, ns, rfl, SqL.of (m.sub _ _ h1), h0, q.fin m (.int _)⟩
        · exact q.elim
  · exact q.elim
theorem kMin_ok : CallD K Wx (kFoldI minI) (rMin K) := fun b R ρ e σ H ws vs Q m rp q => by
  obtain ⟨a, ns, rfl, h1, h0, h2⟩ := kFold_at m rp q
  exact ⟨a, ns, rfl, h1, List.length_pos_iff.mpr h0, fun z hz hm => by rw [← minI_uniq hz hm]; exact h2⟩
theorem kMax_ok : CallD K Wx (kFoldI maxI) (rMax K) := fun b R ρ e σ H ws vs Q m rp q => by
  obtain ⟨a, ns, rfl, h1, h0, h2⟩ := kFold_at m rp q
  exact ⟨a, ns, rfl, h1, List.length_pos_iff.mpr h0, fun z hz hm => by rw [← maxI_uniq hz hm]; exact h2⟩
def kIndex (w : W) (ws : List W) : Ev := fun e => match w, ws with
  | .d (.lst xs), [.d (.int k)] => (match intsD xs with | some ns => if k ∈ ns then .ok (.d (.int (ns.idxOf k : Nat))) e else .fail | none => .fail)
  | _, _ => .fail
theorem flat_ints : ∀ ns : List Int, (ns.map V.int).all flatV = true
  | [] => rfl
  | n :: ns => by rw [List.map_cons, List.all_cons, flat_ints ns]; rfl
theorem eqV_int (i j : Int) : eqV (.int i) (.int j) = decide (i = j) := by
  show (i == j) = _
  by_cases h : i = j <;> simp [h]
theorem kIndex_ok : MethD K Wx kIndex (rIndex K) := fun b R ρ e σ H w v ws vs Q m r rs q => by
  unfold kIndex at q
  split at q
  · rename_i xs k
    obtain ⟨u, e2, ru⟩ := pair1 rs
    subst e2
    have ru : Rep K R (.int k) u := ru
    cases ru
    have r : Rep K R (.lst xs) v := r
    cases r with
    | lst h1 l1 =>
      cases hi : intsD xs with
      | none => rw [hi] at q; exact q.elim
      | some ns =>
        rw [hi] at q
        dsimp only at q
        split at q
        · rename_i hk
          rw [intsD_eq hi] at l1
          rw [l1.ints_inv] at h1
          have hlt : ns.idxOf k < ns.length := List.idxOf_lt_length_iff.mpr hk
          have hat : ns[ns.idxOf k] = k := List.getElem_idxOf hlt
          refine ⟨_, ns.map V.int, .int k, ns.idxOf k, .int k, rfl, rfl, SqL.of (m.sub _ _ h1), rfl, flat_ints ns, ?_, ?_, fun i z hi' hz => ?_, q.fin m (.int _)⟩
          · rw [List.getElem?_map, List.getElem?_eq_getElem hlt, hat]; rfl
          · rw [eqV_int]; simp
          · rw [List.getElem?_map, List.getElem?_eq_getElem (by omega)] at hz
            cases hz
            rw [eqV_int, decide_eq_false]
            intro h
            have := List.not_of_lt_findIdx (p := (· == k)) (xs := ns) (i := i) hi'
            simp [h] at this
        · exact q.elim
  · exact q.elim
end
section
variable {e : Env} {ns : List Int} {k : Int} {g : List Int → Int}
@[simp] theorem kFoldI_ev : kFoldI g [.d (.lst (ns.map .int))] e = if ns ≠ [] then .ok (.d (.int (g ns))) e else .fail := by
  show (match intsD (ns.map .int) with | some ns => if ns ≠ [] then Rs.ok (W.d (.int (g ns))) e else .fail | none => .fail) = _
  rw [intsD_map]
@[simp] theorem kIndex_ev : kIndex (.d (.lst (ns.map .int))) [.d (.int k)] e = if k ∈ ns then .ok (.d (.int (ns.idxOf k : Nat))) e else .fail := by
  show (match intsD (ns.map .int) with | some ns => if k ∈ ns then Rs.ok (W.d (.int (ns.idxOf k : Nat))) e else .fail | none => .fail) = _
  rw [intsD_map]
end
end Dl
end
section
set_option Elab.async false
set_option linter.all false
set_option maxRecDepth 100000
set_option maxHeartbeats 4000000
namespace Dl
open PySem L2
/-! `in` for lists of ints -/
theorem flatL_ints : ∀ ns : List Int, flatL (ns.map D.int) = some (ns.map V.int)
  | [] => rfl
  | n :: ns => by
    rw [List.map_cons, flatL, flatL_ints ns]
    rfl
theorem inV_ints (k : Int) : ∀ ns : List Int, inV (.int k) (ns.map V.int) = decide (k ∈ ns)
  | [] => rfl
  | n :: ns => by
    have ih := inV_ints k ns
    unfold inV at *
    rw [List.map_cons, List.any_cons, ih]
    by_cases h : k = n
    · simp [h, eqV_int]
    · have h2 : ¬ n = k := fun e => h e.symm
      simp [h, h2, eqV_int]
@[simp] theorem inB_ints {k : Int} {ns : List Int} : inB (.int k) (.lst (ns.map D.int)) = some (decide (k ∈ ns)) := by
  show inSeq _ _ = _
  unfold inSeq
  rw [flatL_ints]
  show some (inV (.int k) (ns.map V.int)) = _
  rw [inV_ints]
@[simp] theorem notInB_ints {k : Int} {ns : List Int} : notInB (.int k) (.lst (ns.map D.int)) = some (!decide (k ∈ ns)) := by
  unfold notInB
  rw [inB_ints]
section
variable {it : Env → Rs Itr} {g : Tg} {fg : List Nat} {body : Sv} {items : List D} {chk : Env → Prop}
/-- a for that breaks off at its item n -/
theorem forD_bk (E : Nat → Env) {e' : Env} : ∀ (items : List D) (j n : Nat) (d : D), items[n]? = some d →
    (∀ i d, i < n → items[i]? = some d → chk (E (j + i)) ∧ turn g body fg d (E (j + i)) = .nx (E (j + i + 1))) →
    (chk (E (j + n)) ∧ turn g body fg d (E (j + n)) = .bk e') → forD g chk body fg items (E j) = .nx e'
  | [], _, _, _, h, _, _ => by simp at h
  | a :: l, j, 0, d, h, _, hx => by
    have h : a = d := by simpa using h
    subst h
    obtain ⟨h1, h2⟩ := hx
    have h1 : chk (E j) := h1
    have h2 : turn g body fg a (E j) = .bk e' := h2
    unfold forD
    rw [if_pos h1]
    unfold turn turnO at h2
    cases hg : g a (E j) with
    | none => rw [hg] at h2; cases h2
    | some e1 =>
      rw [hg] at h2
      dsimp only at h2 ⊢
      cases hb : body e1 with
      | bk e2 => rw [hb] at h2; cases h2; rfl
      | _ => rw [hb] at h2; cases h2
  | a :: l, j, n + 1, d, h, hs, hx => by
    obtain ⟨h1, h2⟩ := hs 0 a (Nat.succ_pos _) rfl
    obtain ⟨e1, e2, q1, q2, q3⟩ := turn_nx h2
    have go := forD_bk E l (j + 1) n d (by simpa using h) (fun i d hi hd => by
      have := hs (i + 1) d (by omega) (by simpa using hd)
      rwa [show j + (i + 1) = j + 1 + i by omega] at this) (by rwa [show j + (n + 1) = j + 1 + n by omega] at hx)
    simp only [Nat.add_zero] at h1 q1 q3
    unfold forD
    rw [if_pos h1]
    simp only [q1]
    rcases q2 with q2 | q2
    · simp only [q2]
      rw [q3]
      exact go
    · simp only [q2]
      rw [q3]
      exact go
theorem for_bk (E : Nat → Env) {e0 e' : Env} (n : Nat) (d : D) (hit : it e0 = .ok ⟨items, chk⟩ (E 0)) (hd : items[n]? = some d)
    (hs : ∀ i d, i < n → items[i]? = some d → chk (E i) ∧ turn g body fg d (E i) = .nx (E (i + 1))) (hx : chk (E n) ∧ turn g body fg d (E n) = .bk e') : sFor it g fg body e0 = .nx e' := by
  unfold sFor
  rw [hit]
  show forD g chk body fg items (E 0) = _
  refine forD_bk E items 0 n d hd (fun i d hi hd => ?_) ?_
  · rw [Nat.zero_add]; exact hs i d hi hd
  · rw [Nat.zero_add]; exact hx
end
end Dl
end
section
set_option Elab.async false
set_option linter.all false
set_option maxRecDepth 100000
set_option maxHeartbeats 4000000
namespace Dl
open PySem L2
/-! `in` of an own list -/
def inR (neg : Bool) (o : Option Bool) (e : Env) : Rs Bool := match o with | some z => .ok (z != neg) e | none => .fail
def inC (x : D) (o : Option Cell) : Option Bool := match o with | some (.lst ys) => inSeq x ys | _ => none
def kInL (neg : Bool) (w1 w2 : W) : Env → Rs Bool := fun e => match w1, w2 with
  | .d x, .d y => inR neg (inB x y) e
  | .d x, .loc n => inR neg (inC x (e.cell n)) e
  | _, _ => .fail
def bIn (neg : Bool) (f1 f2 : Ev) : Env → Rs Bool := bin2 f1 f2 (kInL neg)
theorem neq_if (z neg : Bool) : (z != neg) = (if neg then !z else z) := by cases z <;> cases neg <;> rfl
section
variable {K : PySem.W.Frag} {Wx : WX}
theorem kInL_ok {neg : Bool} {bs : Bs} {R : Hp} {ρ : Nat → Addr} {e : Env} {σ : St} {H : Hp} {w1 w2 : W} {v1 v2 : V} {Q : Bool → Hp → Prop} (m : Md K bs R ρ e σ H) (r1 : RepW K R ρ w1 v1) (r2 : RepW K R ρ w2 v2)
    (q : OkR K Wx lB bs R ρ e σ Q (kInL neg w1 w2 e)) : rInD K neg v1 v2 H (fun x H' => ∃ k, x = .bl k ∧ Q k H') := by
  unfold kInL at q
  split at q
  · rename_i x y
    cases hg : inB x y with
    | none => rw [hg] at q; exact q.elim
    | some z =>
      rw [hg] at q
      exact inB_gen hg r1 r2 m.sub ⟨_, rfl, by have := q.fin m (L := lB) rfl; rwa [neq_if] at this⟩
  · rename_i x n
    cases hc : e.cell n with
    | none => rw [hc] at q; exact q.elim
    | some c =>
      rw [hc] at q
      have ca := m.cell n c hc
      cases c with
      | lst ys =>
        obtain ⟨vs, h1, l1⟩ := ca
        have q : OkR K Wx lB bs R ρ e σ Q (inR neg (inSeq x ys) e) := q
        cases hg : inSeq x ys with
        | none => rw [hg] at q; exact q.elim
        | some z =>
          rw [hg] at q
          have e2 : v2 = .ref (ρ n) := r2
          subst e2
          have rx : Rep K R x v1 := r1
          unfold inSeq at hg
          cases a1 : flatD x with
          | none => rw [a1] at hg; cases hg
          | some w =>
            cases a2 : flatL ys with
            | none => rw [a1, a2] at hg; cases hg
            | some ws =>
              rw [a1, a2] at hg; cases hg
              obtain ⟨g1, g2⟩ := flatD_rep a1 rx
              obtain ⟨g3, g4⟩ := flatL_rep a2 l1
              subst g1; subst g3
              exact .inl ⟨_, _, rfl, .inl (SqL.of h1), g2, g4, _, rfl, by have := q.fin m (L := lB) rfl; rwa [neq_if] at this⟩
      | _ => exact q.elim
  · exact q.elim
end
section
variable {X : Cx} {Wx : WX} {a b : Expr} {pos : Pos} {f1 f2 : Ev}
theorem t_in (ha : PE X a (tD X.K Wx f1)) (hb : PE X b (tD X.K Wx f2)) (hm : behindInMarks .In b = false := by rfl) : PT X (.Compare a [.In] [b] pos) (tDT X.K Wx (bIn false f1 f2)) :=
  (pt_cmpR op_inB ha hb hm).imp fun σ H Q h => tG_two h fun bs R ρ e H w1 w2 v1 v2 m r1 r2 q => kInL_ok m r1 r2 q
theorem t_notin (ha : PE X a (tD X.K Wx f1)) (hb : PE X b (tD X.K Wx f2)) (hm : behindInMarks .NotIn b = false := by rfl) : PT X (.Compare a [.NotIn] [b] pos) (tDT X.K Wx (bIn true f1 f2)) :=
  (pt_cmpR op_notInB ha hb hm).imp fun σ H Q h => tG_two h fun bs R ρ e H w1 w2 v1 v2 m r1 r2 q => kInL_ok m r1 r2 q
end
section
variable {f1 f2 : Ev} {e : Env} {neg z : Bool} {x y : D} {n : Nat} {ys : List D}
@[simp] theorem bIn_ev : bIn neg f1 f2 e = b2a (f1 e) f2 (kInL neg) := rfl
@[simp] theorem kInL_d : kInL neg (.d x) (.d y) e = inR neg (inB x y) e := rfl
@[simp] theorem kInL_loc : kInL neg (.d x) (.loc n) e = inR neg (inC x (e.cell n)) e := rfl
@[simp] theorem inC_lst : inC x (some (.lst ys)) = inB x (.lst ys) := rfl
@[simp] theorem inR_some : inR neg (some z) e = .ok (z != neg) e := rfl
end
end Dl
end
section
set_option Elab.async false
set_option linter.all false
set_option maxRecDepth 100000
set_option maxHeartbeats 4000000
namespace Dl
open PySem L2
/-! comparisons with own lists; list.pop(i) -/
/-- the data that a value is at present -/
def vwC : Option Cell → Option D | some (.lst xs) => some (.lst xs) | _ => none
def vwE (e : Env) : W → Option D
  | .d x => some x
  | .loc n => vwC (e.cell n)
def kB3 (g : D → D → Option Bool) (w1 w2 : W) : Env → Rs Bool := fun e => match vwE e w1, vwE e w2 with
  | some x, some y => (match g x y with | some z => .ok z e | none => .fail)
  | _, _ => .fail
def bOpL (g : D → D → Option Bool) (f1 f2 : Ev) : Env → Rs Bool := bin2 f1 f2 (kB3 g)
section
variable {K : PySem.W.Frag} {Wx : WX} {b : Bs} {R : Hp} {ρ : Nat → Addr} {e : Env} {σ : St} {H : Hp}
theorem vwE_ok {w : W} {v : V} {x : D} (m : Md K b R ρ e σ H) (r : RepW K R ρ w v) (h : vwE e w = some x) : Rep K H x v := by
  cases w with
  | d y =>
    cases h
    exact Rep.mono m.sub r
  | loc n =>
    have e1 : v = .ref (ρ n) := r
    subst e1
    have h : vwC (e.cell n) = some x := h
    cases hc : e.cell n with
    | none => rw [hc] at h; cases h
    | some c =>
      rw [hc] at h
      cases c with
      | lst xs =>
        cases h
        obtain ⟨vs, h1, l1⟩ := m.cell n _ hc
        exact .lst h1 (l1.mono m.sub)
      | _ => cases h
theorem OpB.run3 {g : D → D → Option Bool} {r : R2} (o : OpB K g r) {w1 w2 : W} {v1 v2 : V} {Q : Bool → Hp → Prop} (m : Md K b R ρ e σ H) (r1 : RepW K R ρ w1 v1) (r2 : RepW K R ρ w2 v2)
    (q : OkR K Wx lB b R ρ e σ Q (kB3 g w1 w2 e)) : r v1 v2 H (fun x H' => ∃ k, x = .bl k ∧ Q k H') := by
  unfold kB3 at q
  cases a1 : vwE e w1 with
  | none => rw [a1] at q; exact q.elim
  | some x =>
    cases a2 : vwE e w2 with
    | none => rw [a1, a2] at q; exact q.elim
    | some y =>
      rw [a1, a2] at q
      dsimp only at q
      cases hg : g x y with
      | none => rw [hg] at q; exact q.elim
      | some z =>
        rw [hg] at q
        exact o x y z v1 v2 H H _ hg (vwE_ok m r1 a1) (vwE_ok m r2 a2) (Same.refl H) ⟨z, rfl, q.fin m rfl⟩
def kPopI (w : W) (ws : List W) : Ev := fun e => match w, ws with
  | .loc n, [.d (.int i)] => match e.cell n with
    | some (.lst xs) => (match seqIndex? i xs.length with
      | some k => if -9223372036854775808 ≤ i ∧ i < 9223372036854775808 then (match xs[k]? with
        | some y => .ok (.d y) (e.setC n (some (.lst (xs.eraseIdx k))))
        | none => .fail) else .fail
      | none => .fail)
    | _ => .fail
  | _, _ => .fail
theorem kPopI_ok : MethD K Wx kPopI rPopAt := fun b R ρ e σ H w v ws vs Q m r rs q => by
  unfold kPopI at q
  split at q
  · rename_i n i
    have e1 : v = .ref (ρ n) := r
    subst e1
    obtain ⟨u, e2, ru⟩ := pair1 rs
    subst e2
    have ru : Rep K R (.int i) u := ru
    cases ru
    split at q
    · rename_i xs hc
      obtain ⟨us, h1, l1⟩ := m.cell n _ hc
      cases hk : seqIndex? i xs.length with
      | none => rw [hk] at q; exact q.elim
      | some k =>
        rw [hk] at q
        dsimp only at q
        split at q
        · rename_i hb
          cases hy : xs[k]? with
          | none => rw [hy] at q; exact q.elim
          | some y =>
            rw [hy] at q
            obtain ⟨u, hu, ru⟩ := l1.get hy
            exact ⟨_, us, i, k, u, rfl, rfl, h1, hb.1, hb.2, by rw [← l1.length]; exact hk, hu, wr_ok (c' := .lst (xs.eraseIdx k)) m q hc ⟨_, upd_same, l1.erase k⟩ ru⟩
        · exact q.elim
    · exact q.elim
  · exact q.elim
end
section
variable {X : Cx} {Wx : WX} {a c : Expr} {pos : Pos} {f1 f2 : Ev}
theorem t_cmpL {op : CmpOp} {r : R2} {g : D → D → Option Bool} {f1 f2 : Ev} {b : Expr} (ho : OpR X (compareOp op) r) (hd : OpB X.K g r) (ha : PE X a (tD X.K Wx f1)) (hb : PE X b (tD X.K Wx f2)) (hm : behindInMarks op b = false) : PT X (.Compare a [op] [b] pos) (tDT X.K Wx (bOpL g f1 f2)) :=
  (pt_cmpR ho ha hb hm).imp fun σ H Q h => tG_two h fun bs R ρ e H w1 w2 v1 v2 m r1 r2 q => hd.run3 (Wx := Wx) m r1 r2 q
end
section
variable {f1 f2 : Ev} {e : Env} {g : D → D → Option Bool} {x y : D} {n m : Nat} {xs ys : List D} {w : W}
@[simp] theorem bOpL_ev : bOpL g f1 f2 e = b2a (f1 e) f2 (kB3 g) := rfl
def b3R (g : D → D → Option Bool) (o p : Option D) (e : Env) : Rs Bool := match o, p with | some x, some y => okB (g x y) e | _, _ => .fail
theorem vwE_loc : vwE e (.loc n) = vwC (e.cell n) := rfl
@[simp] theorem kB3_ld : kB3 g (.loc n) (.d y) e = b3R g (vwC (e.cell n)) (some y) e := by
  unfold kB3 b3R
  show (match vwC (e.cell n), some y with | some x, some y => (match g x y with | some z => Rs.ok z e | none => .fail) | _, _ => .fail) = _
  cases vwC (e.cell n) <;> rfl
@[simp] theorem kB3_dl : kB3 g (.d x) (.loc n) e = b3R g (some x) (vwC (e.cell n)) e := by
  unfold kB3 b3R
  show (match some x, vwC (e.cell n) with | some x, some y => (match g x y with | some z => Rs.ok z e | none => .fail) | _, _ => .fail) = _
  cases vwC (e.cell n) <;> rfl
@[simp] theorem kB3_dd : kB3 g (.d x) (.d y) e = okB (g x y) e := rfl
@[simp] theorem vwC_lst : vwC (some (.lst xs)) = some (.lst xs) := rfl
@[simp] theorem b3R_some : b3R g (some x) (some y) e = okB (g x y) e := rfl
theorem seq_nat {n k : Nat} (h : k < n) : seqIndex? (k : Int) n = some k := by
  unfold seqIndex?
  simp
  omega
theorem kPopI_ev {k : Nat} {i : Int} (hi : i = k) (hc : e.cell n = some (.lst xs)) (h : k < xs.length) (hx : xs.length < 1000000) : kPopI (.loc n) [.d (.int i)] e = .ok (.d xs[k]) (e.setC n (some (.lst (xs.eraseIdx k)))) := by
  subst hi
  unfold kPopI
  simp only [hc, seq_nat h, List.getElem?_eq_getElem h]
  rw [if_pos (by omega)]
end
end Dl
end
section
set_option Elab.async false
set_option linter.all false
set_option maxRecDepth 100000
set_option maxHeartbeats 4000000
namespace Dl
open PySem L2
/-! abs -/
def absD : D → Option D
  | .int i => some (.int (if i < 0 then -i else i))
  | _ => none
section
variable {K : PySem.W.Frag} {Wx : WX}
theorem kAbs_ok : CallD K Wx (k1 absD) (fun xs H Q => ∃ i, xs = [.int i] ∧ Q (.int (if i < 0 then -i else i)) H) := k1_ok fun x z v R H Q hz rv s q n => by
  cases rv <;> first | (cases hz; exact ⟨_, rfl, q _ (.int _)⟩) | cases hz
end
@[simp] theorem absD_int {i : Int} : absD (.int i) = some (.int (if i < 0 then -i else i)) := rfl
/-! a text, n times -/
def repS (x : Str) (n : Int) : Str := ⟨(List.replicate n.toNat x.cps).foldl (· ++ ·) #[]⟩
theorem foldl_cat : ∀ (l : List (Array Nat)) (a : Array Nat), (l.foldl (· ++ ·) a).toList = a.toList ++ (l.map (·.toList)).flatten
  | [], a => by simp
  | b :: l, a => by
    rw [List.foldl_cons, foldl_cat l (a ++ b)]
    simp
theorem repS_list (x : Str) (n : Int) : (repS x n).cps.toList = (List.replicate n.toNat x.cps.toList).flatten := by
  unfold repS
  rw [foldl_cat]
  simp
theorem repS_len (x : Str) (n : Int) : (repS x n).length = n.toNat * x.length := by
  show (repS x n).cps.size = _
  rw [← Array.length_toList, repS_list]
  simp
  rfl
def CRepS (x : Str) (n : Int) : Prop := 2 ≤ n ∧ n ≤ 100000 ∧ 1 ≤ x.length ∧ x.length ≤ 100
instance (x : Str) (n : Int) : Decidable (CRepS x n) := by unfold CRepS; infer_instance
theorem op_repS {X : Cx} : OpR X (binaryOp .Mult) (fun x y H Q => ∃ i n, x = .str i ∧ y = .int n ∧ CRepS i n ∧ Q (.str (repS i n)) H) := by
  intro pins s σ H x y v u Q I rx ry h
  obtain ⟨i, n, rfl, rfl, ⟨h1, h2, h3, h4⟩, q⟩ := h
  obtain ⟨t, rfl⟩ := rx
  obtain ⟨t', rfl⟩ := ry
  have hb : i.length * n.toNat ≤ 10000000 := Nat.le_trans (Nat.mul_le_mul h4 (show n.toNat ≤ 100000 by omega)) (by decide)
  have hsl : sizeLine = 16777216 := by decide
  refine P.mul_str (by rw [decide_eq_false (by omega), decide_eq_false (by omega)]; rfl) (fun _ _ => ?_) (fun _ _ => ?_) ?_
  · have : (92233720368547 : Int) ≤ (2 ^ 63 - 1) / n := by
      rw [Int.le_ediv_iff_mul_le (by omega)]
      have := Int.mul_le_mul_of_nonneg_left h2 (show (0 : Int) ≤ 92233720368547 by decide)
      omega
    omega
  · unfold Builtin.Str.tooLong
    rw [decide_eq_false (by rw [hsl]; omega)]
  · rw [if_neg (by omega), if_neg]
    · refine ⟨?_, .str _, H, I.tok _, ⟨_, rfl⟩, q⟩
      show (repS i n).length ≤ _
      rw [repS_len, Nat.mul_comm, hsl]
      omega
    · simp
      exact ⟨by omega, by intro z; rw [z] at h3; simp at h3⟩
def mulSD : D → D → Option D
  | .str x, .int n => if CRepS x n then some (.str (repS x n)) else none
  | _, _ => none
section
variable {K : PySem.W.Frag} {Wx : WX}
theorem mulSD_ok : OpD K mulSD (fun x y H Q => ∃ i n, x = .str i ∧ y = .int n ∧ CRepS i n ∧ Q (.str (repS i n)) H) := fun x y z v u R H Q hg r1 r2 s q n => by
  unfold mulSD at hg
  split at hg
  · split at hg
    · rename_i c
      cases hg
      cases r1
      cases r2
      exact ⟨_, _, rfl, rfl, c, q _ (.str _)⟩
    · cases hg
  · cases hg
end
@[simp] theorem mulSD_ev {x : Str} {n : Int} (h : CRepS x n) : mulSD (.str x) (.int n) = some (.str (repS x n)) := if_pos h
/-! comparisons of ints and of texts -/
def leS : D → D → Option Bool
  | .int i, .int j => some (decide (i ≤ j))
  | .str x, .str y => some (!decide (y.cps.toList < x.cps.toList))
  | _, _ => none
def gtS : D → D → Option Bool
  | .int i, .int j => some (decide (j < i))
  | .str x, .str y => some (decide (y.cps.toList < x.cps.toList))
  | _, _ => none
def geS : D → D → Option Bool
  | .int i, .int j => some (decide (j ≤ i))
  | .str x, .str y => some (!decide (x.cps.toList < y.cps.toList))
  | _, _ => none
section
variable {X : Cx} {K : PySem.W.Frag}
theorem op_leS : OpR X (compareOp .LtE) (fun x y H Q => rI0 (fun i j => .bl (decide (i ≤ j))) x y H Q ∨ ∃ i j, x = .str i ∧ y = .str j ∧ Q (.bl (!decide (j.cps.toList < i.cps.toList))) H) := op_le.or op_le_str
theorem op_gtS : OpR X (compareOp .Gt) (fun x y H Q => rI0 (fun i j => .bl (decide (j < i))) x y H Q ∨ ∃ i j, x = .str i ∧ y = .str j ∧ Q (.bl (decide (j.cps.toList < i.cps.toList))) H) := op_gt.or op_gt_str
theorem op_geS : OpR X (compareOp .GtE) (fun x y H Q => rI0 (fun i j => .bl (decide (j ≤ i))) x y H Q ∨ ∃ i j, x = .str i ∧ y = .str j ∧ Q (.bl (!decide (i.cps.toList < j.cps.toList))) H) := op_ge.or op_ge_str
theorem leS_ok : OpB K leS (fun x y H Q => rI0 (fun i j => .bl (decide (i ≤ j))) x y H Q ∨ ∃ i j, x = .str i ∧ y = .str j ∧ Q (.bl (!decide (j.cps.toList < i.cps.toList))) H) := fun x y z v u R H Q hg r1 r2 s q => by
  cases x <;> cases y <;> first | (cases hg; done) | skip
  · cases hg; cases r1; cases r2; exact .inl ⟨_, _, rfl, rfl, q⟩
  · cases hg; cases r1; cases r2; exact .inr ⟨_, _, rfl, rfl, q⟩
theorem gtS_ok : OpB K gtS (fun x y H Q => rI0 (fun i j => .bl (decide (j < i))) x y H Q ∨ ∃ i j, x = .str i ∧ y = .str j ∧ Q (.bl (decide (j.cps.toList < i.cps.toList))) H) := fun x y z v u R H Q hg r1 r2 s q => by
  cases x <;> cases y <;> first | (cases hg; done) | skip
  · cases hg; cases r1; cases r2; exact .inl ⟨_, _, rfl, rfl, q⟩
  · cases hg; cases r1; cases r2; exact .inr ⟨_, _, rfl, rfl, q⟩
theorem geS_ok : OpB K geS (fun x y H Q => rI0 (fun i j => .bl (decide (j ≤ i))) x y H Q ∨ ∃ i j, x = .str i ∧ y = .str j ∧ Q (.bl (!decide (i.cps.toList < j.cps.toList))) H) := fun x y z v u R H Q hg r1 r2 s q => by
  cases x <;> cases y <;> first | (cases hg; done) | skip
  · cases hg; cases r1; cases r2; exact .inl ⟨_, _, rfl, rfl, q⟩
  · cases hg; cases r1; cases r2; exact .inr ⟨_, _, rfl, rfl, q⟩
end
@[simp] theorem leS_int {i j : Int} : leS (.int i) (.int j) = some (decide (i ≤ j)) := rfl
@[simp] theorem leS_str {x y : Str} : leS (.str x) (.str y) = some (!decide (y.cps.toList < x.cps.toList)) := rfl
@[simp] theorem gtS_int {i j : Int} : gtS (.int i) (.int j) = some (decide (j < i)) := rfl
@[simp] theorem gtS_str {x y : Str} : gtS (.str x) (.str y) = some (decide (y.cps.toList < x.cps.toList)) := rfl
@[simp] theorem geS_int {i j : Int} : geS (.int i) (.int j) = some (decide (j ≤ i)) := rfl
@[simp] theorem geS_str {x y : Str} : geS (.str x) (.str y) = some (!decide (x.cps.toList < y.cps.toList)) := rfl
/-! a cell is frozen ahead of a block -/
section
variable {X : Cx} {Wx : WX} {sts : List Stmt}
theorem ss_frz {k : Nat} {f : Sv} (h : PSs X sts (tS X.K Wx f)) : PSs X sts (tS X.K Wx (sFrz k f)) := h.imp fun D σ H ⟨b, R, ρ, e, m, q⟩ => by
  unfold sFrz at q
  cases hf : frz k e with
  | none => simp only [hf] at q; exact q.elim
  | some e' =>
    simp only [hf] at q
    obtain ⟨R', s, m'⟩ := m.frz hf
    exact ⟨b, R', ρ, e', m', OkS.rebase s q⟩
end
/-! a chain of comparisons as a value -/
def eOfB (f : Env → Rs Bool) : Ev := fun e => (f e).bind fun k e1 => .ok (.d (.bl k)) e1
section
variable {X : Cx} {Wx : WX} {a b c : Expr} {pos : Pos}
theorem d_chain {op op' : CmpOp} {r r' : R2} {g g' : D → D → Option Bool} {f1 f2 f3 : Ev} (ho : OpR X (compareOp op) r) (ho' : OpR X (compareOp op') r') (hd : OpB X.K g r) (hd' : OpB X.K g' r') (ha : PE X a (tD X.K Wx f1)) (hb : PE X b (tD X.K Wx f2)) (hc : PE X c (tD X.K Wx f3))
    (hm : lastMarks [op, op'] [b, c] = false := by with_unfolding_all rfl) : PE X (.Compare a [op, op'] [b, c] pos) (tD X.K Wx (eOfB (bChain g g' f1 f2 f3))) := by
  refine d_test ((pe_chain ho ho' ha hb hc hm).imp fun σ H Q h => ?_)
  refine tG_two h fun bs R ρ e H2 w1 w2 v1 v2 m r1 r2 q => ?_
  cases w1 with
  | loc n => exact q.elim
  | d x =>
    cases w2 with
    | loc n => exact q.elim
    | d y =>
      unfold kB2 at q
      cases hg : g x y with
      | none => simp only [hg] at q; exact q.elim
      | some z =>
        simp only [hg, Rs.bind] at q
        refine hd x y z v1 v2 R H2 _ hg r1 r2 m.sub ⟨z, rfl, ?_⟩
        cases z with
        | false => exact q.fin m rfl
        | true =>
          rw [if_pos rfl] at q
          rw [if_pos rfl]
          have q : OkR X.K Wx lB bs R ρ e σ (fun k H1 => Q (.bl k) H1) ((f3 e).bind (kB2 g' (W.d y))) := q
          refine ⟨bs, R, ρ, e, m, (OkR.bind (L := lW X.K) q).imp fun v H4 h2 => ?_⟩
          obtain ⟨R2, ρ2, e2, w3, s2, l2, m2, r3, _, q2⟩ := h2
          cases w3 with
          | loc n => exact q2.elim
          | d z =>
            unfold kB2 at q2
            cases hg2 : g' y z with
            | none => simp only [hg2] at q2; exact q2.elim
            | some z2 =>
              simp only [hg2] at q2
              exact hd' y z z2 v2 v R2 H4 _ hg2 (Rep.mono s2 r2) r3 m2.sub (q2.fin m2 rfl)
end
def ofbK (r : Rs Bool) : Rs W := r.bind fun k e1 => .ok (.d (.bl k)) e1
section
variable {f : Env → Rs Bool} {e : Env} {k : Bool}
@[simp] theorem eOfB_ev : eOfB f e = ofbK (f e) := rfl
@[simp] theorem ofbK_ok : ofbK (.ok k e) = .ok (.d (.bl k)) e := rfl
end
end Dl
end
section
set_option Elab.async false
set_option linter.all false
set_option maxRecDepth 100000
set_option maxHeartbeats 4000000
namespace L2
open PySem PySem.Spec PyProof.Rows
section
variable {X : Cx} {C : Addr} {bmB : List Value} {B newId initId : String}
/-- an own exception class without own __init__, made of nothing -/
theorem pmk_own_nil {x : Str} {p pos : Pos} (F : ExcBaseFacts B newId initId bmB) (q : PySem.W.excIn X.K C bmB newId = true) (gC : X.mg x = some (.ref C)) (kC : PySem.W.keepIn X.K (.ref C) = true) (r : Raises X (.ref C)) (hg : Gl X x)
    (hdb : (x == ("__debug__" : Str)) = false := by decide) : PMk X (.Call (.Name x p) [] [] pos) (fun _ H Q => Q (.ref C) none H) := by
  intro pins s σ H Q I h
  refine wpAny_Call_Name_kw (ld_glob I hg gC ?_ hdb)
  refine PySem.W.callWith_K0 I.kIn kC ?_
  show wpAny _ _ (call (.ref C) []) _ _ _
  obtain ⟨bm, N, nm, qn, bs, hdct, sn, sub, ab, col, dd, k0, k1, k2, k3, k5, mN, hC, hN, hni, T⟩ := exc_obj I.kIn q
  exact wpAny_call_exc_subT F T hC hN hni (fun h' e hm => mk_of I hm r h (I.hok.gone hm.new)) (Nat.zero_le _)
end
end L2
namespace Dl
open PySem L2
structure XCls0 (K : PySem.W.Frag) (C : Addr) : Prop where
  ex : PySem.W.excIn K C [.type "ValueError", .type "Exception", .type "BaseException", .type "object"] "ValueError.__new__" = true
  kp : PySem.W.keepIn K (.ref C) = true
  sb : PySem.W.subIn K (.ref C) (.type "BaseException") = some true
  ty : PySem.W.typeIn K (.ref C) = some (.type "type")
def sRaise0 (C : Addr) : Sv := fun e => .exn ⟨C, none⟩ e
section
variable {X : Cx} {Wx : WX} {pos pos2 p : Pos} {C : Addr} {cn : Str}
theorem s_raise0 (hc : X.calm = true) (T : XCls0 X.K C) (tk : L2.Takes X Wx) (hg : Gl X cn) (hm : X.mg cn = some (.ref C)) (hdb : (cn == ("__debug__" : Str)) = false := by decide) :
    PS X (.Raise (some (.Call (.Name cn p) [] [] pos)) none pos2) (tS X.K Wx (sRaise0 C)) :=
  (ps_raise hc tk (pmk_own_nil F.excBase_ValueError T.ex hm T.kp (raises_own T.sb T.ty) hg hdb)).imp fun D σ H h => by
    obtain ⟨b, R, ρ, e, m, q⟩ := h
    exact q R ρ σ H _ _ (Same.refl R) m ⟨rfl, rfl⟩
end
@[simp] theorem sRaise0_ev {C : Addr} {e : Env} : sRaise0 C e = .exn ⟨C, none⟩ e := rfl
/-! the head's facts -/
def xB0 (K : PySem.W.Frag) (x : Str) : Bool := PySem.W.excIn K (He.ga K x) [.type "ValueError", .type "Exception", .type "BaseException", .type "object"] "ValueError.__new__" && (PySem.W.keepIn K (.ref (He.ga K x)) &&
  (decide (PySem.W.subIn K (.ref (He.ga K x)) (.type "BaseException") = some true) && (decide (PySem.W.typeIn K (.ref (He.ga K x)) = some (.type "type")) && decide (PySem.W.exmOne K (.ref (He.ga K x)) (.ref (He.ga K x)) = some true))))
theorem xB0_ok {K : PySem.W.Frag} {x : Str} (h : xB0 K x = true) : XCls0 K (He.ga K x) ∧ PySem.W.exmOne K (.ref (He.ga K x)) (.ref (He.ga K x)) = some true := by
  unfold xB0 at h
  simp only [Bool.and_eq_true, decide_eq_true_eq] at h
  obtain ⟨h1, h2, h3, h4, h5⟩ := h
  exact ⟨⟨h1, h2, h3, h4⟩, h5⟩
def obsXz (xs : List (Str × List Str)) (zs : List Str) (ps : List XPair) (fa : List He.Fa) (fn : List He.DefD) (K : PySem.W.Frag) : AlX := ((xs.all fun x => xBn K x.1 x.2) && (zs.all (xB0 K) && ps.all (xpB K)), He.obsD fa fn K)
def SaysXz (xs : List (Str × List Str)) (zs : List Str) (ps : List XPair) (fa : List He.Fa) (fn : List He.DefD) (K : PySem.W.Frag) : Prop := obsXz xs zs ps fa fn K = valX fn
def obsXzG (n : Nat) (xs : List (Str × List Str)) (zs : List Str) (ps : List XPair) (fa : List He.Fa) (fn : List He.DefD) (g : Addr → Option Obj) : AlX := obsXz xs zs ps fa fn (He.frG g (He.asD g n))
def hookXz (n : Nat) (xs : List (Str × List Str)) (zs : List Str) (ps : List XPair) (fa : List He.Fa) (fn : List He.DefD) : PySem.W.Hook where
  α := AlX
  obs := fun s => obsXzG n xs zs ps fa fn s.heap.get?
  val := fun _ => valX fn
  says := fun _ h => ∃ K : PySem.W.Frag, K.In h ∧ SaysXz xs zs ps fa fn K
  of := fun _ _ e => ⟨_, He.frG_in, e⟩
  keeps := fun _ _ _ ⟨K, hK, c⟩ k => ⟨K, PySem.W.Frag.In.keeps hK k, c⟩
section
variable {n : Nat} {xs : List (Str × List Str)} {zs : List Str} {ps : List XPair} {fa : List He.Fa} {fn : List He.DefD} {K : PySem.W.Frag}
theorem obsXzG_eq {g : Addr → Option Obj} {s : Shared} (h : ∀ a, g a = s.heap.get? a) : obsXzG n xs zs ps fa fn g = (hookXz n xs zs ps fa fn).obs s := by
  have e : g = s.heap.get? := funext h
  rw [e] <;> rfl
theorem SaysXz.d (c : SaysXz xs zs ps fa fn K) : He.SaysD fa fn K := congrArg (fun z : AlX => z.2) c
theorem SaysXz.all (c : SaysXz xs zs ps fa fn K) : (xs.all fun x => xBn K x.1 x.2) = true ∧ zs.all (xB0 K) = true ∧ ps.all (xpB K) = true := by
  have c1 : ((xs.all fun x => xBn K x.1 x.2) && (zs.all (xB0 K) && ps.all (xpB K))) = true := congrArg (fun z : AlX => z.1) c
  rw [Bool.and_eq_true, Bool.and_eq_true] at c1
  exact c1
theorem SaysXz.x (c : SaysXz xs zs ps fa fn K) (i : Nat) {x : Str × List Str} (h : xs[i]? = some x := by rfl) : xBn K x.1 x.2 = true := List.all_eq_true.mp c.all.1 x (List.mem_of_getElem? h)
theorem SaysXz.z (c : SaysXz xs zs ps fa fn K) (i : Nat) {x : Str} (h : zs[i]? = some x := by rfl) : xB0 K x = true := List.all_eq_true.mp c.all.2.1 x (List.mem_of_getElem? h)
theorem SaysXz.p (c : SaysXz xs zs ps fa fn K) (i : Nat) {x : XPair} (h : ps[i]? = some x := by rfl) : PySem.W.exmOne K (.ref (He.ga K x.1)) (.ref (He.ga K x.2.1)) = some x.2.2 := of_decide_eq_true (List.all_eq_true.mp c.all.2.2 x (List.mem_of_getElem? h))
end
end Dl
end
section
set_option Elab.async false
set_option linter.all false
set_option maxRecDepth 100000
set_option maxHeartbeats 4000000
namespace Dl
open PySem PySem.Spec PyProof.Rows L2
/-! a call of a local name that holds one of some defs -/
def lkF : List (Addr × Fd) → Addr → Option Fd
  | [], _ => none
  | (a, F) :: r, f => if f = a then some F else lkF r f
theorem lkF_mem : ∀ {tab : List (Addr × Fd)} {f : Addr} {F : Fd}, lkF tab f = some F → (f, F) ∈ tab
  | [], _, _, h => by cases h
  | (a, G) :: r, f, F, h => by
    unfold lkF at h
    split at h
    · rename_i e
      cases h
      subst e
      exact List.mem_cons_self
    · exact List.mem_cons_of_mem _ (lkF_mem h)
def callT (o : Option Fd) (P : Nat) (L Ln : List Nat) (fs : List Ev) (e : Env) : Rs W := match o with
  | some F => (evA fs e).bind fun ws e1 => if ws.length = P then runF F L Ln ws e1 else .fail
  | none => .fail
def eCallV (i P : Nat) (tab : List (Addr × Fd)) (L Ln : List Nat) (fs : List Ev) : Ev := fun e => match e.slot i with
  | some (.d (.fn f)) => callT (lkF tab f) P L Ln fs e
  | _ => .fail
structure HeldV (X : Cx) (k P : Nat) (f : Addr) (F : Fd) : Prop where
  ex : ∃ (j : Nat) (fd : FuncData) (ps : List Str), j ≤ k ∧ FnOk X.prog X.w X.K X.mg X.base (L2.CX X.prog X.w) j f fd ps (spD X.K P F) ∧ PySem.W.keepIn X.K (.ref f) = true ∧ Binds X.K fd ps []
section
variable {X : Cx} {Wx : WX} {k i P : Nat} {x : Str} {p pos : Pos} {a : Expr} {es : List Expr} {fs : List Ev} {tab : List (Addr × Fd)} {L Ln : List Nat}
theorem d_callV (tk : Takes X Wx) (A : ∀ q ∈ tab, HeldV X k P q.1 q.2) (hr : Room k X.A) (hN : X.N[i]? = some x) (hv : Vis X.env.scope x)
    (ha : PA X (a :: es) (tDA X.K Wx (evA fs))) (hdb : (x == ("__debug__" : Str)) = false := by decide) (hcd : (x == ("__classdict__" : Str)) = false := by decide)
    (he : starEach (a :: es) X.env = (false, eval a X.env) :: starEach es X.env := by rfl) (hpl : (backTo pos (starEach es X.env)).any (·.1) = false := by rfl) :
    PE X (.Call (.Name x p) (a :: es) [] pos) (tD X.K Wx (eCallV i P tab L Ln fs)) := by
  refine ⟨fun pins s σ H Q I h => ?_⟩
  obtain ⟨b, R, ρ, e, m, q⟩ := h
  unfold eCallV at q
  split at q
  case h_2 => exact q.elim
  case h_1 f hsl =>
  obtain ⟨v, hs, rv⟩ := m.slot i _ hsl
  have rv : Rep X.K R (.fn f) v := rv
  cases rv
  unfold callT at q
  split at q
  case h_2 => exact q.elim
  case h_1 F hF =>
  obtain ⟨j, fd, ps, hj, G, hk, hb⟩ := (A _ (lkF_mem hF)).ex
  refine wpAny_Call_Name_kw (thn ((pe_var (pos := p) hN hv hdb hcd).run pins s σ H (fun v H1 => v = .ref f ∧ H1 = H) I ⟨.ref f, hs, rfl, rfl⟩) fun u s1 ⟨v, H1, I1, r1, q1⟩ => ?_)
  obtain ⟨rfl, rfl⟩ := q1
  cases r1
  have ht : tDA X.K Wx (evA fs) σ H1 (fun vs H2 => spD X.K P F (vs ++ []) H2 Q (WE Wx σ)) := tG_one (f := evA fs) (k := fun ws e1 => if ws.length = P then runF F L Ln ws e1 else .fail) ⟨b, R, ρ, e, m, q⟩ fun bs R1 ρ1 e1 H2 ws vs m1 r q2 => by
    split at q2
    · rename_i hlen
      rw [List.append_nil]
      exact call_run m1 r (by rw [← Paired.lengthEq r]; exact hlen) q2
    · exact q2.elim
  refine PySem.W.callWith_K (h₀ := X.base) I.ok.mod.kin hk (thn (ha.run pos pins s1 σ _ _ I1 ht) fun us s2 ⟨vs, H2, I2, r, q⟩ => ⟨I2.kIn, ?_⟩) he hpl
  exact run_fnSD G (hr.mono hj) hb .nil (passAt tk σ) I2 r q
end
theorem heldV_nil {X : Cx} {k P : Nat} : ∀ q ∈ ([] : List (Addr × Fd)), HeldV X k P q.1 q.2 := fun _ h => nomatch h
theorem heldV_cons {X : Cx} {k P j : Nat} {f : Addr} {F : Fd} {fd : FuncData} {ps : List Str} {tab : List (Addr × Fd)} (hj : j ≤ k) (G : FnOk X.prog X.w X.K X.mg X.base (L2.CX X.prog X.w) j f fd ps (spD X.K P F)) (hk : PySem.W.keepIn X.K (.ref f) = true) (hb : Binds X.K fd ps [])
    (r : ∀ q ∈ tab, HeldV X k P q.1 q.2) : ∀ q ∈ (f, F) :: tab, HeldV X k P q.1 q.2 := fun q h => by
  rcases List.mem_cons.mp h with rfl | h
  · exact ⟨j, fd, ps, hj, G, hk, hb⟩
  · exact r q h
/-! evaluation -/
def slV (o : Option W) (P : Nat) (tab : List (Addr × Fd)) (L Ln : List Nat) (fs : List Ev) (e : Env) : Rs W := match o with
  | some (.d (.fn f)) => callT (lkF tab f) P L Ln fs e
  | _ => .fail
section
variable {i P : Nat} {tab : List (Addr × Fd)} {L Ln : List Nat} {fs : List Ev} {e : Env} {f a : Addr} {F : Fd}
@[simp] theorem eCallV_ev : eCallV i P tab L Ln fs e = slV (e.slot i) P tab L Ln fs e := by unfold eCallV slV; rfl
@[simp] theorem slV_fn : slV (some (.d (.fn f))) P tab L Ln fs e = callT (lkF tab f) P L Ln fs e := rfl
@[simp] theorem callT_some : callT (some F) P L Ln fs e = callK (evA fs e) P F L Ln [] := by
  show (evA fs e).bind (fun ws e1 => if ws.length = P then runF F L Ln ws e1 else .fail) = (evA fs e).bind (fun ws e1 => if (ws ++ ([] : List D).map W.d).length = P then runF F L Ln (ws ++ ([] : List D).map W.d) e1 else .fail)
  congr 1
  funext ws e1
  simp
theorem lkF_same {tab : List (Addr × Fd)} : lkF ((a, F) :: tab) a = some F := if_pos rfl
theorem lkF_ne {tab : List (Addr × Fd)} (h : f ≠ a) : lkF ((a, F) :: tab) f = lkF tab f := if_neg h
end
/-- defs of different names stand at different addresses -/
theorem fun_ne {K : PySem.W.Frag} {x x' q q' : Str} {p p' : Arguments} {b b' : List Stmt} {s s' : Scope} {d d' : List V} {k k' : List (Str × V)} {f f' : Addr} {fd fd' : FuncData} (F : FunD K x q p b s d k f fd) (F' : FunD K x' q' p' b' s' d' k' f' fd') (h : x ≠ x') : f ≠ f' := fun e => by
  subst e
  obtain ⟨oc, od, dV, kV, doc, pm, an, cdv, ct, osl, e1, lk, _⟩ := F.ex
  obtain ⟨oc', od', dV', kV', doc', pm', an', cdv', ct', osl', e1', lk', _⟩ := F'.ex
  rw [lk] at lk'
  have e2 : Data.func fd = Data.func fd' := congrArg (fun o : Obj => o.data) (Option.some.inj lk')
  have e3 : fd = fd' := Data.func.inj e2
  rw [e1, e1'] at e3
  exact h (congrArg FuncData.name e3)
end Dl
end
section
set_option Elab.async false
set_option linter.all false
set_option maxRecDepth 100000
set_option maxHeartbeats 4000000
namespace Dl
open PySem PySem.Spec PyProof.Rows L2
/-! xs[i] op= e on an own list; xs.reverse() -/
theorem pget_list {X : Cx} : PGet X (fun x y H Q => ∃ (p : Addr) (xs : List V) (i : Nat) (z : V), x = .ref p ∧ y = .int i ∧ H p = some (.lst xs) ∧ xs[i]? = some z ∧ Q z H) := by
  intro pins s σ H x y v u Q I rx ry h
  obtain ⟨p, xs, i, z, rfl, rfl, hq, he, q⟩ := h
  cases rx
  obtain ⟨t, rfl⟩ := ry
  obtain ⟨its, r, pl, hz⟩ := I.list (SqL.of hq)
  obtain ⟨w, ew, rw'⟩ := r.get he
  have hl := r.length
  have hn := line63
  have hlt : i < xs.length := by
    rcases Nat.lt_or_ge i xs.length with h | h
    · exact h
    · rw [List.getElem?_eq_none h] at he; cases he
  have fin : EP X pins σ Q w s := ⟨z, H, I, rw', q⟩
  exact wpAny_getItem_list (Q := EP X pins σ Q) pl.isList (by omega) (by omega) (by simpa using ew) fin
def augY (g : D → D → Option D) (n j : Nat) (x : D) (w : W) (e : Env) : SR := match w with
  | .d y => (match g x y with
    | some z => (match e.cell n with
      | some (.lst ys) => if j < ys.length then .nx (e.setC n (some (.lst (ys.set j z)))) else .fail
      | _ => .fail)
    | none => .fail)
  | _ => .fail
def augX (g : D → D → Option D) (n j : Nat) (oc : Option Cell) (fv : Ev) (e : Env) : SR := match oc with
  | some (.lst xs) => (match xs[j]? with
    | some x => (fv e).to (augY g n j x)
    | none => .fail)
  | _ => .fail
def kAugR (g : D → D → Option D) (fv : Ev) (o i : W) (e : Env) : SR := match o, i with
  | .loc n, .d (.int k) => if 0 ≤ k then augX g n k.toNat (e.cell n) fv e else .fail
  | _, _ => .fail
def sAugI (g : D → D → Option D) (fo fi fv : Ev) : Sv := fun e => (fo e).to fun o e1 => if wl e1 o = true then (fi e1).to fun i e2 => kAugR g fv o i e2 else .fail
section
variable {X : Cx} {Wx : WX} {o i a : Expr} {fo fi fv : Ev} {p' pos : Pos} {op : Operator} {g : D → D → Option D} {r : R2}
theorem s_augI (hv : PE X a (tD X.K Wx fv)) (ho : PE X o (tD X.K Wx fo)) (hi : PE X i (tD X.K Wx fi)) (hp : OpR X (inplaceOp op) r) (hd : OpD X.K g r)
    (ha : ∀ ov iv new, augStore i ov iv new = (do holding [new, ov, iv] (setItem ov iv new); release [new, ov, iv] []; pure .next) := by intros; rfl) : PS X (.AugAssign (.Subscript o i p') op a pos) (tS X.K Wx (sAugI g fo fi fv)) := (ps_augS ho hi pget_list hv (tip := r) hp set_list ha).imp fun D σ H h =>
  tS_one h fun b R ρ e H w v m r1 q => by
    split at q
    case isFalse => exact q.elim
    case isTrue hl =>
    refine ⟨b, R, ρ, e, m, (OkS.to (L := lW X.K) q).imp fun iv H2 h2 => ?_⟩
    obtain ⟨R2, ρ2, e2, wi, s2, l2, m2, r2, q2⟩ := h2
    have ro := r1.later hl s2 l2
    unfold kAugR at q2
    split at q2
    case h_2 => exact q2.elim
    case h_1 n k =>
    have e1 : v = .ref (ρ2 n) := ro
    subst e1
    have r2 : Rep X.K R2 (.int k) iv := r2
    cases r2
    split at q2
    case isFalse => exact q2.elim
    case isTrue hk =>
    unfold augX at q2
    split at q2
    case h_2 => exact q2.elim
    case h_1 xs hc =>
    split at q2
    case h_2 => exact q2.elim
    case h_1 x hx =>
    obtain ⟨vs, g1, g2⟩ := m2.cell n _ hc
    obtain ⟨vx, hvx, rx⟩ := g2.get hx
    refine ⟨_, vs, k.toNat, vx, rfl, by rw [Int.toNat_of_nonneg hk], g1, hvx, b, R2, ρ2, e2, m2, (OkS.to (L := lW X.K) q2).imp fun yv H3 h3 => ?_⟩
    obtain ⟨R3, ρ3, e3, w3, s3, l3, m3, r3, q3⟩ := h3
    obtain ⟨hn1, _⟩ := l3 n _ hc
    unfold augY at q3
    split at q3
    case h_2 => exact q3.elim
    case h_1 y =>
    split at q3
    case h_2 => exact q3.elim
    case h_1 z hg =>
    split at q3
    case h_2 => exact q3.elim
    case h_1 ys hc3 =>
    split at q3
    case isFalse => exact q3.elim
    case isTrue hj =>
    obtain ⟨us, f1, f2⟩ := m3.cell n _ hc3
    have r3 : Rep X.K R3 y yv := r3
    have hix : ixN us.length k = some k.toNat := by
      unfold ixN
      rw [if_pos hk, if_pos (by rw [← f2.length]; omega)]
    refine hd x y z _ _ R3 H3 _ hg (Rep.mono s3 rx) r3 m3.sub (fun u ru => ?_) fun p oo hpp rp => ?_
    · refine ⟨_, us, k, k.toNat, rfl, rfl, by rw [← hn1]; exact f1, hix, ?_⟩
      rw [← hn1]
      exact q3 R3 ρ3 σ _ (Same.refl R3) (m3.write hc3 ⟨_, upd_same, f2.set _ ru⟩)
    · have m4 := m3.freshD hpp oo
      obtain ⟨us4, f14, f24⟩ := m4.cell n _ hc3
      have e4 : us4 = us := by
        have : H3 (ρ3 n) = some (.lst us) := f1
        have h4 : upd H3 p oo (ρ3 n) = H3 (ρ3 n) := upd_ne (m3.ne hpp hc3)
        rw [h4, this] at f14
        cases f14
        rfl
      subst e4
      refine ⟨_, us4, k, k.toNat, rfl, rfl, by rw [← hn1]; exact f14, hix, ?_⟩
      rw [← hn1]
      exact q3 _ ρ3 σ _ (same_upd (m3.freshR hpp)) (m4.write hc3 ⟨_, upd_same, f24.set _ rp⟩)
end
def kReverse (w : W) (ws : List W) : Ev := fun e => match w, ws with
  | .loc n, [] => (match e.cell n with
    | some (.lst xs) => .ok (.d .non) (e.setC n (some (.lst xs.reverse)))
    | _ => .fail)
  | _, _ => .fail
theorem kReverse_ok {K : PySem.W.Frag} {Wx : WX} : MethD K Wx kReverse rReverse := fun b R ρ e σ H w v ws vs Q m r rs q => by
  unfold kReverse at q
  split at q
  case h_2 => exact q.elim
  case h_1 n =>
  split at q
  case h_2 => exact q.elim
  case h_1 xs hc =>
  have e1 : v = .ref (ρ n) := r
  subst e1
  cases rs
  obtain ⟨us, h1, h2⟩ := m.cell n _ hc
  exact ⟨_, us, rfl, rfl, h1, wr_ok m q hc ⟨_, upd_same, h2.reverse⟩ .non⟩
/-! evaluation -/
section
variable {g : D → D → Option D} {fo fi fv : Ev} {e : Env} {n j : Nat} {x y z : D} {w o i : W} {xs : List D} {k : Int}
def auK (r : Rs W) (g : D → D → Option D) (fi fv : Ev) : SR := r.to fun o e1 => if wl e1 o = true then (fi e1).to fun i e2 => kAugR g fv o i e2 else .fail
def auK2 (l : Bool) (r : Rs W) (g : D → D → Option D) (fv : Ev) (o : W) : SR := if l = true then r.to fun i e2 => kAugR g fv o i e2 else .fail
@[simp] theorem sAugI_ev : sAugI g fo fi fv e = auK (fo e) g fi fv := rfl
@[simp] theorem auK_ok : auK (.ok o e) g fi fv = auK2 (wl e o) (fi e) g fv o := rfl
@[simp] theorem auK2_ok : auK2 true (.ok i e) g fv o = kAugR g fv o i e := rfl
@[simp] theorem kAugR_ev : kAugR g fv (.loc n) (.d (.int k)) e = if 0 ≤ k then augX g n k.toNat (e.cell n) fv e else .fail := rfl
def augZ (o : Option D) (n j : Nat) (g : D → D → Option D) (fv : Ev) (e : Env) : SR := match o with
  | some x => (fv e).to (augY g n j x)
  | none => .fail
@[simp] theorem augX_lst : augX g n j (some (.lst xs)) fv e = augZ xs[j]? n j g fv e := by unfold augX augZ; rfl
def augW (r : Rs W) (g : D → D → Option D) (n j : Nat) (x : D) : SR := r.to (augY g n j x)
@[simp] theorem augZ_some : augZ (some x) n j g fv e = augW (fv e) g n j x := rfl
def augV (o : Option D) (c : Option Cell) (n j : Nat) (e : Env) : SR := match o with
    | some z => (match c with
      | some (.lst ys) => if j < ys.length then .nx (e.setC n (some (.lst (ys.set j z)))) else .fail
      | _ => .fail)
    | none => .fail
@[simp] theorem augW_ok : augW (.ok (.d y) e) g n j x = augV (g x y) (e.cell n) n j e := by
  show augY g n j x (.d y) e = _
  unfold augY augV
  rfl
@[simp] theorem augV_ev : augV (some z) (some (.lst xs)) n j e = if j < xs.length then .nx (e.setC n (some (.lst (xs.set j z)))) else .fail := rfl
def revK (o : Option Cell) (n : Nat) (e : Env) : Rs W := match o with
    | some (.lst xs) => .ok (.d .non) (e.setC n (some (.lst xs.reverse)))
    | _ => .fail
@[simp] theorem kReverse_ev : kReverse (.loc n) [] e = revK (e.cell n) n e := rfl
@[simp] theorem revK_lst : revK (some (.lst xs)) n e = .ok (.d .non) (e.setC n (some (.lst xs.reverse))) := rfl
end
/-! o.f op= e on an own object -/
def agfZ (C : Addr) (f : Str) (o : Option D) (n : Nat) (c : Option Cell) (e : Env) : SR := match o with
  | some z => (match c with
    | some (.obj C' fs) => if C' = C ∧ fs.length < 1000 then .nx (e.setC n (some (.obj C' (putW f (.d z) fs)))) else .fail
    | _ => .fail)
  | none => .fail
def agfY (C : Addr) (f : Str) (g : D → D → Option D) (n : Nat) (x : D) (w : W) (e : Env) : SR := match w with
  | .d y => agfZ C f (g x y) n (e.cell n) e
  | _ => .fail
def agfL (C : Addr) (f : Str) (g : D → D → Option D) (n : Nat) (o : Option W) (fv : Ev) (e : Env) : SR := match o with
  | some (.d x) => (fv e).to (agfY C f g n x)
  | _ => .fail
def agfX (C : Addr) (f : Str) (g : D → D → Option D) (n : Nat) (c : Option Cell) (fv : Ev) (e : Env) : SR := match c with
  | some (.obj C' fs) => if C' = C then agfL C f g n (fs.lookup f) fv e else .fail
  | _ => .fail
def kAugF (C : Addr) (f : Str) (g : D → D → Option D) (fv : Ev) (o : W) (e : Env) : SR := match o with
  | .loc n => agfX C f g n (e.cell n) fv e
  | _ => .fail
def sAugF (C : Addr) (f : Str) (g : D → D → Option D) (fo fv : Ev) : Sv := fun e => (fo e).to (kAugF C f g fv)
section
variable {X : Cx} {Wx : WX} {o a : Expr} {fo fv : Ev} {p' pos : Pos} {op : Operator} {g : D → D → Option D} {r : R2} {C : Addr} {f : Str}
theorem s_augF (cl : Cls X.K C) (na : NoAttr X.K C f) (ho : PE X o (tD X.K Wx fo)) (hv : PE X a (tD X.K Wx fv)) (hp : OpR X (inplaceOp op) r) (hd : OpD X.K g r) : PS X (.AugAssign (.Attribute o f p') op a pos) (tS X.K Wx (sAugF C f g fo fv)) :=
  (ps_fldaug ho hv (rd := r) hp).imp fun D σ H h => tS_one h fun b R ρ e H w v m r1 q => by
    unfold kAugF at q
    split at q
    case h_2 => exact q.elim
    case h_1 n =>
    have e1 : v = .ref (ρ n) := r1
    subst e1
    unfold agfX at q
    split at q
    case h_2 => exact q.elim
    case h_1 C' fs hc =>
    split at q
    case isFalse => exact q.elim
    case isTrue hC =>
    subst hC
    unfold agfL at q
    split at q
    case h_2 => exact q.elim
    case h_1 x hx =>
    obtain ⟨dx, ws, g1, g2, g3⟩ := m.cell n _ hc
    obtain ⟨vx, hvx, rx⟩ := lookup_rep f g2 g3 hx
    have rx : Rep X.K R x vx := rx
    refine ⟨_, C', dx, ws, vx, rfl, g1, cl, na, hvx, b, R, ρ, e, m, (OkS.to (L := lW X.K) q).imp fun yv H3 h3 => ?_⟩
    obtain ⟨R3, ρ3, e3, w3, s3, l3, m3, r3, q3⟩ := h3
    obtain ⟨hn1, _⟩ := l3 n _ hc
    unfold agfY at q3
    split at q3
    case h_2 => exact q3.elim
    case h_1 y =>
    unfold agfZ at q3
    split at q3
    case h_2 => exact q3.elim
    case h_1 z hg =>
    split at q3
    case h_2 => exact q3.elim
    case h_1 C'' fs3 hc3 =>
    split at q3
    case isFalse => exact q3.elim
    case isTrue hcc =>
    obtain ⟨hC3, hlen⟩ := hcc
    subst hC3
    have r3 : Rep X.K R3 y yv := r3
    refine hd x y z _ _ R3 H3 _ hg (Rep.mono s3 rx) r3 m3.sub (fun u ru => ?_) fun p oo hpp rp => ?_
    · obtain ⟨dx3, ws3, f1, f2, f3⟩ := m3.cell n _ hc3
      have e3 := congrArg List.length f2
      rw [List.length_map, List.length_map] at e3
      obtain ⟨p1, p2⟩ := putW_rep (F := RepW X.K R3 ρ3) (w := .d z) f ru f2 f3
      refine ⟨dx3, ws3, by rw [← hn1]; exact f1, by rw [e3]; exact hlen, ?_⟩
      rw [← hn1]
      exact q3 R3 ρ3 σ _ (Same.refl R3) (m3.write (c' := .obj C'' (putW f (.d z) fs3)) hc3 ⟨dx3, _, upd_same, p1, p2⟩)
    · have m4 := m3.freshD hpp oo
      obtain ⟨dx3, ws3, f1, f2, f3⟩ := m4.cell n _ hc3
      have e3 := congrArg List.length f2
      rw [List.length_map, List.length_map] at e3
      obtain ⟨p1, p2⟩ := putW_rep (F := RepW X.K _ ρ3) (w := .d z) f rp f2 f3
      refine ⟨dx3, ws3, by rw [← hn1]; exact f1, by rw [e3]; exact hlen, ?_⟩
      rw [← hn1]
      exact q3 _ ρ3 σ _ (same_upd (m3.freshR hpp)) (m4.write (c' := .obj C'' (putW f (.d z) fs3)) hc3 ⟨dx3, _, upd_same, p1, p2⟩)
end
section
variable {C C' : Addr} {f : Str} {g : D → D → Option D} {fo fv : Ev} {e : Env} {n : Nat} {x y z : D} {w : W} {fs : List (Str × W)} {c : Option Cell}
def afK (r : Rs W) (C : Addr) (f : Str) (g : D → D → Option D) (fv : Ev) : SR := r.to (kAugF C f g fv)
@[simp] theorem sAugF_ev : sAugF C f g fo fv e = afK (fo e) C f g fv := rfl
@[simp] theorem afK_loc : afK (.ok (.loc n) e) C f g fv = agfX C f g n (e.cell n) fv e := rfl
@[simp] theorem agfX_obj : agfX C f g n (some (.obj C fs)) fv e = agfL C f g n (fs.lookup f) fv e := if_pos rfl
def agfW (r : Rs W) (C : Addr) (f : Str) (g : D → D → Option D) (n : Nat) (x : D) : SR := r.to (agfY C f g n x)
@[simp] theorem agfL_some : agfL C f g n (some (.d x)) fv e = agfW (fv e) C f g n x := rfl
@[simp] theorem agfW_ok : agfW (.ok (.d y) e) C f g n x = agfZ C f (g x y) n (e.cell n) e := rfl
@[simp] theorem agfZ_some : agfZ C f (some z) n (some (.obj C fs)) e = if fs.length < 1000 then .nx (e.setC n (some (.obj C (putW f (.d z) fs)))) else .fail := by
  unfold agfZ
  simp
end
end Dl
end
section
set_option Elab.async false
set_option linter.all false
set_option maxRecDepth 100000
set_option maxHeartbeats 4000000
namespace Dl
open PySem L2
/-! x, y = a, b -/
def parK (i j : Nat) (ws : List W) (e : Env) : SR := match ws with
  | [w1, w2] => .nx ((e.setS i (some w1)).setS j (some w2))
  | _ => .fail
def sPar (i j : Nat) (fs : List Ev) : Sv := fun e => (evA fs e).to (parK i j)
section
variable {X : Cx} {Wx : WX} {a b : Expr} {fs : List Ev} {i j : Nat} {x y : Str} {px py pt pt2 pos : Pos} {kt k2 : Bool}
theorem s_par {kt k2} (hc : X.calm = true) (hN : X.N.Nodup) (hi : X.N[i]? = some x) (hj : X.N[j]? = some y) (hij : i ≠ j) (hx : X.env.scope.names.lookup x = some .local) (hy : X.env.scope.names.lookup y = some .local)
    (hw : swappedStores [.Tuple [.Name x px, .Name y py] kt pt] (.Tuple [a, b] k2 pt2) X.env = pure (some [x, y])) (ha : PA X [a, b] (tDA X.K Wx (evA fs))) :
    PS X (.Assign [.Tuple [.Name x px, .Name y py] kt pt] (.Tuple [a, b] k2 pt2) pos) (tS X.K Wx (sPar i j fs)) :=
  (ps_par hc hN hi hj hij hx hy ha hw).imp fun D σ H h => tS_one h fun bs R ρ e H ws vs m r q => by
    unfold parK at q
    split at q
    case h_2 => exact q.elim
    case h_1 w1 w2 =>
    obtain ⟨v1, v2, rfl, r1, r2⟩ := pair2 r
    exact ⟨v1, v2, rfl, q R ρ _ H (Same.refl R) ((m.setS r1).setS r2)⟩
end
theorem tgL_len : ∀ {gs : List Tg} {ds : List D} {e e' : Env}, tgL gs ds e = some e' → ds.length = gs.length
  | [], [], _, _, _ => rfl
  | [], _ :: _, _, _, h => by cases h
  | _ :: _, [], _, _, h => by cases h
  | g :: gs, d :: ds, e, e', h => by
    have h : (match g d e with | some e1 => tgL gs ds e1 | none => none) = some e' := h
    cases q : g d e with
    | none => rw [q] at h; cases h
    | some e1 =>
      rw [q] at h
      rw [List.length_cons, List.length_cons, tgL_len h]
/-- the items of a list as targets -/
def tgLst (gs : List Tg) : Tg := fun d e => match d with | .lst ds => tgL gs ds e | _ => none
theorem tgLst_ok {K : PySem.W.Frag} {gs : List Tg} {vs : List Nat} {u : TGs} {n : Nat} (hn : gs.length = n) (h2 : TgsD K gs vs u) : TgD K (tgLst gs) vs (gLst K n u) := by
  refine ⟨fun d e e' h => ?_, fun b R ρ e e' d v σ H Q m r h q => ?_⟩
  · unfold tgLst at h
    split at h
    · exact h2.1 _ _ _ h
    · cases h
  · unfold tgLst at h
    split at h
    case h_2 => cases h
    case h_1 ds =>
    cases r with
    | lst h1 l1 =>
      refine ⟨_, _, rfl, SqL.of (m.sub _ _ h1), ?_, h2.2 b R ρ e e' ds _ σ H Q m l1 h q⟩
      rw [← l1.length, ← hn]
      exact tgL_len h
/-! evaluation -/
def paK (r : Rs (List W)) (i j : Nat) : SR := r.to (parK i j)
@[simp] theorem sPar_ev {i j : Nat} {fs : List Ev} {e : Env} : sPar i j fs e = paK (evA fs e) i j := rfl
@[simp] theorem paK_ok {i j : Nat} {w1 w2 : W} {e : Env} : paK (.ok [w1, w2] e) i j = .nx ((e.setS i (some w1)).setS j (some w2)) := rfl
@[simp] theorem tgLst_ev {gs : List Tg} {ds : List D} {e : Env} : tgLst gs (.lst ds) e = tgL gs ds e := rfl
end Dl
end
section
set_option Elab.async false
set_option linter.all false
set_option maxRecDepth 100000
set_option maxHeartbeats 4000000
namespace Dl
open PySem PySem.Spec PyProof.Rows L2
/-! a dict of the module with text keys and plain values, read -/
abbrev GTab : Type := List (Str × D)
def flatOk : D → Bool
  | .non => true
  | .bl _ => true
  | .int _ => true
  | .str _ => true
  | _ => false
structure GDic (K : PySem.W.Frag) (w : World) (a : Addr) (tab : GTab) : Prop where
  kd : ∃ es n, KDict K w a es n
  hit : ∀ z d, tab.lookup z = some d → ∃ u v, PySem.W.nsIn K a z = some (some u) ∧ RelV v u ∧ ∀ R, Rep K R d v
  miss : ∀ z, tab.lookup z = none → PySem.W.nsIn K a z = some none
def inG (a : Addr) (tab : GTab) : D → D → Option Bool
  | .str z, .fn b => if b = a then some (tab.lookup z).isSome else none
  | _, _ => none
def notInG (a : Addr) (tab : GTab) : D → D → Option Bool
  | .str z, .fn b => if b = a then some (!(tab.lookup z).isSome) else none
  | _, _ => none
section
variable {X : Cx} {Wx : WX} {a : Addr} {tab : GTab}
abbrev rGin (K : PySem.W.Frag) (a : Addr) (neg : Bool) : R2 := fun x y H Q => ∃ (z : Str) (r : Option Value), x = .str z ∧ y = .ref a ∧ PySem.W.nsIn K a z = some r ∧ Q (.bl (if neg then !r.isSome else r.isSome)) H
theorem GDic.ns {K : PySem.W.Frag} {w : World} (G : GDic K w a tab) (z : Str) : ∃ r, PySem.W.nsIn K a z = some r ∧ r.isSome = (tab.lookup z).isSome := by
  cases h : tab.lookup z with
  | none => exact ⟨none, G.miss z h, rfl⟩
  | some d =>
    obtain ⟨u, v, h1, _⟩ := G.hit z d h
    exact ⟨some u, h1, rfl⟩
theorem op_inG (G : GDic X.K X.w a tab) : OpR X (compareOp .In) (rGin X.K a false) := by
  obtain ⟨es, n, D⟩ := G.kd
  intro pins s σ H x y v u Q I rx ry h
  exact op_in_kd D pins s σ H x y v u Q I rx ry h
theorem op_notInG (G : GDic X.K X.w a tab) : OpR X (compareOp .NotIn) (rGin X.K a true) := by
  obtain ⟨es, n, D⟩ := G.kd
  intro pins s σ H x y v u Q I rx ry h
  exact op_notIn_kd D pins s σ H x y v u Q I rx ry h
theorem inG_ok {K : PySem.W.Frag} {w : World} (G : GDic K w a tab) : OpB K (inG a tab) (rGin K a false) := fun x y z v u R H Q hg r1 r2 s q => by
  unfold inG at hg
  split at hg
  · split at hg
    · rename_i e
      subst e
      cases hg
      cases r1
      cases r2
      obtain ⟨r, h1, h2⟩ := G.ns _
      exact ⟨_, r, rfl, rfl, h1, by rw [← h2] at q; exact q⟩
    · cases hg
  · cases hg
theorem notInG_ok {K : PySem.W.Frag} {w : World} (G : GDic K w a tab) : OpB K (notInG a tab) (rGin K a true) := fun x y z v u R H Q hg r1 r2 s q => by
  unfold notInG at hg
  split at hg
  · split at hg
    · rename_i e
      subst e
      cases hg
      cases r1
      cases r2
      obtain ⟨r, h1, h2⟩ := G.ns _
      exact ⟨_, r, rfl, rfl, h1, by rw [← h2] at q; exact q⟩
    · cases hg
  · cases hg
theorem ix_kd {es : Array DictEntry} {n : Nat} (D : KDict X.K X.w a es n) : IxR X (fun x y H Q => ∃ (z : Str) (u0 : Value) (v0 : V), x = .ref a ∧ y = .str z ∧ PySem.W.nsIn X.K a z = some (some u0) ∧ RelV v0 u0 ∧ Q v0 H) := by
  intro value slice pins s σ H x y v u Q I rx ry h hs
  have g := op_item_kd D pins s σ H x y v u Q I rx ry h
  obtain ⟨z, u0, v0, rfl, rfl, _⟩ := h
  cases rx
  exact tail_any (kd_type D I) PySem.slot_dict_getitem.lookup g hs
def getG (a : Addr) (tab : GTab) : D → D → Option D
  | .fn b, .str z => if b = a then tab.lookup z else none
  | _, _ => none
theorem getG_ok {K : PySem.W.Frag} {w : World} (G : GDic K w a tab) : OpD K (getG a tab) (fun x y H Q => ∃ (z : Str) (u0 : Value) (v0 : V), x = .ref a ∧ y = .str z ∧ PySem.W.nsIn K a z = some (some u0) ∧ RelV v0 u0 ∧ Q v0 H) := fun x y z v u R H Q hg r1 r2 s q n => by
  unfold getG at hg
  split at hg
  · split at hg
    · rename_i e
      subst e
      cases r1
      cases r2
      obtain ⟨u0, v0, h1, h2, h3⟩ := G.hit _ _ hg
      exact ⟨_, u0, v0, rfl, rfl, h1, h2, q _ (h3 R)⟩
    · cases hg
  · cases hg
theorem d_getG {b c : Expr} {pos : Pos} {f g : Ev} (G : GDic X.K X.w a tab) (ha : PE X b (tD X.K Wx f)) (hb : PE X c (tD X.K Wx g)) (hs : PlainIx c) : PE X (.Subscript b c pos) (tD X.K Wx (eOp (getG a tab) f g)) := by
  obtain ⟨es, n, D⟩ := G.kd
  exact (pe_ix (ix_kd D) ha hb hs).imp fun σ H Q h => tG_two h fun bs R ρ e H w1 w2 v1 v2 m r1 r2 q => (getG_ok G).run m r1 r2 q
end
/-! the head's facts -/
def flatB : D → Value → Bool
  | .non, .none => true
  | .bl b, .bool c => b == c
  | .int i, .int j _ => i == j
  | .str x, .str y _ => x == y
  | _, _ => false
theorem flatB_ok {d : D} {u : Value} (h : flatB d u = true) : ∃ v : V, RelV v u ∧ ∀ (K : PySem.W.Frag) (R : Hp), Rep K R d v := by
  unfold flatB at h
  split at h
  · exact ⟨.non, rfl, fun _ _ => .non⟩
  · rw [beq_iff_eq] at h; subst h; exact ⟨.bl _, rfl, fun _ _ => .bl _⟩
  · rw [beq_iff_eq] at h; subst h; exact ⟨.int _, ⟨_, rfl⟩, fun _ _ => .int _⟩
  · rw [beq_iff_eq] at h; subst h; exact ⟨.str _, ⟨_, rfl⟩, fun _ _ => .str _⟩
  · cases h
def entB (e : DictEntry) (q : Str × D) : Bool := e.key.isStr q.1 && flatB q.2 e.val
def entsB : List DictEntry → GTab → Bool
  | [], [] => true
  | e :: es, q :: qs => entB e q && (match e.key with | .str x _ => x == q.1 | _ => false) && entsB es qs
  | _, _ => false
def gdB (K : PySem.W.Frag) (a : Addr) (tab : GTab) : Bool := match K.lookup a with
  | some ⟨_, _, .dict es _, _⟩ => entsB es.toList tab
  | _ => false
theorem entsB_find : ∀ {es : List DictEntry} {tab : GTab} (z : Str), entsB es tab = true → (match tab.lookup z with
    | some d => ∃ e, es.find? (·.key.isStr z) = some e ∧ flatB d e.val = true
    | none => es.find? (·.key.isStr z) = none) ∧ es.any (·.refKey) = false
  | [], [], z, _ => ⟨rfl, rfl⟩
  | [], _ :: _, _, h => by cases h
  | _ :: _, [], _, h => by cases h
  | e :: es, (k, d) :: qs, z, h => by
    unfold entsB at h
    rw [Bool.and_eq_true, Bool.and_eq_true] at h
    obtain ⟨⟨h1, h2⟩, h3⟩ := h
    obtain ⟨i1, i2⟩ := entsB_find z h3
    unfold entB at h1
    rw [Bool.and_eq_true] at h1
    split at h2
    case h_2 => cases h2
    case h_1 x t hk =>
    rw [beq_iff_eq] at h2
    have h2 : x = k := h2
    subst h2
    have hr : e.refKey = false := by
      show e.key.isRef = false
      rw [hk]; rfl
    refine ⟨?_, by rw [List.any_cons, hr, i2]; rfl⟩
    have hz : e.key.isStr z = (x == z) := by rw [hk]; rfl
    by_cases e1 : z = x
    · subst e1
      rw [show List.lookup z ((z, d) :: qs) = some d by simp]
      refine ⟨e, ?_, h1.2⟩
      rw [List.find?_cons, hz]
      simp
    · rw [show List.lookup z ((x, d) :: qs) = qs.lookup z by
        show (match z == x with | true => some d | false => qs.lookup z) = _
        rw [beq_false_of_ne e1]]
      have hf : List.find? (·.key.isStr z) (e :: es) = List.find? (·.key.isStr z) es := by
        rw [List.find?_cons, hz, show (x == z) = false from beq_false_of_ne (Ne.symm e1)]
      rw [hf]
      exact i1
theorem gdic_of {K : PySem.W.Frag} {w : World} {a : Addr} {tab : GTab} {ks : List Str} (h1 : He.dicW K a = some (He.keysIn w.params ks)) (h2 : gdB K a tab = true) : GDic K w a tab := by
  have kd := He.dicW_ok h1
  obtain ⟨es, n, D⟩ := kd
  unfold gdB at h2
  rw [D.at_] at h2
  have h2 : entsB es.toList tab = true := h2
  refine ⟨⟨es, n, D⟩, fun z d hz => ?_, fun z hz => ?_⟩
  · obtain ⟨g1, g2⟩ := entsB_find z h2
    rw [hz] at g1
    obtain ⟨e, f1, f2⟩ := g1
    obtain ⟨v, r1, r2⟩ := flatB_ok f2
    refine ⟨e.val, v, ?_, r1, r2 K⟩
    unfold PySem.W.nsIn
    rw [D.at_]
    show (match es.toList.find? (·.key.isStr z) with | some e => some (some e.val) | none => if es.toList.any (·.refKey) then none else some none) = _
    rw [f1]
  · obtain ⟨g1, g2⟩ := entsB_find z h2
    rw [hz] at g1
    have g1 : es.toList.find? (·.key.isStr z) = none := g1
    unfold PySem.W.nsIn
    rw [D.at_]
    show (match es.toList.find? (·.key.isStr z) with | some e => some (some e.val) | none => if es.toList.any (·.refKey) then none else some none) = _
    rw [g1, g2]
    rfl
/-! evaluation -/
section
variable {a : Addr} {tab : GTab} {z : Str}
@[simp] theorem inG_ev : inG a tab (.str z) (.fn a) = some (tab.lookup z).isSome := if_pos rfl
@[simp] theorem notInG_ev : notInG a tab (.str z) (.fn a) = some (!(tab.lookup z).isSome) := if_pos rfl
@[simp] theorem getG_ev : getG a tab (.fn a) (.str z) = tab.lookup z := if_pos rfl
end
/-! the hook with such tables -/
abbrev TabX : Type := Str × GTab
abbrev AlT : Type := AlX × (Bool × List (Option (List (Option (Str × Int)))))
def obsXt (xs : List (Str × List Str)) (zs : List Str) (ps : List XPair) (ts : List TabX) (fa : List He.Fa) (fn : List He.DefD) (K : PySem.W.Frag) : AlT := (obsXz xs zs ps fa fn K, (ts.all fun t => gdB K (He.ga K t.1) t.2), ts.map fun t => He.dicW K (He.ga K t.1))
def valXt (ts : List TabX) (fn : List He.DefD) (w : World) : AlT := (valX fn, true, ts.map fun t => some (He.keysIn w.params (t.2.map (·.1))))
def SaysXt (xs : List (Str × List Str)) (zs : List Str) (ps : List XPair) (ts : List TabX) (fa : List He.Fa) (fn : List He.DefD) (w : World) (K : PySem.W.Frag) : Prop := obsXt xs zs ps ts fa fn K = valXt ts fn w
def obsXtG (n : Nat) (xs : List (Str × List Str)) (zs : List Str) (ps : List XPair) (ts : List TabX) (fa : List He.Fa) (fn : List He.DefD) (g : Addr → Option Obj) : AlT := obsXt xs zs ps ts fa fn (He.frG g (He.asD g n))
def hookXt (n : Nat) (xs : List (Str × List Str)) (zs : List Str) (ps : List XPair) (ts : List TabX) (fa : List He.Fa) (fn : List He.DefD) : PySem.W.Hook where
  α := AlT
  obs := fun s => obsXtG n xs zs ps ts fa fn s.heap.get?
  val := fun w => valXt ts fn w
  says := fun w h => ∃ K : PySem.W.Frag, K.In h ∧ SaysXt xs zs ps ts fa fn w K
  of := fun _ _ e => ⟨_, He.frG_in, e⟩
  keeps := fun _ _ _ ⟨K, hK, c⟩ k => ⟨K, PySem.W.Frag.In.keeps hK k, c⟩
section
variable {n : Nat} {xs : List (Str × List Str)} {zs : List Str} {ps : List XPair} {ts : List TabX} {fa : List He.Fa} {fn : List He.DefD} {w : World} {K : PySem.W.Frag}
theorem obsXtG_eq {g : Addr → Option Obj} {s : Shared} (h : ∀ a, g a = s.heap.get? a) : obsXtG n xs zs ps ts fa fn g = (hookXt n xs zs ps ts fa fn).obs s := by
  have e : g = s.heap.get? := funext h
  rw [e] <;> rfl
theorem SaysXt.z0 (c : SaysXt xs zs ps ts fa fn w K) : SaysXz xs zs ps fa fn K := congrArg (fun z : AlT => z.1) c
theorem SaysXt.tab (c : SaysXt xs zs ps ts fa fn w K) (i : Nat) {t : TabX} (h : ts[i]? = some t := by rfl) : GDic K w (He.ga K t.1) t.2 := by
  have e1 : (ts.all fun t => gdB K (He.ga K t.1) t.2) = true := congrArg (fun z : AlT => z.2.1) c
  have e : ts.map (fun t => He.dicW K (He.ga K t.1)) = ts.map fun t => some (He.keysIn w.params (t.2.map (·.1))) := congrArg (fun z : AlT => z.2.2) c
  have e2 : (ts.map fun t => He.dicW K (He.ga K t.1))[i]? = (ts.map fun t => some (He.keysIn w.params (t.2.map (·.1))))[i]? := by rw [e]
  rw [List.getElem?_map, List.getElem?_map, h] at e2
  exact gdic_of (Option.some.inj e2) (List.all_eq_true.mp e1 t (List.mem_of_getElem? h))
end
end Dl
end
section
set_option Elab.async false
set_option linter.all false
set_option maxRecDepth 100000
set_option maxHeartbeats 4000000
namespace Dl
open PySem L2
/-! int of a text; x += text -/
def intS : D → Option D
  | .int i => some (.int i)
  | .bl k => some (.int (if k then 1 else 0))
  | .str x => if x.length ≤ 640 then (match PySem.intText? x with | some n => some (.int n) | none => none) else none
  | _ => none
abbrev rIntS : List V → Hp → VK → Prop := fun xs H Q => ((∃ i, xs = [.int i] ∧ Q (.int i) H) ∨ ∃ k, xs = [.bl k] ∧ Q (.int (if k then 1 else 0)) H) ∨ ∃ a n, xs = [.str a] ∧ PySem.intText? a = some n ∧ a.length ≤ 640 ∧ Q (.int n) H
theorem call_intS {X : Cx} : CallR X (.type "int") rIntS := by
  intro pins s σ H xs us Q I r h
  rcases h with h | h
  · exact call_int1 pins s σ H xs us Q I r h
  · exact call_int_str pins s σ H xs us Q I r h
section
variable {K : PySem.W.Frag} {Wx : WX}
theorem kIntS_ok : CallD K Wx (k1 intS) rIntS := k1_ok fun x z v R H Q hz rv s q n => by
  cases rv with
  | int i => cases hz; exact .inl (.inl ⟨_, rfl, q _ (.int _)⟩)
  | bl k => cases hz; exact .inl (.inr ⟨_, rfl, q _ (.int _)⟩)
  | str y =>
    have hz : (if y.length ≤ 640 then (match PySem.intText? y with | some n => some (D.int n) | none => none) else none) = some z := hz
    by_cases hl : y.length ≤ 640
    · rw [if_pos hl] at hz
      cases hn : PySem.intText? y with
      | none => rw [hn] at hz; cases hz
      | some n =>
        rw [hn] at hz
        cases hz
        exact .inr ⟨_, _, rfl, hn, hl, q _ (.int _)⟩
    · rw [if_neg hl] at hz; cases hz
  | _ => cases hz
def addIS : D → D → Option D
  | .int i, .int j => some (.int (i + j))
  | .str x, .str y => if x.length + y.length ≤ sizeLine then some (.str (x ++ y)) else none
  | _, _ => none
abbrev rAddIS : R2 := fun x y H Q => rI0 (fun i j => .int (i + j)) x y H Q ∨ ∃ i j, x = .str i ∧ y = .str j ∧ i.length + j.length ≤ sizeLine ∧ Q (.str (i ++ j)) H
theorem iop_addS {X : Cx} : OpR X (inplaceOp .Add) rAddIS := by
  intro pins s σ H x y v u Q I rx ry h
  rcases h with h | h
  · exact iop_add pins s σ H x y v u Q I rx ry h
  · exact iop_add_str pins s σ H x y v u Q I rx ry h
theorem addIS_ok : OpD K addIS rAddIS := fun x y z v u R H Q hg r1 r2 s q n => by
  unfold addIS at hg
  split at hg
  · cases hg; cases r1; cases r2; exact .inl ⟨_, _, rfl, rfl, q _ (.int _)⟩
  · split at hg
    · rename_i hl
      cases hg; cases r1; cases r2
      exact .inr ⟨_, _, rfl, rfl, hl, q _ (.str _)⟩
    · cases hg
  · cases hg
end
@[simp] theorem intS_int {i : Int} : intS (.int i) = some (.int i) := rfl
@[simp] theorem intS_bl {k : Bool} : intS (.bl k) = some (.int (if k then 1 else 0)) := rfl
@[simp] theorem addIS_int {i j : Int} : addIS (.int i) (.int j) = some (.int (i + j)) := rfl
@[simp] theorem addIS_str {x y : Str} : addIS (.str x) (.str y) = if x.length + y.length ≤ sizeLine then some (.str (x ++ y)) else none := rfl
end Dl
end
section
set_option Elab.async false
set_option linter.all false
set_option maxRecDepth 100000
set_option maxHeartbeats 8000000
namespace Tp
open PySem L2 Dl
def gt_SIGNS_writer : GTab := [("<", (.str "&lt;" : D)), (">", (.str "&gt;" : D)), ("&", (.str "&amp;" : D))]
def gt_ESCAPES : GTab := [("\"", (.str "\"" : D)), ("\\", (.str "\\" : D)), ("n", (.str "\n" : D))]
def gt_NUMBERS : GTab := [("text", (.int 0 : D)), ("drop", (.int 0 : D)), ("load", (.int 0 : D)), ("unbox", (.int 0 : D)), ("show", (.int 0 : D)), ("node", (.int 1 : D)), ("find", (.int 0 : D)), ("where", (.int 0 : D)), ("alike", (.int 0 : D)), ("rename", (.int 1 : D)), ("retext", (.int 1 : D)), ("cut", (.int 1 : D)), ("graft", (.int 2 : D)), ("lift", (.int 0 : D)), ("merge", (.int 0 : D)), ("rows", (.int 0 : D)), ("box", (.int 0 : D))]
end Tp
end
section
set_option Elab.async false
set_option linter.all false
set_option maxRecDepth 100000
set_option maxHeartbeats 8000000
namespace Tp
open PySem L2 Dl
@[simp] abbrev E_is_sign (x_sign : Option W := none) (np : Nat := 0) : Dl.Env := ⟨[x_sign], [], np⟩
noncomputable def fb_is_sign (C : Cs) : Sv :=
  (sRet (eOr (eOfB (bChain leS leS (eC (.str " ")) (eVar 0) (eC (.str "~")))) (eOp (blG eqB) (eVar 0) (eC (.str "\n")))))
noncomputable def F_is_sign (C : Cs) : Fd := mkF 1 0 0 (fb_is_sign C)
@[simp] abbrev E_QuestionReader_init (x_self x_text : Option W := none) (c0 c1 : Option Cell := none) (np : Nat := 1) : Dl.Env := ⟨[x_self, x_text], [c0, c1], np⟩
noncomputable def fb_QuestionReader_init (C : Cs) : Sv :=
  (sSeq (sSetF C.QuestionReader "text" (eVar 0) (eVar 1))
  (sSeq (sSetF C.QuestionReader "at" (eVar 0) (eC (.int 0)))
  (sSetF C.QuestionReader "steps" (eVar 0) (eC (.int 0)))))
noncomputable def F_QuestionReader_init (C : Cs) : Fd := mkF 2 2 1 (fb_QuestionReader_init C)
@[simp] abbrev E_QuestionReader_fail (x_self x_place x_reason : Option W := none) (c0 : Option Cell := none) (np : Nat := 1) : Dl.Env := ⟨[x_self, x_place, x_reason], [c0], np⟩
noncomputable def fb_QuestionReader_fail (C : Cs) : Sv :=
  (sRaiseN C.InvalidQuestion ["column", "reason"] [(eOp addD (eVar 1) (eC (.int 1))), (eVar 2)])
noncomputable def F_QuestionReader_fail (C : Cs) : Fd := mkF 3 1 1 (fb_QuestionReader_fail C)
@[simp] abbrev E_QuestionReader_sign (x_self : Option W := none) (c0 : Option Cell := none) (np : Nat := 1) : Dl.Env := ⟨[x_self], [c0], np⟩
noncomputable def fb_QuestionReader_sign (C : Cs) : Sv :=
  (sRet (eSl (eFld C.QuestionReader "text" (eVar 0)) (oSome (eFld C.QuestionReader "at" (eVar 0))) (oSome (eOp addD (eFld C.QuestionReader "at" (eVar 0)) (eC (.int 1))))))
noncomputable def F_QuestionReader_sign (C : Cs) : Fd := mkF 1 1 1 (fb_QuestionReader_sign C)
@[simp] abbrev E_QuestionReader_test (x_self x_start : Option W := none) (c0 : Option Cell := none) (np : Nat := 1) : Dl.Env := ⟨[x_self, x_start], [c0], np⟩
noncomputable def fb_QuestionReader_test_w1b (C : Cs) : Sv := (sAugF C.QuestionReader "at" addI (eVar 0) (eC (.int 1)))
noncomputable def fb_QuestionReader_test_w1 (C : Cs) : Sv := sWhile (fun _ => 1000000) (bAnd (bOp neB (eMeth C.QuestionReader "sign" 1 (F_QuestionReader_sign C) [0] [] [] (eVar 0) []) (eC (.str ""))) (bOp inB (eMeth C.QuestionReader "sign" 1 (F_QuestionReader_sign C) [0] [] [] (eVar 0) []) (eC (.str "abcdefghijklmnopqrstuvwxyz")))) [] (fb_QuestionReader_test_w1b C)
noncomputable def fb_QuestionReader_test (C : Cs) : Sv :=
  (sSeq (sSet 1 (eFld C.QuestionReader "at" (eVar 0)))
  (sSeq (sIf (bOp inB (eMeth C.QuestionReader "sign" 1 (F_QuestionReader_sign C) [0] [] [] (eVar 0) []) (eCB kTup [(eC (.str "*")), (eC (.str "#"))])) (sSeq (sAugF C.QuestionReader "at" addI (eVar 0) (eC (.int 1)))
  (sRet (eSl (eFld C.QuestionReader "text" (eVar 0)) (oSome (eVar 1)) (oSome (eFld C.QuestionReader "at" (eVar 0)))))) sNil)
  (sSeq (fb_QuestionReader_test_w1 C)
  (sSeq (sIf (bNot (bChain leB leB (eC (.int 1)) (eOp subD (eFld C.QuestionReader "at" (eVar 0)) (eVar 1)) (eC (.int 12)))) (sExpr (eMeth C.QuestionReader "fail" 3 (F_QuestionReader_fail C) [0] [] [] (eVar 0) [(eVar 1), (eC (.str "test"))])) sNil)
  (sRet (eSl (eFld C.QuestionReader "text" (eVar 0)) (oSome (eVar 1)) (oSome (eFld C.QuestionReader "at" (eVar 0)))))))))
noncomputable def F_QuestionReader_test (C : Cs) : Fd := mkF 2 1 1 (fb_QuestionReader_test C)
@[simp] abbrev E_QuestionReader_one_sign (x_self x_start x_sign : Option W := none) (c0 : Option Cell := none) (np : Nat := 1) : Dl.Env := ⟨[x_self, x_start, x_sign], [c0], np⟩
noncomputable def fb_QuestionReader_one_sign (C : Cs) : Sv :=
  (sSeq (sSet 2 (eMeth C.QuestionReader "sign" 1 (F_QuestionReader_sign C) [0] [] [] (eVar 0) []))
  (sSeq (sIf (bOp eqB (eVar 2) (eC (.str "\\"))) (sSeq (sAugF C.QuestionReader "at" addI (eVar 0) (eC (.int 1)))
  (sSeq (sIf (bOp eqB (eMeth C.QuestionReader "sign" 1 (F_QuestionReader_sign C) [0] [] [] (eVar 0) []) (eC (.str ""))) (sExpr (eMeth C.QuestionReader "fail" 3 (F_QuestionReader_fail C) [0] [] [] (eVar 0) [(eVar 1), (eC (.str "string"))])) sNil)
  (sSeq (sIf (bOp (notInG C.gd_ESCAPES gt_ESCAPES) (eMeth C.QuestionReader "sign" 1 (F_QuestionReader_sign C) [0] [] [] (eVar 0) []) (eC (.fn C.gd_ESCAPES))) (sExpr (eMeth C.QuestionReader "fail" 3 (F_QuestionReader_fail C) [0] [] [] (eVar 0) [(eFld C.QuestionReader "at" (eVar 0)), (eC (.str "sign"))])) sNil)
  (sSeq (sAugF C.QuestionReader "at" addI (eVar 0) (eC (.int 1)))
  (sRet (eOp (getG C.gd_ESCAPES gt_ESCAPES) (eC (.fn C.gd_ESCAPES)) (eIx (eFld C.QuestionReader "text" (eVar 0)) (eOp subD (eFld C.QuestionReader "at" (eVar 0)) (eC (.int 1)))))))))) sNil)
  (sSeq (sIf (bOr (bOp eqB (eVar 2) (eC (.str "\n"))) (bNot (bTru (eCall 1 (F_is_sign C) [] [] [] [(eVar 2)])))) (sExpr (eMeth C.QuestionReader "fail" 3 (F_QuestionReader_fail C) [0] [] [] (eVar 0) [(eFld C.QuestionReader "at" (eVar 0)), (eC (.str "sign"))])) sNil)
  (sSeq (sAugF C.QuestionReader "at" addI (eVar 0) (eC (.int 1)))
  (sRet (eVar 2))))))
noncomputable def F_QuestionReader_one_sign (C : Cs) : Fd := mkF 3 1 1 (fb_QuestionReader_one_sign C)
@[simp] abbrev E_QuestionReader_string (x_self x_start x_found : Option W := none) (c0 : Option Cell := none) (np : Nat := 1) : Dl.Env := ⟨[x_self, x_start, x_found], [c0], np⟩
noncomputable def fb_QuestionReader_string_w1b (C : Cs) : Sv := (sSeq (sIf (bOp eqB (eMeth C.QuestionReader "sign" 1 (F_QuestionReader_sign C) [0] [] [] (eVar 0) []) (eC (.str ""))) (sExpr (eMeth C.QuestionReader "fail" 3 (F_QuestionReader_fail C) [0] [] [] (eVar 0) [(eVar 1), (eC (.str "string"))])) sNil)
  (sAug 2 addIS (eMeth C.QuestionReader "one_sign" 2 (F_QuestionReader_one_sign C) [0] [] [] (eVar 0) [(eVar 1)])))
noncomputable def fb_QuestionReader_string_w1 (C : Cs) : Sv := sWhile (fun _ => 1000000) (bOp neB (eMeth C.QuestionReader "sign" 1 (F_QuestionReader_sign C) [0] [] [] (eVar 0) []) (eC (.str "\""))) [] (fb_QuestionReader_string_w1b C)
noncomputable def fb_QuestionReader_string (C : Cs) : Sv :=
  (sSeq (sSet 1 (eFld C.QuestionReader "at" (eVar 0)))
  (sSeq (sAugF C.QuestionReader "at" addI (eVar 0) (eC (.int 1)))
  (sSeq (sSet 2 (eC (.str "")))
  (sSeq (fb_QuestionReader_string_w1 C)
  (sSeq (sAugF C.QuestionReader "at" addI (eVar 0) (eC (.int 1)))
  (sSeq (sIf (bNot (bChain leB leB (eC (.int 1)) (eCB kLen [(eVar 2)]) (eC (.int 40)))) (sExpr (eMeth C.QuestionReader "fail" 3 (F_QuestionReader_fail C) [0] [] [] (eVar 0) [(eVar 1), (eC (.str "string"))])) sNil)
  (sRet (eVar 2))))))))
noncomputable def F_QuestionReader_string (C : Cs) : Fd := mkF 3 1 1 (fb_QuestionReader_string C)
@[simp] abbrev E_QuestionReader_filter (x_self x_axis x_depth x_sign x_start x_digits : Option W := none) (c0 : Option Cell := none) (np : Nat := 1) : Dl.Env := ⟨[x_self, x_axis, x_depth, x_sign, x_start, x_digits], [c0], np⟩
noncomputable def fb_QuestionReader_filter_w1b (C : Cs) (F_QuestionReader_question : Fd) : Sv := (sAugF C.QuestionReader "at" addI (eVar 0) (eC (.int 1)))
noncomputable def fb_QuestionReader_filter_w1 (C : Cs) (F_QuestionReader_question : Fd) : Sv := sWhile (fun _ => 1000000) (bAnd (bOp neB (eMeth C.QuestionReader "sign" 1 (F_QuestionReader_sign C) [0] [] [] (eVar 0) []) (eC (.str ""))) (bOp inB (eMeth C.QuestionReader "sign" 1 (F_QuestionReader_sign C) [0] [] [] (eVar 0) []) (eC (.str "0123456789")))) [] (fb_QuestionReader_filter_w1b C F_QuestionReader_question)
noncomputable def fb_QuestionReader_filter (C : Cs) (F_QuestionReader_question : Fd) : Sv :=
  (sSeq (sSet 3 (eMeth C.QuestionReader "sign" 1 (F_QuestionReader_sign C) [0] [] [] (eVar 0) []))
  (sSeq (sIf (bOp eqB (eVar 3) (eC (.str "/"))) (sRet (eCB kTup [(eC (.str "has")), (eMeth C.QuestionReader "question" 2 F_QuestionReader_question [0] [] [] (eVar 0) [(eOp addD (eVar 2) (eC (.int 1)))])])) sNil)
  (sSeq (sIf (bOp eqB (eVar 3) (eC (.str "\""))) (sRet (eCB kTup [(eC (.str "holds")), (eMeth C.QuestionReader "string" 1 (F_QuestionReader_string C) [0] [] [] (eVar 0) [])])) sNil)
  (sSeq (sIf (bOr (bOp eqB (eVar 3) (eC (.str ""))) (bOp notInB (eVar 3) (eC (.str "123456789")))) (sExpr (eMeth C.QuestionReader "fail" 3 (F_QuestionReader_fail C) [0] [] [] (eVar 0) [(eFld C.QuestionReader "at" (eVar 0)), (eC (.str "filter"))])) sNil)
  (sSeq (sSet 4 (eFld C.QuestionReader "at" (eVar 0)))
  (sSeq (fb_QuestionReader_filter_w1 C F_QuestionReader_question)
  (sSeq (sSet 5 (eSl (eFld C.QuestionReader "text" (eVar 0)) (oSome (eVar 4)) (oSome (eFld C.QuestionReader "at" (eVar 0)))))
  (sSeq (sIf (bOr (bOp eqB (eVar 1) (eC (.str "below"))) (bOr (bOp gtB (eCB kLen [(eVar 5)]) (eC (.int 4))) (bOp gtB (eCB (k1 intS) [(eVar 5)]) (eC (.int 5000))))) (sExpr (eMeth C.QuestionReader "fail" 3 (F_QuestionReader_fail C) [0] [] [] (eVar 0) [(eVar 4), (eC (.str "number"))])) sNil)
  (sRet (eCB kTup [(eC (.str "place")), (eCB (k1 intS) [(eVar 5)])]))))))))))
noncomputable def F_QuestionReader_filter (C : Cs) (F_QuestionReader_question : Fd) : Fd := mkF 6 1 1 (fb_QuestionReader_filter C F_QuestionReader_question)
@[simp] abbrev E_QuestionReader_step (x_self x_depth x_axis x_test x_filters : Option W := none) (c0 c1 : Option Cell := none) (np : Nat := 1) : Dl.Env := ⟨[x_self, x_depth, x_axis, x_test, x_filters], [c0, c1], np⟩
noncomputable def fb_QuestionReader_step_w1b (C : Cs) (F_QuestionReader_question : Fd) : Sv := (sSeq (sAugF C.QuestionReader "at" addI (eVar 0) (eC (.int 1)))
  (sSeq (sExpr (eM isLst kAppend (eVar 4) [(eMeth C.QuestionReader "filter" 3 (F_QuestionReader_filter C F_QuestionReader_question) [0] [] [] (eVar 0) [(eVar 2), (eVar 1)])]))
  (sSeq (sIf (bOp neB (eMeth C.QuestionReader "sign" 1 (F_QuestionReader_sign C) [0] [] [] (eVar 0) []) (eC (.str "]"))) (sExpr (eMeth C.QuestionReader "fail" 3 (F_QuestionReader_fail C) [0] [] [] (eVar 0) [(eFld C.QuestionReader "at" (eVar 0)), (eC (.str "close"))])) sNil)
  (sAugF C.QuestionReader "at" addI (eVar 0) (eC (.int 1))))))
noncomputable def fb_QuestionReader_step_w1 (C : Cs) (F_QuestionReader_question : Fd) : Sv := sWhile (fun _ => 1000000) (bOp eqB (eMeth C.QuestionReader "sign" 1 (F_QuestionReader_sign C) [0] [] [] (eVar 0) []) (eC (.str "["))) [] (fb_QuestionReader_step_w1b C F_QuestionReader_question)
noncomputable def fb_QuestionReader_step (C : Cs) (F_QuestionReader_question : Fd) : Sv :=
  (sSeq (sAugF C.QuestionReader "at" addI (eVar 0) (eC (.int 1)))
  (sSeq (sSet 2 (eC (.str "child")))
  (sSeq (sIf (bOp eqB (eMeth C.QuestionReader "sign" 1 (F_QuestionReader_sign C) [0] [] [] (eVar 0) []) (eC (.str "/"))) (sSeq (sSet 2 (eC (.str "below")))
  (sAugF C.QuestionReader "at" addI (eVar 0) (eC (.int 1)))) sNil)
  (sSeq (sSet 3 (eMeth C.QuestionReader "test" 1 (F_QuestionReader_test C) [0] [] [] (eVar 0) []))
  (sSeq (sSet 4 (eCB (kDisp (some 1)) []))
  (sSeq (sThen 1 (fb_QuestionReader_step_w1 C F_QuestionReader_question))
  (sRet (eCB kTup [(eVar 2), (eVar 3), (eVar 4)]))))))))
noncomputable def F_QuestionReader_step (C : Cs) (F_QuestionReader_question : Fd) : Fd := mkF 5 2 1 (fb_QuestionReader_step C F_QuestionReader_question)
@[simp] abbrev E_QuestionReader_question (x_self x_depth x_found : Option W := none) (c0 c1 : Option Cell := none) (np : Nat := 1) : Dl.Env := ⟨[x_self, x_depth, x_found], [c0, c1], np⟩
noncomputable def fb_QuestionReader_question_w1b (C : Cs) (F_QuestionReader_question : Fd) : Sv := (sSeq (sIf (bOp eqB (eFld C.QuestionReader "steps" (eVar 0)) (eC (.int 12))) (sExpr (eMeth C.QuestionReader "fail" 3 (F_QuestionReader_fail C) [0] [] [] (eVar 0) [(eFld C.QuestionReader "at" (eVar 0)), (eC (.str "steps"))])) sNil)
  (sSeq (sAugF C.QuestionReader "steps" addI (eVar 0) (eC (.int 1)))
  (sExpr (eM isLst kAppend (eVar 2) [(eMeth C.QuestionReader "step" 2 (F_QuestionReader_step C F_QuestionReader_question) [0] [] [] (eVar 0) [(eVar 1)])]))))
noncomputable def fb_QuestionReader_question_w1 (C : Cs) (F_QuestionReader_question : Fd) : Sv := sWhile (fun _ => 1000000) (bOp eqB (eMeth C.QuestionReader "sign" 1 (F_QuestionReader_sign C) [0] [] [] (eVar 0) []) (eC (.str "/"))) [] (fb_QuestionReader_question_w1b C F_QuestionReader_question)
noncomputable def fb_QuestionReader_question (C : Cs) (F_QuestionReader_question : Fd) : Sv :=
  (sSeq (sIf (bOp neB (eMeth C.QuestionReader "sign" 1 (F_QuestionReader_sign C) [0] [] [] (eVar 0) []) (eC (.str "/"))) (sExpr (eMeth C.QuestionReader "fail" 3 (F_QuestionReader_fail C) [0] [] [] (eVar 0) [(eFld C.QuestionReader "at" (eVar 0)), (eC (.str "step"))])) sNil)
  (sSeq (sIf (bAnd (bOp ltB (eFld C.QuestionReader "steps" (eVar 0)) (eC (.int 12))) (bOp gtB (eVar 1) (eC (.int 3)))) (sExpr (eMeth C.QuestionReader "fail" 3 (F_QuestionReader_fail C) [0] [] [] (eVar 0) [(eFld C.QuestionReader "at" (eVar 0)), (eC (.str "deep"))])) sNil)
  (sSeq (sSet 2 (eCB (kDisp (some 1)) []))
  (sSeq (sThen 1 (fb_QuestionReader_question_w1 C F_QuestionReader_question))
  (sRet (eVar 2))))))
noncomputable def F_QuestionReader_question (C : Cs) : Nat → Fd
  | 0 => fun _ _ => .fail
  | n + 1 => mkF 3 2 1 (fb_QuestionReader_question C (F_QuestionReader_question C n))
@[simp] abbrev E_read_question (x_text x_reader x_question : Option W := none) (c0 : Option Cell := none) (np : Nat := 0) : Dl.Env := ⟨[x_text, x_reader, x_question], [c0], np⟩
noncomputable def fb_read_question (C : Cs) : Sv :=
  (sSeq (sSet 1 (eMake C.QuestionReader 2 (F_QuestionReader_init C) 0 [] [] true [] [(eVar 0)]))
  (sSeq (sSet 2 (eMeth C.QuestionReader "question" 2 (F_QuestionReader_question C 6) [0] [] [] (eVar 1) [(eC (.int 1))]))
  (sSeq (sThen 0 (sIf (bOp ltB (eFld C.QuestionReader "at" (eVar 1)) (eCB kLen [(eVar 0)])) (sExpr (eMeth C.QuestionReader "fail" 3 (F_QuestionReader_fail C) [0] [] [] (eVar 1) [(eFld C.QuestionReader "at" (eVar 1)), (eC (.str "end"))])) sNil))
  (sRet (eVar 2)))))
noncomputable def F_read_question (C : Cs) : Fd := mkF 3 1 0 (fb_read_question C)
@[simp] theorem nx_QuestionReader_1 : (("text" : Str) = "at") = False := eq_false (by decide +kernel)
@[simp] theorem nx_QuestionReader_2 : (("text" : Str) = "steps") = False := eq_false (by decide +kernel)
@[simp] theorem nx_QuestionReader_3 : (("text" : Str) = "fail") = False := eq_false (by decide +kernel)
@[simp] theorem nx_QuestionReader_4 : (("text" : Str) = "sign") = False := eq_false (by decide +kernel)
@[simp] theorem nx_QuestionReader_5 : (("text" : Str) = "question") = False := eq_false (by decide +kernel)
@[simp] theorem nx_QuestionReader_6 : (("text" : Str) = "step") = False := eq_false (by decide +kernel)
@[simp] theorem nx_QuestionReader_7 : (("text" : Str) = "test") = False := eq_false (by decide +kernel)
@[simp] theorem nx_QuestionReader_8 : (("text" : Str) = "filter") = False := eq_false (by decide +kernel)
@[simp] theorem nx_QuestionReader_9 : (("text" : Str) = "string") = False := eq_false (by decide +kernel)
@[simp] theorem nx_QuestionReader_10 : (("text" : Str) = "one_sign") = False := eq_false (by decide +kernel)
@[simp] theorem nx_QuestionReader_11 : (("at" : Str) = "text") = False := eq_false (by decide +kernel)
@[simp] theorem nx_QuestionReader_12 : (("at" : Str) = "steps") = False := eq_false (by decide +kernel)
@[simp] theorem nx_QuestionReader_13 : (("at" : Str) = "fail") = False := eq_false (by decide +kernel)
@[simp] theorem nx_QuestionReader_14 : (("at" : Str) = "sign") = False := eq_false (by decide +kernel)
@[simp] theorem nx_QuestionReader_15 : (("at" : Str) = "question") = False := eq_false (by decide +kernel)
@[simp] theorem nx_QuestionReader_16 : (("at" : Str) = "step") = False := eq_false (by decide +kernel)
@[simp] theorem nx_QuestionReader_17 : (("at" : Str) = "test") = False := eq_false (by decide +kernel)
@[simp] theorem nx_QuestionReader_18 : (("at" : Str) = "filter") = False := eq_false (by decide +kernel)
@[simp] theorem nx_QuestionReader_19 : (("at" : Str) = "string") = False := eq_false (by decide +kernel)
@[simp] theorem nx_QuestionReader_20 : (("at" : Str) = "one_sign") = False := eq_false (by decide +kernel)
@[simp] theorem nx_QuestionReader_21 : (("steps" : Str) = "text") = False := eq_false (by decide +kernel)
@[simp] theorem nx_QuestionReader_22 : (("steps" : Str) = "at") = False := eq_false (by decide +kernel)
@[simp] theorem nx_QuestionReader_23 : (("steps" : Str) = "fail") = False := eq_false (by decide +kernel)
@[simp] theorem nx_QuestionReader_24 : (("steps" : Str) = "sign") = False := eq_false (by decide +kernel)
@[simp] theorem nx_QuestionReader_25 : (("steps" : Str) = "question") = False := eq_false (by decide +kernel)
@[simp] theorem nx_QuestionReader_26 : (("steps" : Str) = "step") = False := eq_false (by decide +kernel)
@[simp] theorem nx_QuestionReader_27 : (("steps" : Str) = "test") = False := eq_false (by decide +kernel)
@[simp] theorem nx_QuestionReader_28 : (("steps" : Str) = "filter") = False := eq_false (by decide +kernel)
@[simp] theorem nx_QuestionReader_29 : (("steps" : Str) = "string") = False := eq_false (by decide +kernel)
@[simp] theorem nx_QuestionReader_30 : (("steps" : Str) = "one_sign") = False := eq_false (by decide +kernel)
end Tp
end
section
set_option Elab.async false
set_option linter.all false
set_option maxRecDepth 100000
set_option maxHeartbeats 4000000
namespace Dl
open PySem L2
/-! any, all of a list of bools -/
def blsD : List D → Option (List Bool)
  | [] => some []
  | .bl b :: r => match blsD r with | some s => some (b :: s) | none => none
  | _ :: _ => none
theorem blsD_map : ∀ bs : List Bool, blsD (bs.map D.bl) = some bs
  | [] => rfl
  | b :: bs => by rw [List.map_cons, blsD, blsD_map bs]
section
variable {K : PySem.W.Frag} {Wx : WX} {R : Hp}
theorem blsD_rep : ∀ {xs : List D} {bs : List Bool} {vs : List V}, blsD xs = some bs → RepL K R xs vs → vs = bs.map V.bl
  | [], _, _, h, .nil => by cases h; rfl
  | d :: r, bs, _, h, .cons a b => by
    cases d with
    | bl c =>
      unfold blsD at h
      cases q : blsD r with
      | none => rw [q] at h; cases h
      | some s =>
        rw [q] at h
        cases h
        cases a
        rw [blsD_rep q b]
        rfl
    | _ => cases h
def kFoldB (g : List Bool → Bool) : List W → Ev := fun ws e => match ws with
  | [.d (.lst xs)] => (match blsD xs with | some bs => .ok (.d (.bl (g bs))) e | none => .fail)
  | _ => .fail
theorem kFoldB_at {g : List Bool → Bool} {b : Bs} {R : Hp} {ρ : Nat → Addr} {e : Env} {σ : St} {H : Hp} {ws : List W} {vs : List V} {Q : VK} (m : Md K b R ρ e σ H) (rp : Paired (RepW K R ρ) ws vs) (q : OkR K Wx (lW K) b R ρ e σ Q (kFoldB g ws e)) :
    ∃ a bs, vs = [V.ref a] ∧ SqL K H a (bs.map V.bl) ∧ Q (.bl (g bs)) H := by
  unfold kFoldB at q
  split at q
  · rename_i xs
    obtain ⟨v, e1, rv⟩ := pair1 rp
    subst e1
    have rv : Rep K R (.lst xs) v := rv
    cases rv with
    | lst h1 l1 =>
      cases hi : blsD xs with
      | none => rw [hi] at q; exact q.elim
      | some bs =>
        rw [hi] at q
        rw [blsD_rep hi l1] at h1
        exact ⟨_, bs, rfl, SqL.of (m.sub _ _ h1), q.fin m (.bl _)⟩
  · exact q.elim
theorem kAny_ok : CallD K Wx (kFoldB fun bs => bs.any id) (rAny K) := fun b R ρ e σ H ws vs Q m rp q => by
  obtain ⟨a, bs, rfl, h1, h2⟩ := kFoldB_at m rp q
  exact ⟨a, bs, rfl, h1, h2⟩
theorem kAll_ok : CallD K Wx (kFoldB fun bs => bs.all id) (rAll K) := fun b R ρ e σ H ws vs Q m rp q => by
  obtain ⟨a, bs, rfl, h1, h2⟩ := kFoldB_at m rp q
  exact ⟨a, bs, rfl, h1, h2⟩
end
section
variable {e : Env} {bs : List Bool} {g : List Bool → Bool}
@[simp] theorem kFoldB_ev : kFoldB g [.d (.lst (bs.map .bl))] e = .ok (.d (.bl (g bs))) e := by
  show (match blsD (bs.map .bl) with | some bs => Rs.ok (W.d (.bl (g bs))) e | none => .fail) = _
  rw [blsD_map]
end
end Dl
end
section
set_option Elab.async false
set_option linter.all false
set_option maxRecDepth 100000
set_option maxHeartbeats 8000000
namespace Tp
open PySem L2 Dl
@[simp] abbrev E_is_name_questions (x_text x_letter : Option W := none) (c0 : Option Cell := none) (np : Nat := 0) : Dl.Env := ⟨[x_text, x_letter], [c0], np⟩
noncomputable def fb_is_name_questions_c1 (C : Cs) : Ev := eLc (iS (eVar 0)) (tgName 1) (fun e => .ok true e) (eOp (blG inB) (eVar 1) (eC (.str "abcdefghijklmnopqrstuvwxyz"))) 0 false [1]
noncomputable def fb_is_name_questions (C : Cs) : Sv :=
  (sRet (eAnd (eOfB (bChain leB leB (eC (.int 1)) (eCB kLen [(eVar 0)]) (eC (.int 12)))) (eCB (kFoldB fun bs => bs.all id) [(fb_is_name_questions_c1 C)])))
noncomputable def F_is_name_questions (C : Cs) : Fd := mkF 2 1 0 (fb_is_name_questions C)
@[simp] abbrev E_step_count (x_question x_count x_axis x_test x_filters x_row : Option W := none) (np : Nat := 0) : Dl.Env := ⟨[x_question, x_count, x_axis, x_test, x_filters, x_row], [], np⟩
noncomputable def fb_step_count_l2b (C : Cs) (F_step_count : Fd) : Sv := (sIf (bOp eqB (eIx (eVar 5) (eC (.int 0))) (eC (.str "has"))) (sAug 1 addI (eCall 1 F_step_count [] [] [] [(eIx (eVar 5) (eC (.int 1)))])) sNil)
noncomputable def fb_step_count_l2 (C : Cs) (F_step_count : Fd) : Sv := sFor (iL (eVar 4)) (tgName 5) [5] (fb_step_count_l2b C F_step_count)
noncomputable def fb_step_count_l1b (C : Cs) (F_step_count : Fd) : Sv := (sSeq (fb_step_count_l2 C F_step_count) sNil)
noncomputable def fb_step_count_l1 (C : Cs) (F_step_count : Fd) : Sv := sFor (iL (eVar 0)) (tgTup [(tgName 2), (tgName 3), (tgName 4)]) [2, 3, 4, 5] (fb_step_count_l1b C F_step_count)
noncomputable def fb_step_count (C : Cs) (F_step_count : Fd) : Sv :=
  (sSeq (sSet 1 (eCB kLen [(eVar 0)]))
  (sSeq (fb_step_count_l1 C F_step_count)
  (sRet (eVar 1))))
noncomputable def F_step_count (C : Cs) : Nat → Fd
  | 0 => fun _ _ => .fail
  | n + 1 => mkF 6 0 0 (fb_step_count C (F_step_count C n))
@[simp] abbrev E_is_filter (x_row x_axis x_depth x_sign : Option W := none) (c0 : Option Cell := none) (np : Nat := 0) : Dl.Env := ⟨[x_row, x_axis, x_depth, x_sign], [c0], np⟩
noncomputable def fb_is_filter_c1 (C : Cs) (F_has_form : Fd) : Ev := eLc (iS (eIx (eVar 0) (eC (.int 1)))) (tgName 3) (fun e => .ok true e) (eCall 1 (F_is_sign C) [] [] [] [(eVar 3)]) 0 false [3]
noncomputable def fb_is_filter (C : Cs) (F_has_form : Fd) : Sv :=
  (sSeq (sIf (bOp eqB (eIx (eVar 0) (eC (.int 0))) (eC (.str "place"))) (sRet (eAnd (eOp (blG eqB) (eVar 1) (eC (.str "child"))) (eOfB (bChain leB leB (eC (.int 1)) (eIx (eVar 0) (eC (.int 1))) (eC (.int 5000)))))) sNil)
  (sSeq (sIf (bOp eqB (eIx (eVar 0) (eC (.int 0))) (eC (.str "has"))) (sRet (eCall 2 F_has_form [] [] [] [(eIx (eVar 0) (eC (.int 1))), (eOp addD (eVar 2) (eC (.int 1)))])) sNil)
  (sRet (eAnd (eOp (blG eqB) (eIx (eVar 0) (eC (.int 0))) (eC (.str "holds"))) (eAnd (eOfB (bChain leB leB (eC (.int 1)) (eCB kLen [(eIx (eVar 0) (eC (.int 1)))]) (eC (.int 40)))) (eCB (kFoldB fun bs => bs.all id) [(fb_is_filter_c1 C F_has_form)]))))))
noncomputable def F_is_filter (C : Cs) (F_has_form : Fd) : Fd := mkF 4 1 0 (fb_is_filter C F_has_form)
@[simp] abbrev E_has_form (x_question x_depth x_axis x_test x_filters x_row : Option W := none) (c0 : Option Cell := none) (np : Nat := 0) : Dl.Env := ⟨[x_question, x_depth, x_axis, x_test, x_filters, x_row], [c0], np⟩
noncomputable def fb_has_form_c1 (C : Cs) (F_has_form : Fd) : Ev := eLc (iL (eVar 4)) (tgName 5) (fun e => .ok true e) (eCall 3 (F_is_filter C F_has_form) [] [] [] [(eVar 5), (eVar 2), (eVar 1)]) 0 false [5]
noncomputable def fb_has_form_l1b (C : Cs) (F_has_form : Fd) : Sv := (sSeq (sIf (bOr (bOp notInB (eVar 2) (eCB kTup [(eC (.str "child")), (eC (.str "below"))])) (bAnd (bOp notInB (eVar 3) (eCB kTup [(eC (.str "*")), (eC (.str "#"))])) (bNot (bTru (eCall 1 (F_is_name_questions C) [] [] [] [(eVar 3)]))))) (sRet (eC (.bl false))) sNil)
  (sIf (bNot (bTru (eCB (kFoldB fun bs => bs.all id) [(fb_has_form_c1 C F_has_form)]))) (sRet (eC (.bl false))) sNil))
noncomputable def fb_has_form_l1 (C : Cs) (F_has_form : Fd) : Sv := sFor (iL (eVar 0)) (tgTup [(tgName 2), (tgName 3), (tgName 4)]) [2, 3, 4, 5] (fb_has_form_l1b C F_has_form)
noncomputable def fb_has_form (C : Cs) (F_has_form : Fd) : Sv :=
  (sSeq (sIf (bOr (bOp eqB (eCB kLen [(eVar 0)]) (eC (.int 0))) (bOp gtB (eVar 1) (eC (.int 3)))) (sRet (eC (.bl false))) sNil)
  (sSeq (fb_has_form_l1 C F_has_form)
  (sRet (eC (.bl true)))))
noncomputable def F_has_form (C : Cs) : Nat → Fd
  | 0 => fun _ _ => .fail
  | n + 1 => mkF 6 1 0 (fb_has_form C (F_has_form C n))
@[simp] abbrev E_is_proper (x_question : Option W := none) (np : Nat := 0) : Dl.Env := ⟨[x_question], [], np⟩
noncomputable def fb_is_proper (C : Cs) : Sv :=
  (sRet (eAnd (eCall 2 (F_has_form C 5) [] [] [] [(eVar 0), (eC (.int 1))]) (eOp (blG leB) (eCall 1 (F_step_count C 5) [] [] [] [(eVar 0)]) (eC (.int 12)))))
noncomputable def F_is_proper (C : Cs) : Fd := mkF 1 0 0 (fb_is_proper C)
end Tp
end
section
set_option Elab.async false
set_option linter.all false
set_option maxRecDepth 100000
set_option maxHeartbeats 4000000
namespace Dl
open PySem PySem.Spec PyProof.Rows L2
/-! d.get(k, x) of a dict that is data; f-strings of one value; str of ints; text.replace -/
def get2D (kvs : List (Key × D)) (y z : D) : Option D := match getD kvs y with
  | some (some d) => some d
  | some none => some z
  | none => none
def kGet2 (kvs : List (Key × D)) (y z : W) : Ev := fun e => match y, z with
  | .d y, .d z => okO (get2D kvs y z) e
  | _, _ => .fail
def dgK (h : Ev) (kvs : List (Key × D)) (r : Rs W) : Rs W := r.bind fun y e2 => if wl e2 y = true then (h e2).bind (kGet2 kvs y) else .fail
def dgK0 (g h : Ev) (w : W) (e1 : Env) : Rs W := match w with
  | .d (.dic kvs) => dgK h kvs (g e1)
  | _ => .fail
def eDGet2 (f g h : Ev) : Ev := fun e => (f e).bind (dgK0 g h)
/-- f'a{x}b' -/
def fmtD (a b : Str) : D → Option D
  | .str y => if y.length ≤ sizeLine ∧ (a ++ y).length ≤ sizeLine ∧ (a ++ y ++ b).length ≤ sizeLine then some (.str (a ++ y ++ b)) else none
  | .int i => if i.natAbs.log2 < 1920 ∧ (a ++ (toString i : Str)).length ≤ sizeLine ∧ (a ++ (toString i : Str) ++ b).length ≤ sizeLine then some (.str (a ++ (toString i : Str) ++ b)) else none
  | _ => none
def kFmt (a b : Str) (w : W) : Ev := fun e => match w with
  | .d x => okO (fmtD a b x) e
  | _ => .fail
def eFmt3 (a b : Str) (f : Ev) : Ev := fun e => (f e).bind (kFmt a b)
def strI : D → Option D
  | .int i => if i.natAbs.log2 < 1920 then some (.str (toString i : Str)) else none
  | _ => none
def replD (y z : Str) : D → Option D
  | .str x => if x.length + (x.length + 1) * z.length ≤ 16777216 then some (.str (Txt.replace x y z)) else none
  | _ => none
def kRepl (y z : Str) (w : W) : Ev := fun e => match w with
  | .d x => okO (replD y z x) e
  | _ => .fail
def eRepl (y z : Str) (f : Ev) : Ev := fun e => (f e).bind (kRepl y z)
theorem empty_app (a : Str) : Str.empty ++ a = a := by
  cases a
  show Str.mk (#[] ++ _) = _
  simp
section
variable {X : Cx} {Wx : WX} {a c d : Expr} {f g h : Ev} {apos cpos pos p1 p2 p3 p4 p5 : Pos} {j k : Nat}
theorem d_dget2 (hu : X.A.units + 64 < cLine) (ha : PE X a (tD X.K Wx f)) (hb : PE X c (tD X.K Wx g)) (hc : PE X d (tD X.K Wx h)) (m : M2 X a "get" apos c d cpos) : PE X (.Call (.Attribute a "get" apos) [c, d] [] cpos) (tD X.K Wx (eDGet2 f g h)) := (pe_dget2 (by omega) ha hb hc m).imp fun σ H Q q =>
  tG_one q fun bs R ρ e H w v m r q => by
    unfold dgK0 at q
    split at q
    · rename_i kvs
      have r : Rep X.K R (.dic kvs) v := r
      cases r with
      | dic h1 h2 h3 =>
        refine ⟨_, rfl, .inl ⟨_, .of (m.sub _ _ h1)⟩, bs, R, ρ, e, m, (OkR.bind (L := lW X.K) q).imp fun y H2 k2 => ?_⟩
        obtain ⟨R2, ρ2, e2, y', s2, l2, m2, r2, _, q2⟩ := k2
        split at q2
        · rename_i hl
          refine ⟨bs, R2, ρ2, e2, m2, (OkR.bind (L := lW X.K) q2).imp fun z H3 k3 => ?_⟩
          obtain ⟨R3, ρ3, e3, z', s3, l3, m3, r3, _, q3⟩ := k3
          have ry := r2.later hl s3 l3
          cases y' with
          | loc n => exact q3.elim
          | d ya =>
          cases z' with
          | loc n => exact q3.elim
          | d za =>
            obtain ⟨u, hz, q3⟩ := okO_ok q3
            have h1' : H3 _ = some _ := m3.sub _ _ (s3 _ _ (s2 _ _ h1))
            have h3' := (h3.mono s2).mono s3
            unfold get2D at hz
            cases hg : getD kvs ya with
            | none => rw [hg] at hz; cases hz
            | some o =>
              rw [hg] at hz
              obtain ⟨ov, g1, g2⟩ := getD_ok (o := o) hg h1' h2 h3' ry
              rcases g2 with ⟨z1, z2⟩ | ⟨d', v', z1, z2, rd⟩
              · subst z1 z2
                cases hz
                exact ⟨_, g1, q3.fin m3 r3⟩
              · subst z1 z2
                cases hz
                exact ⟨_, g1, q3.fin m3 rd⟩
        · exact q2.elim
    · exact q.elim
theorem d_fmt3 {y z : Str} (he : PE X a (tD X.K Wx f)) (hy : y.length ≤ sizeLine := by decide +kernel) : PE X (.JoinedStr [.Constant (.str y) j p1, .FormattedValue a (-1) none p2, .Constant (.str z) k p3] pos) (tD X.K Wx (eFmt3 y z f)) := (pe_joined (.cons pe_str (.cons (pe_fmt he) (.cons pe_str .nil)))).imp fun σ H Q q => by
  have e1 : Str.empty ++ y = y := empty_app y
  refine ⟨y, rfl, by rw [e1]; exact hy, ?_⟩
  rw [e1]
  refine tG_one q fun bs R ρ e H1 w v m r q => ?_
  unfold kFmt at q
  split at q
  · rename_i x
    have r : Rep X.K R x v := r
    obtain ⟨u, hz, q⟩ := okO_ok q
    unfold fmtD at hz
    split at hz
    · split at hz
      · rename_i t hh
        cases hz
        cases r
        exact .inl ⟨_, rfl, hh.1, _, rfl, hh.2.1, _, rfl, hh.2.2, q.fin m (Rep.str _)⟩
      · cases hz
    · split at hz
      · rename_i i hh
        cases hz
        cases r
        exact .inr ⟨_, rfl, hh.1, _, rfl, hh.2.1, _, rfl, hh.2.2, q.fin m (Rep.str _)⟩
      · cases hz
    · cases hz
  · exact q.elim
/-! str(i) -/
theorem kStrI_ok : CallD X.K Wx (k1 strI) (fun xs H Q => ∃ i, xs = [.int i] ∧ i.natAbs.log2 < 1920 ∧ Q (.str (toString i)) H) := k1_ok fun x z v R H Q hz rv s q n => by
  cases rv with
  | int i =>
    have hz : (if i.natAbs.log2 < 1920 then some (D.str (toString i : Str)) else none) = some z := hz
    split at hz
    · rename_i hl
      cases hz
      exact ⟨_, rfl, hl, q _ (.str _)⟩
    · cases hz
  | _ => cases hz
/-! replace: a token is out -/
theorem PETimp {t u : TE} (ht : PET X a t) (h : ∀ σ H Q, u σ H Q → t σ H Q) : PET X a u := fun pins s σ H Q h0 I q => ht pins s σ H Q h0 I (h σ H Q q)
theorem repl_st {y z : Str} {Q : VK} {σ : L2.St} {H : Hp} (q : tD X.K Wx (eRepl y z f) σ H Q) : CwR.tReplC (tD X.K Wx f) y z σ H Q :=
  tG_one q fun bs R ρ e H1 w v m r q => by
    unfold kRepl at q
    split at q
    · rename_i x
      have r : Rep X.K R x v := r
      obtain ⟨u, hz, q⟩ := okO_ok q
      unfold replD at hz
      split at hz
      · split at hz
        · rename_i t hh
          cases hz
          cases r
          exact ⟨_, rfl, hh, q.fin m (Rep.str _)⟩
        · cases hz
      · cases hz
    · exact q.elim
theorem dt_repl {y z : Str} (ho : PE X a (tD X.K Wx f)) (hyz : (y == z) = false := by decide +kernel)
    (hst : starEach [.Constant (.str y) j p1, .Constant (.str z) k p2] X.env = [(false, eval (.Constant (.str y) j p1) X.env), (false, eval (.Constant (.str z) k p2) X.env)] := by rfl)
    (hbase : attributeBase a "replace" X.env (eval a X.env) = eval a X.env := by rfl) (hline : (apos.endLine == pos.line) = true := by rfl) :
    PET X (.Call (.Attribute a "replace" apos) [.Constant (.str y) j p1, .Constant (.str z) k p2] [] pos) (tD X.K Wx (eRepl y z f)) := PETimp (CwR.pet_replC ho hyz hst hbase hline) fun σ H Q q => repl_st q
theorem dt_replT {y z : Str} (ho : PET X a (tD X.K Wx f)) (hyz : (y == z) = false := by decide +kernel)
    (hst : starEach [.Constant (.str y) j p1, .Constant (.str z) k p2] X.env = [(false, eval (.Constant (.str y) j p1) X.env), (false, eval (.Constant (.str z) k p2) X.env)] := by rfl)
    (hbase : attributeBase a "replace" X.env (eval a X.env) = eval a X.env := by rfl) (hline : (apos.endLine == pos.line) = true := by rfl) :
    PET X (.Call (.Attribute a "replace" apos) [.Constant (.str y) j p1, .Constant (.str z) k p2] [] pos) (tD X.K Wx (eRepl y z f)) := PETimp (CwR.pet_replT ho hyz hst hbase hline) fun σ H Q q => repl_st q
theorem st_set {i : Nat} {x : Str} {pos' : Pos} (hN : X.N.Nodup) (hi : X.N[i]? = some x) (hx : Loc X.env.scope x) (he : PET X a (tD X.K Wx f)) (hs : swapsWith a (some (.Name x pos')) pos.line X.env = pure false := by rfl) (hf : X.fn x = true ∨ X.env.scope.names.lookup x = some .local := by first | exact .inl rfl | exact .inr rfl | assumption) :
    PST X (.Assign [.Name x pos'] a pos) (tS X.K Wx (sSet i f)) := by
  intro pins s σ H D h0 I h
  have h2 : tAsg (tD X.K Wx f) (gName i) D σ H := tS_one h fun b R ρ e H w v m r q => q R ρ _ H (Same.refl R) (m.setS r)
  refine wpAny_Assign_Name (thn (he pins s σ H _ h0 I h2) fun v s1 ⟨y, H1, I1, r1, q1⟩ => ?_) hs
  exact store_ok I1 hN hi hx r1 (fun s2 I2 => ⟨_, H1, I2, q1⟩) hf
variable {st : Stmt} {sts : List Stmt}
theorem st_cons {f g : Sv} (h1 : PST X st (tS X.K Wx f)) (h2 : PSsT X sts (tS X.K Wx g)) : PSsT X (st :: sts) (tS X.K Wx (sSeq f g)) := fun pins s σ H D h0 I h => psst_cons h1 h2 pins s σ H D h0 I (by
  obtain ⟨b, R, ρ, e, m, q⟩ := h
  exact ⟨b, R, ρ, e, m, OkS.seq q⟩)
theorem st_of {f : Sv} (h : PSs X sts (tS X.K Wx f)) : PSsT X sts (tS X.K Wx f) := PSsT.of h
end
section
variable {P : Program} {w : World} {K : PySem.W.Frag} {mg : Str → Option Value} {base : Heap} {x qual : Str} {params : Arguments} {body : List Stmt} {scope : Scope} {dvs : List V} {kws : List (Str × V)} {f : Addr} {fd : FuncData}
/-- a def that wants a token -/
theorem fnDT_ok {N ps : List Str} {k m r : Nat} {fb : Sv} (F : FunD K x qual params body scope dvs kws f fd) (S : FnScope N ps scope) (hnc : ∀ y ∈ scope.names, y.2 ≠ .cell) (hps : 1 ≤ ps.length)
    (hb : ∀ (cdv : Value) (A : Around) (outer : List PySem.Env) (s : Shared) (H : Hp) (E : XK), Room k (A.deeper (PyProof.Rows.envOfC qual scope s.heap.objs.size f cdv)) →
      PSsT (cxOf (L2.CX P w) P w K mg base N qual scope f cdv A outer s H E) body (tS K (WofE E) fb)) : FnOk P w K mg base (L2.CX P w) (k + 1) f fd ps (spD K ps.length (mkF N.length m r fb)) := by
  obtain ⟨oc, od, dV, kV, doc, pm, an, cdv0, ct, osl, rfl, lk, hcd, _, _⟩ := F.ex
  refine fn_ofT (CX := L2.CX P w) lk hcd S hnc hps (fun vs H Q E h => h.1) (fun A outer s H vs Q E hr h => ⟨_, hb cdv0 A outer s H E hr, ?_⟩)
  obtain ⟨hl, R, ρ, ws, cs, sR, rs, hc, hn, hi, q⟩ := h
  refine ⟨_, R, ρ, env0 N.length m ws cs, Md.start sR rs hc hn hi, ?_⟩
  unfold mkF at q
  cases hf : fb (env0 N.length m ws cs) with
  | nx e =>
    simp only [hf] at q
    cases ht : takeC (max cs.length r) e.M with
    | none => simp only [ht] at q
    | some cs' =>
      simp only [ht] at q
      exact fun R' ρ' σ' H' s' m' => q R' ρ' .non H' (m'.back ht (Nat.le_max_left _ _)) .non
  | rt w e =>
    simp only [hf] at q
    cases ht : takeC (max cs.length r) e.M with
    | none => simp only [ht] at q
    | some cs' =>
      simp only [ht] at q
      exact fun R' ρ' σ' H' v s' m' rv => q R' ρ' v H' (m'.back ht (Nat.le_max_left _ _)) rv
  | exn x e =>
    simp only [hf] at q
    cases ht : takeC cs.length e.M with
    | none => simp only [ht] at q
    | some cs' =>
      simp only [ht] at q
      exact fun R' ρ' σ' H' cls d s' m' rx => q R' ρ' H' cls d (m'.back ht (Nat.le_refl _)) rx
  | bk e => simp only [hf] at q
  | ct e => simp only [hf] at q
  | fail => simp only [hf] at q
end
/-! evaluation -/
section
variable {f g h : Ev} {e : Env} {a b y z : Str} {kvs : List (Key × D)} {d u : D} {i : Int}
@[simp] theorem eDGet2_ev : eDGet2 f g h e = (match f e with | .ok w e1 => dgK0 g h w e1 | .exn x e1 => .exn x e1 | .fail => .fail) := by
  show (f e).bind (dgK0 g h) = _
  cases f e <;> rfl
@[simp] theorem dgK0_dic : dgK0 g h (.d (.dic kvs)) e = dgK h kvs (g e) := rfl
@[simp] theorem dgK_ok : dgK h kvs (.ok (.d d) e) = (match h e with | .ok z e1 => kGet2 kvs (.d d) z e1 | .exn x e1 => .exn x e1 | .fail => .fail) := by
  show (h e).bind (kGet2 kvs (.d d)) = _
  cases h e <;> rfl
@[simp] theorem kGet2_d : kGet2 kvs (.d d) (.d u) e = okO (get2D kvs d u) e := rfl
def fmK (a b : Str) (r : Rs W) : Rs W := r.bind (kFmt a b)
@[simp] theorem eFmt3_ev : eFmt3 a b f e = fmK a b (f e) := rfl
@[simp] theorem fmK_ok : fmK a b (.ok (.d d) e) = okO (fmtD a b d) e := rfl
@[simp] theorem fmK_exn {x : Xn} : fmK a b (.exn x e) = .exn x e := rfl
@[simp] theorem fmtD_str : fmtD a b (.str y) = if y.length ≤ sizeLine ∧ (a ++ y).length ≤ sizeLine ∧ (a ++ y ++ b).length ≤ sizeLine then some (.str (a ++ y ++ b)) else none := rfl
@[simp] theorem fmtD_int : fmtD a b (.int i) = if i.natAbs.log2 < 1920 ∧ (a ++ (toString i : Str)).length ≤ sizeLine ∧ (a ++ (toString i : Str) ++ b).length ≤ sizeLine then some (.str (a ++ (toString i : Str) ++ b)) else none := rfl
@[simp] theorem strI_int : strI (.int i) = if i.natAbs.log2 < 1920 then some (.str (toString i : Str)) else none := rfl
def rpK (y z : Str) (r : Rs W) : Rs W := r.bind (kRepl y z)
@[simp] theorem eRepl_ev : eRepl y z f e = rpK y z (f e) := rfl
@[simp] theorem rpK_ok : rpK y z (.ok (.d d) e) = okO (replD y z d) e := rfl
@[simp] theorem replD_str : replD y z (.str a) = if a.length + (a.length + 1) * z.length ≤ 16777216 then some (.str (Txt.replace a y z)) else none := rfl
end
end Dl
end
section
set_option Elab.async false
set_option linter.all false
set_option maxRecDepth 100000
set_option maxHeartbeats 8000000
namespace Tp
open PySem L2 Dl
@[simp] abbrev E_written_string (x_string x_text : Option W := none) (np : Nat := 0) : Dl.Env := ⟨[x_string, x_text], [], np⟩
noncomputable def fb_written_string (C : Cs) : Sv :=
  (sSeq (sSet 1 (eRepl "\n" "\\n" (eRepl "\"" "\\\"" (eRepl "\\" "\\\\" (eVar 0)))))
  (sRet (eFmt3 "\"" "\"" (eVar 1))))
noncomputable def F_written_string (C : Cs) : Fd := mkF 2 0 0 (fb_written_string C)
@[simp] abbrev E_write_question (x_question x_text x_axis x_test x_filters x_kind x_part : Option W := none) (np : Nat := 0) : Dl.Env := ⟨[x_question, x_text, x_axis, x_test, x_filters, x_kind, x_part], [], np⟩
noncomputable def fb_write_question_l2b (C : Cs) (F_write_question : Fd) : Sv := (sIf (bOp eqB (eVar 5) (eC (.str "place"))) (sAug 1 addIS (eFmt3 "[" "]" (eVar 6))) (sIf (bOp eqB (eVar 5) (eC (.str "has"))) (sAug 1 addIS (eFmt3 "[" "]" (eCall 1 F_write_question [] [] [] [(eVar 6)]))) (sAug 1 addIS (eFmt3 "[" "]" (eCall 1 (F_written_string C) [] [] [] [(eVar 6)])))))
noncomputable def fb_write_question_l2 (C : Cs) (F_write_question : Fd) : Sv := sFor (iL (eVar 4)) (tgTup [(tgName 5), (tgName 6)]) [5, 6] (fb_write_question_l2b C F_write_question)
noncomputable def fb_write_question_l1b (C : Cs) (F_write_question : Fd) : Sv := (sSeq (sAug 1 addIS (eOp addD (eIf (bOp eqB (eVar 2) (eC (.str "child"))) (eC (.str "/")) (eC (.str "//"))) (eVar 3)))
  (sSeq (fb_write_question_l2 C F_write_question) sNil))
noncomputable def fb_write_question_l1 (C : Cs) (F_write_question : Fd) : Sv := sFor (iL (eVar 0)) (tgTup [(tgName 2), (tgName 3), (tgName 4)]) [2, 3, 4, 5, 6] (fb_write_question_l1b C F_write_question)
noncomputable def fb_write_question (C : Cs) (F_write_question : Fd) : Sv :=
  (sSeq (sSet 1 (eC (.str "")))
  (sSeq (fb_write_question_l1 C F_write_question)
  (sRet (eVar 1))))
noncomputable def F_write_question (C : Cs) : Nat → Fd
  | 0 => fun _ _ => .fail
  | n + 1 => mkF 7 0 0 (fb_write_question C (F_write_question C n))
end Tp
end
section
set_option Elab.async false
set_option linter.all false
set_option maxRecDepth 100000
set_option maxHeartbeats 8000000
namespace Tp
open PySem L2 Dl
@[simp] abbrev E_law_mix (x_number x_k : Option W := none) (np : Nat := 0) : Dl.Env := ⟨[x_number, x_k], [], np⟩
noncomputable def fb_law_mix (C : Cs) : Sv :=
  (sRet (eOp modD (eOp mulD (eOp modD (eCB (k1 intOf) [(eOp mulD (eOp addD (eOp addD (eOp modD (eCB (k1 intOf) [(eVar 0)]) (eC (.int 1000003))) (eOp mulD (eC (.int 7919)) (eVar 1))) (eC (.int 1))) (eC (.int 48271)))]) (eC (.int 1000033))) (eC (.int 16807))) (eC (.int 998244353))))
noncomputable def F_law_mix (C : Cs) : Fd := mkF 2 0 0 (fb_law_mix C)
@[simp] abbrev E_law_numbers (x_script x_count_here x_row x_base x_cell x_rest x_k : Option W := none) (c0 : Option Cell := none) (np : Nat := 0) : Dl.Env := ⟨[x_script, x_count_here, x_row, x_base, x_cell, x_rest, x_k], [c0], np⟩
noncomputable def fb_law_numbers_l2b (C : Cs) : Sv := (sSeq (sExpr (eM isLst kAppend (eVar 2) [(eOp modD (eCB (k1 intOf) [(eVar 5)]) (eC (.int 840)))]))
  (sSeq (sSet 5 (eOp fdivD (eVar 5) (eC (.int 840))))
  (sIf (bOp eqB (eVar 5) (eC (.int 0))) (fun e => .bk e) sNil)))
noncomputable def fb_law_numbers_l2 (C : Cs) : Sv := sFor (iRg1 (eC (.int 60))) (tgName 6) [6] (fb_law_numbers_l2b C)
noncomputable def fb_law_numbers_l1b (C : Cs) : Sv := (sSeq (sSet 3 (eOp addD (eVar 3) (eVar 4)))
  (sIf (bOp geB (eVar 4) (eC (.int 1000000000000000000))) (sSeq (sSet 5 (eVar 4))
  (sSeq (fb_law_numbers_l2 C) sNil)) (sExpr (eM isLst kAppend (eVar 2) [(eCall 2 (F_law_mix C) [] [] [] [(eCall 2 (F_law_mix C) [] [] [] [(eVar 4), (eC (.int 3))]), (eC (.int 5))])]))))
noncomputable def fb_law_numbers_l1 (C : Cs) : Sv := sFor (iL (eSl (eVar 0) oNone (oSome (eC (.int 63))))) (tgName 4) [4, 5, 6] (fb_law_numbers_l1b C)
noncomputable def fb_law_numbers_l3b (C : Cs) : Sv := (sExpr (eM isLst kAppend (eVar 2) [(eCall 2 (F_law_mix C) [] [] [] [(eCall 2 (F_law_mix C) [] [] [] [(eOp addD (eVar 3) (eOp mulD (eC (.int 31)) (eVar 6))), (eOp addD (eC (.int 11)) (eVar 6))]), (eC (.int 17))])]))
noncomputable def fb_law_numbers_l3 (C : Cs) : Sv := sFor (iRg1 (eVar 1)) (tgName 6) [6] (fb_law_numbers_l3b C)
noncomputable def fb_law_numbers (C : Cs) : Sv :=
  (sSeq (sSet 2 (eCB (kDisp (some 0)) []))
  (sSeq (sSet 3 (eC (.int 0)))
  (sSeq (fb_law_numbers_l1 C)
  (sSeq (fb_law_numbers_l3 C)
  (sSeq (sExpr (eM isLst kReverse (eVar 2) []))
  (sRet (eVar 2)))))))
noncomputable def F_law_numbers (C : Cs) : Fd := mkF 7 1 1 (fb_law_numbers C)
@[simp] abbrev E_law_take_k35 (x_row x_bound : Option W := none) (c0 : Option Cell := none) (np : Nat := 1) : Dl.Env := ⟨[x_row, x_bound], [c0], np⟩
noncomputable def fb_law_take_k35 (C : Cs) : Sv :=
  (sSeq (sIf (bNot (bTru (eVar 0))) (sRet (eC (.int 0))) sNil)
  (sRet (eOp modD (eCB (k1 intOf) [(eM isLst kPop (eVar 0) [])]) (eVar 1))))
noncomputable def F_law_take_k35 (C : Cs) : Fd := mkF 2 1 1 (fb_law_take_k35 C)
end Tp
end
section
set_option Elab.async false
set_option linter.all false
set_option maxRecDepth 100000
set_option maxHeartbeats 8000000
namespace Tp
open PySem L2 Dl
@[simp] abbrev E_law_filter (x_row x_axis x_depth x_choice : Option W := none) (c0 : Option Cell := none) (np : Nat := 1) : Dl.Env := ⟨[x_row, x_axis, x_depth, x_choice], [c0], np⟩
noncomputable def fb_law_filter (C : Cs) (F_law_question : Fd) : Sv :=
  (sSeq (sSet 3 (eCall 2 (F_law_take_k35 C) [0] [] [] [(eVar 0), (eC (.int 3))]))
  (sSeq (sIf (bAnd (bOp eqB (eVar 3) (eC (.int 0))) (bOp eqB (eVar 1) (eC (.str "child")))) (sRet (eCB kTup [(eC (.str "place")), (eOp addD (eC (.int 1)) (eCall 2 (F_law_take_k35 C) [0] [] [] [(eVar 0), (eC (.int 3))]))])) sNil)
  (sSeq (sIf (bAnd (bOp eqB (eVar 3) (eC (.int 1))) (bOp gtB (eVar 2) (eC (.int 0)))) (sRet (eCB kTup [(eC (.str "has")), (eCall 2 F_law_question [0] [] [] [(eVar 0), (eOp subD (eVar 2) (eC (.int 1)))])])) sNil)
  (sRet (eCB kTup [(eC (.str "holds")), (eIx (eCB (kDisp none) [(eC (.str "x")), (eC (.str "y")), (eC (.str "zx")), (eC (.str "xy"))]) (eCall 2 (F_law_take_k35 C) [0] [] [] [(eVar 0), (eC (.int 4))]))])))))
noncomputable def F_law_filter (C : Cs) (F_law_question : Fd) : Fd := mkF 4 1 1 (fb_law_filter C F_law_question)
@[simp] abbrev E_law_step (x_row x_depth x_axis x_test x_filters x_k : Option W := none) (c0 c1 : Option Cell := none) (np : Nat := 1) : Dl.Env := ⟨[x_row, x_depth, x_axis, x_test, x_filters, x_k], [c0, c1], np⟩
noncomputable def fb_law_step_c1 (C : Cs) (F_law_question : Fd) : Ev := eLc (iRg1 (eCall 2 (F_law_take_k35 C) [0] [] [] [(eVar 0), (eC (.int 3))])) (tgName 5) (fun e => .ok true e) (eCall 3 (F_law_filter C F_law_question) [0] [] [] [(eVar 0), (eVar 2), (eVar 1)]) 1 false [5]
noncomputable def fb_law_step (C : Cs) (F_law_question : Fd) : Sv :=
  (sSeq (sSet 2 (eIx (eCB (kDisp none) [(eC (.str "child")), (eC (.str "below"))]) (eCall 2 (F_law_take_k35 C) [0] [] [] [(eVar 0), (eC (.int 2))])))
  (sSeq (sSet 3 (eIx (eCB (kDisp none) [(eC (.str "a")), (eC (.str "b")), (eC (.str "c")), (eC (.str "*")), (eC (.str "*")), (eC (.str "#"))]) (eCall 2 (F_law_take_k35 C) [0] [] [] [(eVar 0), (eC (.int 6))])))
  (sSeq (sSet 4 (fb_law_step_c1 C F_law_question))
  (sRet (eCB kTup [(eVar 2), (eVar 3), (eVar 4)])))))
noncomputable def F_law_step (C : Cs) (F_law_question : Fd) : Fd := mkF 6 2 1 (fb_law_step C F_law_question)
@[simp] abbrev E_law_question (x_row x_depth x_k : Option W := none) (c0 c1 : Option Cell := none) (np : Nat := 1) : Dl.Env := ⟨[x_row, x_depth, x_k], [c0, c1], np⟩
noncomputable def fb_law_question_c1 (C : Cs) (F_law_question : Fd) : Ev := eLc (iRg1 (eOp addD (eC (.int 1)) (eCall 2 (F_law_take_k35 C) [0] [] [] [(eVar 0), (eC (.int 3))]))) (tgName 2) (fun e => .ok true e) (eCall 2 (F_law_step C F_law_question) [0] [] [] [(eVar 0), (eVar 1)]) 1 false [2]
noncomputable def fb_law_question (C : Cs) (F_law_question : Fd) : Sv :=
  (sRet (fb_law_question_c1 C F_law_question))
noncomputable def F_law_question (C : Cs) : Nat → Fd
  | 0 => fun _ _ => .fail
  | n + 1 => mkF 3 2 1 (fb_law_question C (F_law_question C n))
@[simp] abbrev E_law_count (x_question_here x_count_here x_axis x_test x_filters x_one : Option W := none) (np : Nat := 0) : Dl.Env := ⟨[x_question_here, x_count_here, x_axis, x_test, x_filters, x_one], [], np⟩
noncomputable def fb_law_count_l2b (C : Cs) (F_law_count : Fd) : Sv := (sIf (bOp eqB (eIx (eVar 5) (eC (.int 0))) (eC (.str "has"))) (sSet 1 (eOp addD (eVar 1) (eCall 1 F_law_count [] [] [] [(eIx (eVar 5) (eC (.int 1)))]))) sNil)
noncomputable def fb_law_count_l2 (C : Cs) (F_law_count : Fd) : Sv := sFor (iL (eVar 4)) (tgName 5) [5] (fb_law_count_l2b C F_law_count)
noncomputable def fb_law_count_l1b (C : Cs) (F_law_count : Fd) : Sv := (sSeq (fb_law_count_l2 C F_law_count) sNil)
noncomputable def fb_law_count_l1 (C : Cs) (F_law_count : Fd) : Sv := sFor (iL (eVar 0)) (tgTup [(tgName 2), (tgName 3), (tgName 4)]) [2, 3, 4, 5] (fb_law_count_l1b C F_law_count)
noncomputable def fb_law_count (C : Cs) (F_law_count : Fd) : Sv :=
  (sSeq (sSet 1 (eCB kLen [(eVar 0)]))
  (sSeq (fb_law_count_l1 C F_law_count)
  (sRet (eVar 1))))
noncomputable def F_law_count (C : Cs) : Nat → Fd
  | 0 => fun _ _ => .fail
  | n + 1 => mkF 6 0 0 (fb_law_count C (F_law_count C n))
@[simp] abbrev E_law_string_k35 (x_row x_text x_k : Option W := none) (c0 : Option Cell := none) (np : Nat := 1) : Dl.Env := ⟨[x_row, x_text, x_k], [c0], np⟩
noncomputable def fb_law_string_k35_l1b (C : Cs) : Sv := (sSet 1 (eOp addD (eVar 1) (eIx (eCB (kDisp none) [(eC (.str "a")), (eC (.str "\"")), (eC (.str "\\")), (eC (.str "\n")), (eC (.str " ")), (eC (.str "~")), (eC (.str "]")), (eC (.str "/"))]) (eCall 2 (F_law_take_k35 C) [0] [] [] [(eVar 0), (eC (.int 8))]))))
noncomputable def fb_law_string_k35_l1 (C : Cs) : Sv := sFor (iRg1 (eOp addD (eC (.int 1)) (eCall 2 (F_law_take_k35 C) [0] [] [] [(eVar 0), (eC (.int 5))]))) (tgName 2) [2] (fb_law_string_k35_l1b C)
noncomputable def fb_law_string_k35 (C : Cs) : Sv :=
  (sSeq (sSet 1 (eC (.str "")))
  (sSeq (fb_law_string_k35_l1 C)
  (sRet (eVar 1))))
noncomputable def F_law_string_k35 (C : Cs) : Fd := mkF 3 1 1 (fb_law_string_k35 C)
@[simp] abbrev E_law_dressed (x_row x_question_here x_found x_axis x_test x_filters x_later x_kind x_part : Option W := none) (c0 c1 c2 : Option Cell := none) (np : Nat := 1) : Dl.Env := ⟨[x_row, x_question_here, x_found, x_axis, x_test, x_filters, x_later, x_kind, x_part], [c0, c1, c2], np⟩
noncomputable def fb_law_dressed_l2b (C : Cs) (F_law_dressed : Fd) : Sv := (sSeq (sIf (bAnd (bOp eqB (eVar 7) (eC (.str "holds"))) (bOp eqB (eCall 2 (F_law_take_k35 C) [0] [] [] [(eVar 0), (eC (.int 2))]) (eC (.int 0)))) (sSet 8 (eCall 1 (F_law_string_k35 C) [0] [] [] [(eVar 0)])) sNil)
  (sSeq (sIf (bAnd (bOp eqB (eVar 7) (eC (.str "place"))) (bOp eqB (eCall 2 (F_law_take_k35 C) [0] [] [] [(eVar 0), (eC (.int 3))]) (eC (.int 0)))) (sSet 8 (eIx (eCB (kDisp none) [(eC (.int 10)), (eC (.int 4999)), (eC (.int 5000)), (eC (.int 909))]) (eCall 2 (F_law_take_k35 C) [0] [] [] [(eVar 0), (eC (.int 4))]))) sNil)
  (sSeq (sIf (bOp eqB (eVar 7) (eC (.str "has"))) (sSet 8 (eCall 2 F_law_dressed [0] [] [] [(eVar 0), (eVar 8)])) sNil)
  (sExpr (eM isLst kAppend (eVar 6) [(eCB kTup [(eVar 7), (eVar 8)])])))))
noncomputable def fb_law_dressed_l2 (C : Cs) (F_law_dressed : Fd) : Sv := sFor (iL (eVar 5)) (tgTup [(tgName 7), (tgName 8)]) [7, 8] (fb_law_dressed_l2b C F_law_dressed)
noncomputable def fb_law_dressed_l1b (C : Cs) (F_law_dressed : Fd) : Sv := (sSeq (sSet 6 (eCB (kDisp (some 2)) []))
  (sSeq (sThen 2 (fb_law_dressed_l2 C F_law_dressed))
  (sExpr (eM isLst kAppend (eVar 2) [(eCB kTup [(eVar 3), (eVar 4), (eVar 6)])]))))
noncomputable def fb_law_dressed_l1 (C : Cs) (F_law_dressed : Fd) : Sv := sFor (iL (eVar 1)) (tgTup [(tgName 3), (tgName 4), (tgName 5)]) [3, 4, 5, 6, 7, 8] (fb_law_dressed_l1b C F_law_dressed)
noncomputable def fb_law_dressed (C : Cs) (F_law_dressed : Fd) : Sv :=
  (sSeq (sSet 2 (eCB (kDisp (some 1)) []))
  (sSeq (sThen 1 (fb_law_dressed_l1 C F_law_dressed))
  (sRet (eVar 2))))
noncomputable def F_law_dressed (C : Cs) : Nat → Fd
  | 0 => fun _ _ => .fail
  | n + 1 => mkF 9 3 1 (fb_law_dressed C (F_law_dressed C n))
@[simp] abbrev E_law_quoted (x_string_here x_text x_sign : Option W := none) (np : Nat := 0) : Dl.Env := ⟨[x_string_here, x_text, x_sign], [], np⟩
noncomputable def fb_law_quoted_l1b (C : Cs) : Sv := (sSet 1 (eOp addD (eVar 1) (eDGet2 (eDicC none [(Sum.inr "\"", (.str "\\\"" : D)), (Sum.inr "\\", (.str "\\\\" : D)), (Sum.inr "\n", (.str "\\n" : D))]) (eVar 2) (eVar 2))))
noncomputable def fb_law_quoted_l1 (C : Cs) : Sv := sFor (iS (eVar 0)) (tgName 2) [2] (fb_law_quoted_l1b C)
noncomputable def fb_law_quoted (C : Cs) : Sv :=
  (sSeq (sSet 1 (eC (.str "")))
  (sSeq (fb_law_quoted_l1 C)
  (sRet (eOp addD (eOp addD (eC (.str "\"")) (eVar 1)) (eC (.str "\""))))))
noncomputable def F_law_quoted (C : Cs) : Fd := mkF 3 0 0 (fb_law_quoted C)
@[simp] abbrev E_law_written_k35 (x_question_here x_text x_axis x_test x_filters x_kind x_part : Option W := none) (np : Nat := 0) : Dl.Env := ⟨[x_question_here, x_text, x_axis, x_test, x_filters, x_kind, x_part], [], np⟩
noncomputable def fb_law_written_k35_l2b (C : Cs) (F_law_written_k35 : Fd) : Sv := (sIf (bOp eqB (eVar 5) (eC (.str "has"))) (sSet 1 (eOp addD (eOp addD (eOp addD (eVar 1) (eC (.str "["))) (eCall 1 F_law_written_k35 [] [] [] [(eVar 6)])) (eC (.str "]")))) (sIf (bOp eqB (eVar 5) (eC (.str "place"))) (sSet 1 (eOp addD (eOp addD (eOp addD (eVar 1) (eC (.str "["))) (eCB (k1 strI) [(eVar 6)])) (eC (.str "]")))) (sSet 1 (eOp addD (eOp addD (eOp addD (eVar 1) (eC (.str "["))) (eCall 1 (F_law_quoted C) [] [] [] [(eVar 6)])) (eC (.str "]"))))))
noncomputable def fb_law_written_k35_l2 (C : Cs) (F_law_written_k35 : Fd) : Sv := sFor (iL (eVar 4)) (tgTup [(tgName 5), (tgName 6)]) [5, 6] (fb_law_written_k35_l2b C F_law_written_k35)
noncomputable def fb_law_written_k35_l1b (C : Cs) (F_law_written_k35 : Fd) : Sv := (sSeq (sSet 1 (eOp addD (eOp addD (eVar 1) (eIx (eCB (kDisp none) [(eC (.str "/")), (eC (.str "//"))]) (eCB (k1 intOf) [(eOp (blG eqB) (eVar 2) (eC (.str "below")))]))) (eVar 3)))
  (sSeq (fb_law_written_k35_l2 C F_law_written_k35) sNil))
noncomputable def fb_law_written_k35_l1 (C : Cs) (F_law_written_k35 : Fd) : Sv := sFor (iL (eVar 0)) (tgTup [(tgName 2), (tgName 3), (tgName 4)]) [2, 3, 4, 5, 6] (fb_law_written_k35_l1b C F_law_written_k35)
noncomputable def fb_law_written_k35 (C : Cs) (F_law_written_k35 : Fd) : Sv :=
  (sSeq (sSet 1 (eC (.str "")))
  (sSeq (fb_law_written_k35_l1 C F_law_written_k35)
  (sRet (eVar 1))))
noncomputable def F_law_written_k35 (C : Cs) : Nat → Fd
  | 0 => fun _ _ => .fail
  | n + 1 => mkF 7 0 0 (fb_law_written_k35 C (F_law_written_k35 C n))
@[simp] abbrev E_law_improper (x_row x_question_here x_bad x_k : Option W := none) (c0 : Option Cell := none) (np : Nat := 1) : Dl.Env := ⟨[x_row, x_question_here, x_bad, x_k], [c0], np⟩
noncomputable def fb_law_improper (C : Cs) : Sv :=
  (sSeq (sSet 2 (eCB (kDisp none) [(eCB kTup [(eC (.str "above")), (eC (.str "a")), (eCB (kDisp none) [])]), (eCB kTup [(eC (.str "child")), (eC (.str "A")), (eCB (kDisp none) [])]), (eCB kTup [(eC (.str "child")), (eC (.str "")), (eCB (kDisp none) [])]), (eCB kTup [(eC (.str "child")), (eC (.str "a")), (eCB (kDisp none) [(eCB kTup [(eC (.str "place")), (eC (.int 0))])])])]))
  (sSeq (sSet 2 (eOp addD (eVar 2) (eCB (kDisp none) [(eCB kTup [(eC (.str "child")), (eC (.str "a")), (eCB (kDisp none) [(eCB kTup [(eC (.str "place")), (eC (.int 5001))])])]), (eCB kTup [(eC (.str "below")), (eC (.str "a")), (eCB (kDisp none) [(eCB kTup [(eC (.str "place")), (eC (.int 1))])])]), (eCB kTup [(eC (.str "child")), (eC (.str "a")), (eCB (kDisp none) [(eCB kTup [(eC (.str "holds")), (eC (.str ""))])])])])))
  (sSeq (sSet 2 (eOp addD (eVar 2) (eCB (kDisp none) [(eCB kTup [(eC (.str "child")), (eC (.str "a")), (eCB (kDisp none) [(eCB kTup [(eC (.str "holds")), (eOp mulSD (eC (.str "x")) (eC (.int 41)))])])]), (eCB kTup [(eC (.str "child")), (eC (.str "a")), (eCB (kDisp none) [(eCB kTup [(eC (.str "holds")), (eC (.str "\t"))])])]), (eCB kTup [(eC (.str "child")), (eC (.str "a")), (eCB (kDisp none) [(eCB kTup [(eC (.str "near")), (eC (.str "a"))])])])])))
  (sSeq (sSet 2 (eOp addD (eVar 2) (eCB (kDisp none) [(eCB kTup [(eC (.str "child")), (eC (.str "a")), (eCB (kDisp none) [(eCB kTup [(eC (.str "has")), (eCB (kDisp none) [])])])]), (eCB kTup [(eC (.str "child")), (eC (.str "abcdefghijklm")), (eCB (kDisp none) [])]), (eCB kTup [(eC (.str "child")), (eC (.str "**")), (eCB (kDisp none) [])])])))
  (sSeq (sSet 3 (eCall 2 (F_law_take_k35 C) [0] [] [] [(eVar 0), (eOp addD (eCB kLen [(eVar 1)]) (eC (.int 1)))]))
  (sRet (eOp addD (eOp addD (eSl (eVar 1) oNone (oSome (eVar 3))) (eCB (kDisp none) [(eIx (eVar 2) (eCall 2 (F_law_take_k35 C) [0] [] [] [(eVar 0), (eC (.int 13))]))])) (eSl (eVar 1) (oSome (eVar 3)) oNone))))))))
noncomputable def F_law_improper (C : Cs) : Fd := mkF 4 1 1 (fb_law_improper C)
end Tp
end
section
set_option Elab.async false
set_option linter.all false
set_option maxRecDepth 100000
set_option maxHeartbeats 4000000
namespace Dl
open PySem L2
/-! x is True, x is not False -/
def isBB : D → D → Option Bool
  | .bl a, .bl b => some (decide (a = b))
  | _, _ => none
def notBB : D → D → Option Bool
  | .bl a, .bl b => some (!decide (a = b))
  | _, _ => none
section
variable {K : PySem.W.Frag}
theorem isBB_ok : OpB K isBB rIsB := fun x y z v u R H Q hg r1 r2 s q => by
  unfold isBB at hg
  split at hg
  · cases hg; cases r1; cases r2; exact ⟨_, _, rfl, rfl, q⟩
  · cases hg
theorem notBB_ok : OpB K notBB rNotB := fun x y z v u R H Q hg r1 r2 s q => by
  unfold notBB at hg
  split at hg
  · cases hg; cases r1; cases r2; exact ⟨_, _, rfl, rfl, q⟩
  · cases hg
end
@[simp] theorem isBB_ev {a b : Bool} : isBB (.bl a) (.bl b) = some (decide (a = b)) := rfl
@[simp] theorem notBB_ev {a b : Bool} : notBB (.bl a) (.bl b) = some (!decide (a = b)) := rfl
end Dl
end
section
set_option Elab.async false
set_option linter.all false
set_option maxRecDepth 100000
set_option maxHeartbeats 8000000
namespace Tp
open PySem L2 Dl
@[simp] abbrev E_law_told_k35 (x_text x_error : Option W := none) (np : Nat := 0) : Dl.Env := ⟨[x_text, x_error], [], np⟩
noncomputable def fb_law_told_k35 (C : Cs) : Sv :=
  (sTryM [(C.InvalidQuestion, some 1, (kTupF (kCons (kC (.str "error")) (kCons (kFld "column") (kCons (kFld "reason") kNil))))), (C.TopiaryError, none, (kC .non))] (sRet (eCall 1 (F_read_question C) [] [] [] [(eVar 0)])))
noncomputable def F_law_told_k35 (C : Cs) : Fd := mkF 2 0 0 (fb_law_told_k35 C)
@[simp] abbrev E_law_k35 (x_script x_row x_question_here x_text x_deep x_turn x_k x_sign x_told_here : Option W := none) (c0 : Option Cell := none) (np : Nat := 0) : Dl.Env := ⟨[x_script, x_row, x_question_here, x_text, x_deep, x_turn, x_k, x_sign, x_told_here], [c0], np⟩
noncomputable def fb_law_k35_l1b (C : Cs) : Sv := (sSeq (sSet 6 (eCall 2 (F_law_take_k35 C) [0] [] [] [(eVar 1), (eOp addD (eCB kLen [(eVar 3)]) (eC (.int 1)))]))
  (sSeq (sSet 7 (eIx (eCB (kDisp none) [(eC (.str "/")), (eC (.str "[")), (eC (.str "]")), (eC (.str "\"")), (eC (.str "\\")), (eC (.str "a")), (eC (.str "*")), (eC (.str "#")), (eC (.str "3")), (eC (.str "0")), (eC (.str "n")), (eC (.str " "))]) (eCall 2 (F_law_take_k35 C) [0] [] [] [(eVar 1), (eC (.int 12))])))
  (sSeq (sSet 3 (eIx (eCB (kDisp none) [(eOp addD (eOp addD (eSl (eVar 3) oNone (oSome (eVar 6))) (eVar 7)) (eSl (eVar 3) (oSome (eVar 6)) oNone)), (eOp addD (eSl (eVar 3) oNone (oSome (eVar 6))) (eSl (eVar 3) (oSome (eOp addD (eVar 6) (eC (.int 1)))) oNone)), (eOp addD (eOp addD (eSl (eVar 3) oNone (oSome (eVar 6))) (eVar 7)) (eSl (eVar 3) (oSome (eOp addD (eVar 6) (eC (.int 1)))) oNone))]) (eCall 2 (F_law_take_k35 C) [0] [] [] [(eVar 1), (eC (.int 3))])))
  (sSeq (sSet 8 (eCall 1 (F_law_told_k35 C) [] [] [] [(eVar 3)]))
  (sSeq (sIf (bOp isNB (eVar 8) (eC .non)) (sRet (eC (.bl false))) sNil)
  (sIf (bTru (eIsi "list" (eVar 8))) (sIf (bOr (bOp notBB (eCall 1 (F_is_proper C) [] [] [] [(eVar 8)]) (eC (.bl true))) (bOp neB (eCall 1 (F_write_question C 5) [] [] [] [(eVar 8)]) (eVar 3))) (sRet (eC (.bl false))) sNil) (sIf (bOr (bNot (bChain leB leB (eC (.int 1)) (eIx (eVar 8) (eC (.int 1))) (eOp addD (eCB kLen [(eVar 3)]) (eC (.int 1))))) (bNot (bTru (eIsi "str" (eIx (eVar 8) (eC (.int 2))))))) (sRet (eC (.bl false))) sNil)))))))
noncomputable def fb_law_k35_l1 (C : Cs) : Sv := sFor (iRg1 (eC (.int 4))) (tgName 5) [5, 6, 7, 8] (fb_law_k35_l1b C)
noncomputable def fb_law_k35_t1 (C : Cs) : Sv := (sSeq (sThen 0 (fb_law_k35_l1 C))
  (sRet (eC (.bl true))))
noncomputable def fb_law_k35_t2 (C : Cs) : Sv := (sSeq (sSet 4 (eCB (kDisp none) [(eCB kTup [(eC (.str "child")), (eC (.str "a")), (eCB (kDisp none) [(eCB kTup [(eC (.str "has")), (eCB (kDisp none) [(eCB kTup [(eC (.str "child")), (eC (.str "a")), (eCB (kDisp none) [(eCB kTup [(eC (.str "has")), (eCB (kDisp none) [(eCB kTup [(eC (.str "child")), (eC (.str "a")), (eCB (kDisp none) [(eCB kTup [(eC (.str "has")), (eCB (kDisp none) [(eCB kTup [(eC (.str "child")), (eC (.str "a")), (eCB (kDisp none) [])])])])])])])])])])])])])])]))
  (sSeq (sIf (bOr (bOp notBB (eCall 1 (F_is_proper C) [] [] [] [(eCall 2 (F_law_improper C) [0] [] [] [(eVar 1), (eVar 2)])]) (eC (.bl false))) (bOr (bOp notBB (eCall 1 (F_is_proper C) [] [] [] [(eVar 4)]) (eC (.bl false))) (bOp notBB (eCall 1 (F_is_proper C) [] [] [] [(eCB (kDisp none) [])]) (eC (.bl false))))) (sRet (eC (.bl false))) sNil)
  (fb_law_k35_t1 C)))
noncomputable def fb_law_k35_t3 (C : Cs) : Sv := (sSeq (sSet 3 (eCall 1 (F_law_written_k35 C 5) [] [] [] [(eVar 2)]))
  (sSeq (sIf (bOr (bOp notBB (eCall 1 (F_is_proper C) [] [] [] [(eVar 2)]) (eC (.bl true))) (bOr (bOp neB (eCall 1 (F_write_question C 5) [] [] [] [(eVar 2)]) (eVar 3)) (bOp neB (eCall 1 (F_read_question C) [] [] [] [(eVar 3)]) (eVar 2)))) (sRet (eC (.bl false))) sNil)
  (fb_law_k35_t2 C)))
noncomputable def fb_law_k35 (C : Cs) : Sv :=
  (sSeq (sSet 1 (eCall 2 (F_law_numbers C) [] [0] [] [(eVar 0), (eC (.int 130))]))
  (sSeq (sSet 2 (eCall 2 (F_law_dressed C 5) [0] [] [] [(eVar 1), (eCall 2 (F_law_question C 4) [0] [] [] [(eVar 1), (eC (.int 2))])]))
  (sSeq (sIf (bOp gtB (eCall 1 (F_law_count C 5) [] [] [] [(eVar 2)]) (eC (.int 12))) (sRet (eOp (blG isBB) (eCall 1 (F_is_proper C) [] [] [] [(eVar 2)]) (eC (.bl false)))) sNil)
  (fb_law_k35_t3 C))))
noncomputable def F_law_k35 (C : Cs) : Fd := mkF 9 1 0 (fb_law_k35 C)
end Tp
end
section
set_option Elab.async false
set_option linter.all false
set_option maxRecDepth 100000
set_option maxHeartbeats 8000000
namespace Wk
open PySem L2 Dl Tp
def top (i : Nat) : Stmt := PySem.Challenge.pw_topiary_k35_questions_as_texts.main.body.getD i (.Pass ⟨0, 0, 0, 0⟩)
abbrev s_InvalidQuestion_init : Stmt := inClass (top 2) 0
abbrev N_InvalidQuestion_init : List Str := ["self", "column", "reason"]
theorem sc_InvalidQuestion_init : FnScope N_InvalidQuestion_init ["self", "column", "reason"] (defScope s_InvalidQuestion_init) := ⟨rfl, rfl, rfl, by decide +kernel, rfl, by decide +kernel, by decide +kernel⟩
abbrev s_is_sign : Stmt := top 10
abbrev N_is_sign : List Str := ["sign"]
theorem sc_is_sign : FnScope N_is_sign ["sign"] (defScope s_is_sign) := ⟨rfl, rfl, rfl, by decide +kernel, rfl, by decide +kernel, by decide +kernel⟩
abbrev s_QuestionReader_init : Stmt := inClass (top 18) 0
abbrev N_QuestionReader_init : List Str := ["self", "text"]
theorem sc_QuestionReader_init : FnScope N_QuestionReader_init ["self", "text"] (defScope s_QuestionReader_init) := ⟨rfl, rfl, rfl, by decide +kernel, rfl, by decide +kernel, by decide +kernel⟩
abbrev s_QuestionReader_fail : Stmt := inClass (top 18) 1
abbrev N_QuestionReader_fail : List Str := ["self", "place", "reason"]
theorem sc_QuestionReader_fail : FnScope N_QuestionReader_fail ["self", "place", "reason"] (defScope s_QuestionReader_fail) := ⟨rfl, rfl, rfl, by decide +kernel, rfl, by decide +kernel, by decide +kernel⟩
abbrev s_QuestionReader_sign : Stmt := inClass (top 18) 2
abbrev N_QuestionReader_sign : List Str := ["self"]
theorem sc_QuestionReader_sign : FnScope N_QuestionReader_sign ["self"] (defScope s_QuestionReader_sign) := ⟨rfl, rfl, rfl, by decide +kernel, rfl, by decide +kernel, by decide +kernel⟩
abbrev s_QuestionReader_test : Stmt := inClass (top 18) 5
abbrev N_QuestionReader_test : List Str := ["self", "start"]
theorem sc_QuestionReader_test : FnScope N_QuestionReader_test ["self"] (defScope s_QuestionReader_test) := ⟨rfl, rfl, rfl, by decide +kernel, rfl, by decide +kernel, by decide +kernel⟩
abbrev s_QuestionReader_one_sign : Stmt := inClass (top 18) 8
abbrev N_QuestionReader_one_sign : List Str := ["self", "start", "sign"]
theorem sc_QuestionReader_one_sign : FnScope N_QuestionReader_one_sign ["self", "start"] (defScope s_QuestionReader_one_sign) := ⟨rfl, rfl, rfl, by decide +kernel, rfl, by decide +kernel, by decide +kernel⟩
abbrev s_QuestionReader_string : Stmt := inClass (top 18) 7
abbrev N_QuestionReader_string : List Str := ["self", "start", "found"]
theorem sc_QuestionReader_string : FnScope N_QuestionReader_string ["self"] (defScope s_QuestionReader_string) := ⟨rfl, rfl, rfl, by decide +kernel, rfl, by decide +kernel, by decide +kernel⟩
abbrev s_QuestionReader_filter : Stmt := inClass (top 18) 6
abbrev N_QuestionReader_filter : List Str := ["self", "axis", "depth", "sign", "start", "digits"]
theorem sc_QuestionReader_filter : FnScope N_QuestionReader_filter ["self", "axis", "depth"] (defScope s_QuestionReader_filter) := ⟨rfl, rfl, rfl, by decide +kernel, rfl, by decide +kernel, by decide +kernel⟩
abbrev s_QuestionReader_step : Stmt := inClass (top 18) 4
abbrev N_QuestionReader_step : List Str := ["self", "depth", "axis", "test", "filters"]
theorem sc_QuestionReader_step : FnScope N_QuestionReader_step ["self", "depth"] (defScope s_QuestionReader_step) := ⟨rfl, rfl, rfl, by decide +kernel, rfl, by decide +kernel, by decide +kernel⟩
abbrev s_QuestionReader_question : Stmt := inClass (top 18) 3
abbrev N_QuestionReader_question : List Str := ["self", "depth", "found"]
theorem sc_QuestionReader_question : FnScope N_QuestionReader_question ["self", "depth"] (defScope s_QuestionReader_question) := ⟨rfl, rfl, rfl, by decide +kernel, rfl, by decide +kernel, by decide +kernel⟩
abbrev s_read_question : Stmt := top 19
abbrev N_read_question : List Str := ["text", "reader", "question"]
theorem sc_read_question : FnScope N_read_question ["text"] (defScope s_read_question) := ⟨rfl, rfl, rfl, by decide +kernel, rfl, by decide +kernel, by decide +kernel⟩
abbrev s_is_name_questions : Stmt := top 11
abbrev N_is_name_questions : List Str := ["text", "letter"]
theorem sc_is_name_questions : FnScope N_is_name_questions ["text"] (defScope s_is_name_questions) := ⟨rfl, rfl, rfl, by decide +kernel, rfl, by decide +kernel, by decide +kernel⟩
abbrev s_step_count : Stmt := top 12
abbrev N_step_count : List Str := ["question", "count", "axis", "test", "filters", "row"]
theorem sc_step_count : FnScope N_step_count ["question"] (defScope s_step_count) := ⟨rfl, rfl, rfl, by decide +kernel, rfl, by decide +kernel, by decide +kernel⟩
abbrev s_is_filter : Stmt := top 13
abbrev N_is_filter : List Str := ["row", "axis", "depth", "sign"]
theorem sc_is_filter : FnScope N_is_filter ["row", "axis", "depth"] (defScope s_is_filter) := ⟨rfl, rfl, rfl, by decide +kernel, rfl, by decide +kernel, by decide +kernel⟩
abbrev s_has_form : Stmt := top 14
abbrev N_has_form : List Str := ["question", "depth", "axis", "test", "filters", "row"]
theorem sc_has_form : FnScope N_has_form ["question", "depth"] (defScope s_has_form) := ⟨rfl, rfl, rfl, by decide +kernel, rfl, by decide +kernel, by decide +kernel⟩
abbrev s_is_proper : Stmt := top 15
abbrev N_is_proper : List Str := ["question"]
theorem sc_is_proper : FnScope N_is_proper ["question"] (defScope s_is_proper) := ⟨rfl, rfl, rfl, by decide +kernel, rfl, by decide +kernel, by decide +kernel⟩
abbrev s_written_string : Stmt := top 16
abbrev N_written_string : List Str := ["string", "text"]
theorem sc_written_string : FnScope N_written_string ["string"] (defScope s_written_string) := ⟨rfl, rfl, rfl, by decide +kernel, rfl, by decide +kernel, by decide +kernel⟩
abbrev s_write_question : Stmt := top 17
abbrev N_write_question : List Str := ["question", "text", "axis", "test", "filters", "kind", "part"]
theorem sc_write_question : FnScope N_write_question ["question"] (defScope s_write_question) := ⟨rfl, rfl, rfl, by decide +kernel, rfl, by decide +kernel, by decide +kernel⟩
abbrev s_law_mix : Stmt := top 21
abbrev N_law_mix : List Str := ["_law_number", "_law_k"]
theorem sc_law_mix : FnScope N_law_mix ["_law_number", "_law_k"] (defScope s_law_mix) := ⟨rfl, rfl, rfl, by decide +kernel, rfl, by decide +kernel, by decide +kernel⟩
abbrev s_law_numbers : Stmt := top 22
abbrev N_law_numbers : List Str := ["_law_script", "_law_count_here", "_law_row", "_law_base", "_law_cell", "_law_rest", "_law_k"]
theorem sc_law_numbers : FnScope N_law_numbers ["_law_script", "_law_count_here"] (defScope s_law_numbers) := ⟨rfl, rfl, rfl, by decide +kernel, rfl, by decide +kernel, by decide +kernel⟩
abbrev s_law_take_k35 : Stmt := top 23
abbrev N_law_take_k35 : List Str := ["_law_row", "_law_bound"]
theorem sc_law_take_k35 : FnScope N_law_take_k35 ["_law_row", "_law_bound"] (defScope s_law_take_k35) := ⟨rfl, rfl, rfl, by decide +kernel, rfl, by decide +kernel, by decide +kernel⟩
abbrev s_law_filter : Stmt := top 24
abbrev N_law_filter : List Str := ["_law_row", "_law_axis", "_law_depth", "_law_choice"]
theorem sc_law_filter : FnScope N_law_filter ["_law_row", "_law_axis", "_law_depth"] (defScope s_law_filter) := ⟨rfl, rfl, rfl, by decide +kernel, rfl, by decide +kernel, by decide +kernel⟩
abbrev s_law_step : Stmt := top 25
abbrev N_law_step : List Str := ["_law_row", "_law_depth", "_law_axis", "_law_test", "_law_filters", "_law_k"]
theorem sc_law_step : FnScope N_law_step ["_law_row", "_law_depth"] (defScope s_law_step) := ⟨rfl, rfl, rfl, by decide +kernel, rfl, by decide +kernel, by decide +kernel⟩
abbrev s_law_question : Stmt := top 26
abbrev N_law_question : List Str := ["_law_row", "_law_depth", "_law_k"]
theorem sc_law_question : FnScope N_law_question ["_law_row", "_law_depth"] (defScope s_law_question) := ⟨rfl, rfl, rfl, by decide +kernel, rfl, by decide +kernel, by decide +kernel⟩
abbrev s_law_count : Stmt := top 27
abbrev N_law_count : List Str := ["_law_question_here", "_law_count_here", "_law_axis", "_law_test", "_law_filters", "_law_one"]
theorem sc_law_count : FnScope N_law_count ["_law_question_here"] (defScope s_law_count) := ⟨rfl, rfl, rfl, by decide +kernel, rfl, by decide +kernel, by decide +kernel⟩
abbrev s_law_string_k35 : Stmt := top 28
abbrev N_law_string_k35 : List Str := ["_law_row", "_law_text", "_law_k"]
theorem sc_law_string_k35 : FnScope N_law_string_k35 ["_law_row"] (defScope s_law_string_k35) := ⟨rfl, rfl, rfl, by decide +kernel, rfl, by decide +kernel, by decide +kernel⟩
abbrev s_law_dressed : Stmt := top 29
abbrev N_law_dressed : List Str := ["_law_row", "_law_question_here", "_law_found", "_law_axis", "_law_test", "_law_filters", "_law_later", "_law_kind", "_law_part"]
theorem sc_law_dressed : FnScope N_law_dressed ["_law_row", "_law_question_here"] (defScope s_law_dressed) := ⟨rfl, rfl, rfl, by decide +kernel, rfl, by decide +kernel, by decide +kernel⟩
abbrev s_law_quoted : Stmt := top 30
abbrev N_law_quoted : List Str := ["_law_string_here", "_law_text", "_law_sign"]
theorem sc_law_quoted : FnScope N_law_quoted ["_law_string_here"] (defScope s_law_quoted) := ⟨rfl, rfl, rfl, by decide +kernel, rfl, by decide +kernel, by decide +kernel⟩
abbrev s_law_written_k35 : Stmt := top 31
abbrev N_law_written_k35 : List Str := ["_law_question_here", "_law_text", "_law_axis", "_law_test", "_law_filters", "_law_kind", "_law_part"]
theorem sc_law_written_k35 : FnScope N_law_written_k35 ["_law_question_here"] (defScope s_law_written_k35) := ⟨rfl, rfl, rfl, by decide +kernel, rfl, by decide +kernel, by decide +kernel⟩
abbrev s_law_improper : Stmt := top 32
abbrev N_law_improper : List Str := ["_law_row", "_law_question_here", "_law_bad", "_law_k"]
theorem sc_law_improper : FnScope N_law_improper ["_law_row", "_law_question_here"] (defScope s_law_improper) := ⟨rfl, rfl, rfl, by decide +kernel, rfl, by decide +kernel, by decide +kernel⟩
abbrev s_law_told_k35 : Stmt := top 33
abbrev N_law_told_k35 : List Str := ["_law_text", "error"]
theorem sc_law_told_k35 : FnScope N_law_told_k35 ["_law_text"] (defScope s_law_told_k35) := ⟨rfl, rfl, rfl, by decide +kernel, rfl, by decide +kernel, by decide +kernel⟩
abbrev s_law_k35 : Stmt := top 34
abbrev N_law_k35 : List Str := ["_law_script", "_law_row", "_law_question_here", "_law_text", "_law_deep", "_law_turn", "_law_k", "_law_sign", "_law_told_here"]
theorem sc_law_k35 : FnScope N_law_k35 ["_law_script"] (defScope s_law_k35) := ⟨rfl, rfl, rfl, by decide +kernel, rfl, by decide +kernel, by decide +kernel⟩
structure Tx (w : World) (K : PySem.W.Frag) (mg : Str → Option Value) where
  C_TopiaryError : Addr
  C_InvalidQuestion : Addr
  C_QuestionReader : Addr
  f_InvalidQuestion_init : Addr
  d_InvalidQuestion_init : FuncData
  f_is_sign : Addr
  d_is_sign : FuncData
  f_QuestionReader_init : Addr
  d_QuestionReader_init : FuncData
  f_QuestionReader_fail : Addr
  d_QuestionReader_fail : FuncData
  f_QuestionReader_sign : Addr
  d_QuestionReader_sign : FuncData
  f_QuestionReader_test : Addr
  d_QuestionReader_test : FuncData
  f_QuestionReader_one_sign : Addr
  d_QuestionReader_one_sign : FuncData
  f_QuestionReader_string : Addr
  d_QuestionReader_string : FuncData
  f_QuestionReader_filter : Addr
  d_QuestionReader_filter : FuncData
  f_QuestionReader_step : Addr
  d_QuestionReader_step : FuncData
  f_QuestionReader_question : Addr
  d_QuestionReader_question : FuncData
  f_read_question : Addr
  d_read_question : FuncData
  f_is_name_questions : Addr
  d_is_name_questions : FuncData
  f_step_count : Addr
  d_step_count : FuncData
  f_is_filter : Addr
  d_is_filter : FuncData
  f_has_form : Addr
  d_has_form : FuncData
  f_is_proper : Addr
  d_is_proper : FuncData
  f_written_string : Addr
  d_written_string : FuncData
  f_write_question : Addr
  d_write_question : FuncData
  f_law_mix : Addr
  d_law_mix : FuncData
  f_law_numbers : Addr
  d_law_numbers : FuncData
  f_law_take_k35 : Addr
  d_law_take_k35 : FuncData
  f_law_filter : Addr
  d_law_filter : FuncData
  f_law_step : Addr
  d_law_step : FuncData
  f_law_question : Addr
  d_law_question : FuncData
  f_law_count : Addr
  d_law_count : FuncData
  f_law_string_k35 : Addr
  d_law_string_k35 : FuncData
  f_law_dressed : Addr
  d_law_dressed : FuncData
  f_law_quoted : Addr
  d_law_quoted : FuncData
  f_law_written_k35 : Addr
  d_law_written_k35 : FuncData
  f_law_improper : Addr
  d_law_improper : FuncData
  f_law_told_k35 : Addr
  d_law_told_k35 : FuncData
  f_law_k35 : Addr
  d_law_k35 : FuncData
  t_LETTERS : Tok
  t_MOST_DEPTH : Tok
  t_MOST_PLACE : Tok
  t_MOST_SIGNS : Tok
  t_MOST_STEPS : Tok
  a_ESCAPES : Addr
  g_TopiaryError : mg "TopiaryError" = some (.ref C_TopiaryError)
  z_TopiaryError : XCls0 K C_TopiaryError
  xe_TopiaryError : PySem.W.exmOne K (.ref C_TopiaryError) (.ref C_TopiaryError) = some true
  g_InvalidQuestion : mg "InvalidQuestion" = some (.ref C_InvalidQuestion)
  x_InvalidQuestion : XClsN K C_InvalidQuestion f_InvalidQuestion_init ["column", "reason"]
  xf_InvalidQuestion : XfC K C_InvalidQuestion
  xe_InvalidQuestion : PySem.W.exmOne K (.ref C_InvalidQuestion) (.ref C_InvalidQuestion) = some true
  xv_InvalidQuestion : PySem.W.kitOne K (.ref C_InvalidQuestion) (.type "ValueError") = some true
  c_QuestionReader : Cls K C_QuestionReader
  g_QuestionReader : mg "QuestionReader" = some (.ref C_QuestionReader)
  F_InvalidQuestion_init : FunD K "__init__" "InvalidQuestion.__init__" (defArgs s_InvalidQuestion_init) (defBody s_InvalidQuestion_init) (defScope s_InvalidQuestion_init) [] [] f_InvalidQuestion_init d_InvalidQuestion_init
  F_is_sign : FunD K "is_sign" "is_sign" (defArgs s_is_sign) (defBody s_is_sign) (defScope s_is_sign) [] [] f_is_sign d_is_sign
  m_is_sign : mg "is_sign" = some (.ref f_is_sign)
  k_is_sign : PySem.W.keepIn K (.ref f_is_sign) = true
  F_QuestionReader_init : FunD K "__init__" "QuestionReader.__init__" (defArgs s_QuestionReader_init) (defBody s_QuestionReader_init) (defScope s_QuestionReader_init) [] [] f_QuestionReader_init d_QuestionReader_init
  mk_QuestionReader : Mk K C_QuestionReader f_QuestionReader_init
  F_QuestionReader_fail : FunD K "fail" "QuestionReader.fail" (defArgs s_QuestionReader_fail) (defBody s_QuestionReader_fail) (defScope s_QuestionReader_fail) [] [] f_QuestionReader_fail d_QuestionReader_fail
  me_QuestionReader_fail : Meth K C_QuestionReader "fail" f_QuestionReader_fail
  F_QuestionReader_sign : FunD K "sign" "QuestionReader.sign" (defArgs s_QuestionReader_sign) (defBody s_QuestionReader_sign) (defScope s_QuestionReader_sign) [] [] f_QuestionReader_sign d_QuestionReader_sign
  me_QuestionReader_sign : Meth K C_QuestionReader "sign" f_QuestionReader_sign
  F_QuestionReader_test : FunD K "test" "QuestionReader.test" (defArgs s_QuestionReader_test) (defBody s_QuestionReader_test) (defScope s_QuestionReader_test) [] [] f_QuestionReader_test d_QuestionReader_test
  me_QuestionReader_test : Meth K C_QuestionReader "test" f_QuestionReader_test
  F_QuestionReader_one_sign : FunD K "one_sign" "QuestionReader.one_sign" (defArgs s_QuestionReader_one_sign) (defBody s_QuestionReader_one_sign) (defScope s_QuestionReader_one_sign) [] [] f_QuestionReader_one_sign d_QuestionReader_one_sign
  me_QuestionReader_one_sign : Meth K C_QuestionReader "one_sign" f_QuestionReader_one_sign
  F_QuestionReader_string : FunD K "string" "QuestionReader.string" (defArgs s_QuestionReader_string) (defBody s_QuestionReader_string) (defScope s_QuestionReader_string) [] [] f_QuestionReader_string d_QuestionReader_string
  me_QuestionReader_string : Meth K C_QuestionReader "string" f_QuestionReader_string
  F_QuestionReader_filter : FunD K "filter" "QuestionReader.filter" (defArgs s_QuestionReader_filter) (defBody s_QuestionReader_filter) (defScope s_QuestionReader_filter) [] [] f_QuestionReader_filter d_QuestionReader_filter
  me_QuestionReader_filter : Meth K C_QuestionReader "filter" f_QuestionReader_filter
  F_QuestionReader_step : FunD K "step" "QuestionReader.step" (defArgs s_QuestionReader_step) (defBody s_QuestionReader_step) (defScope s_QuestionReader_step) [] [] f_QuestionReader_step d_QuestionReader_step
  me_QuestionReader_step : Meth K C_QuestionReader "step" f_QuestionReader_step
  F_QuestionReader_question : FunD K "question" "QuestionReader.question" (defArgs s_QuestionReader_question) (defBody s_QuestionReader_question) (defScope s_QuestionReader_question) [] [] f_QuestionReader_question d_QuestionReader_question
  me_QuestionReader_question : Meth K C_QuestionReader "question" f_QuestionReader_question
  F_read_question : FunD K "read_question" "read_question" (defArgs s_read_question) (defBody s_read_question) (defScope s_read_question) [] [] f_read_question d_read_question
  m_read_question : mg "read_question" = some (.ref f_read_question)
  k_read_question : PySem.W.keepIn K (.ref f_read_question) = true
  F_is_name_questions : FunD K "is_name" "is_name" (defArgs s_is_name_questions) (defBody s_is_name_questions) (defScope s_is_name_questions) [] [] f_is_name_questions d_is_name_questions
  m_is_name_questions : mg "is_name" = some (.ref f_is_name_questions)
  k_is_name_questions : PySem.W.keepIn K (.ref f_is_name_questions) = true
  F_step_count : FunD K "step_count" "step_count" (defArgs s_step_count) (defBody s_step_count) (defScope s_step_count) [] [] f_step_count d_step_count
  m_step_count : mg "step_count" = some (.ref f_step_count)
  k_step_count : PySem.W.keepIn K (.ref f_step_count) = true
  F_is_filter : FunD K "is_filter" "is_filter" (defArgs s_is_filter) (defBody s_is_filter) (defScope s_is_filter) [] [] f_is_filter d_is_filter
  m_is_filter : mg "is_filter" = some (.ref f_is_filter)
  k_is_filter : PySem.W.keepIn K (.ref f_is_filter) = true
  F_has_form : FunD K "has_form" "has_form" (defArgs s_has_form) (defBody s_has_form) (defScope s_has_form) [] [] f_has_form d_has_form
  m_has_form : mg "has_form" = some (.ref f_has_form)
  k_has_form : PySem.W.keepIn K (.ref f_has_form) = true
  F_is_proper : FunD K "is_proper" "is_proper" (defArgs s_is_proper) (defBody s_is_proper) (defScope s_is_proper) [] [] f_is_proper d_is_proper
  m_is_proper : mg "is_proper" = some (.ref f_is_proper)
  k_is_proper : PySem.W.keepIn K (.ref f_is_proper) = true
  F_written_string : FunD K "written_string" "written_string" (defArgs s_written_string) (defBody s_written_string) (defScope s_written_string) [] [] f_written_string d_written_string
  m_written_string : mg "written_string" = some (.ref f_written_string)
  k_written_string : PySem.W.keepIn K (.ref f_written_string) = true
  F_write_question : FunD K "write_question" "write_question" (defArgs s_write_question) (defBody s_write_question) (defScope s_write_question) [] [] f_write_question d_write_question
  m_write_question : mg "write_question" = some (.ref f_write_question)
  k_write_question : PySem.W.keepIn K (.ref f_write_question) = true
  F_law_mix : FunD K "_law_mix" "_law_mix" (defArgs s_law_mix) (defBody s_law_mix) (defScope s_law_mix) [] [] f_law_mix d_law_mix
  m_law_mix : mg "_law_mix" = some (.ref f_law_mix)
  k_law_mix : PySem.W.keepIn K (.ref f_law_mix) = true
  F_law_numbers : FunD K "_law_numbers" "_law_numbers" (defArgs s_law_numbers) (defBody s_law_numbers) (defScope s_law_numbers) [] [] f_law_numbers d_law_numbers
  m_law_numbers : mg "_law_numbers" = some (.ref f_law_numbers)
  k_law_numbers : PySem.W.keepIn K (.ref f_law_numbers) = true
  F_law_take_k35 : FunD K "_law_take" "_law_take" (defArgs s_law_take_k35) (defBody s_law_take_k35) (defScope s_law_take_k35) [] [] f_law_take_k35 d_law_take_k35
  m_law_take_k35 : mg "_law_take" = some (.ref f_law_take_k35)
  k_law_take_k35 : PySem.W.keepIn K (.ref f_law_take_k35) = true
  F_law_filter : FunD K "_law_filter" "_law_filter" (defArgs s_law_filter) (defBody s_law_filter) (defScope s_law_filter) [] [] f_law_filter d_law_filter
  m_law_filter : mg "_law_filter" = some (.ref f_law_filter)
  k_law_filter : PySem.W.keepIn K (.ref f_law_filter) = true
  F_law_step : FunD K "_law_step" "_law_step" (defArgs s_law_step) (defBody s_law_step) (defScope s_law_step) [] [] f_law_step d_law_step
  m_law_step : mg "_law_step" = some (.ref f_law_step)
  k_law_step : PySem.W.keepIn K (.ref f_law_step) = true
  F_law_question : FunD K "_law_question" "_law_question" (defArgs s_law_question) (defBody s_law_question) (defScope s_law_question) [] [] f_law_question d_law_question
  m_law_question : mg "_law_question" = some (.ref f_law_question)
  k_law_question : PySem.W.keepIn K (.ref f_law_question) = true
  F_law_count : FunD K "_law_count" "_law_count" (defArgs s_law_count) (defBody s_law_count) (defScope s_law_count) [] [] f_law_count d_law_count
  m_law_count : mg "_law_count" = some (.ref f_law_count)
  k_law_count : PySem.W.keepIn K (.ref f_law_count) = true
  F_law_string_k35 : FunD K "_law_string" "_law_string" (defArgs s_law_string_k35) (defBody s_law_string_k35) (defScope s_law_string_k35) [] [] f_law_string_k35 d_law_string_k35
  m_law_string_k35 : mg "_law_string" = some (.ref f_law_string_k35)
  k_law_string_k35 : PySem.W.keepIn K (.ref f_law_string_k35) = true
  F_law_dressed : FunD K "_law_dressed" "_law_dressed" (defArgs s_law_dressed) (defBody s_law_dressed) (defScope s_law_dressed) [] [] f_law_dressed d_law_dressed
  m_law_dressed : mg "_law_dressed" = some (.ref f_law_dressed)
  k_law_dressed : PySem.W.keepIn K (.ref f_law_dressed) = true
  F_law_quoted : FunD K "_law_quoted" "_law_quoted" (defArgs s_law_quoted) (defBody s_law_quoted) (defScope s_law_quoted) [] [] f_law_quoted d_law_quoted
  m_law_quoted : mg "_law_quoted" = some (.ref f_law_quoted)
  k_law_quoted : PySem.W.keepIn K (.ref f_law_quoted) = true
  F_law_written_k35 : FunD K "_law_written" "_law_written" (defArgs s_law_written_k35) (defBody s_law_written_k35) (defScope s_law_written_k35) [] [] f_law_written_k35 d_law_written_k35
  m_law_written_k35 : mg "_law_written" = some (.ref f_law_written_k35)
  k_law_written_k35 : PySem.W.keepIn K (.ref f_law_written_k35) = true
  F_law_improper : FunD K "_law_improper" "_law_improper" (defArgs s_law_improper) (defBody s_law_improper) (defScope s_law_improper) [] [] f_law_improper d_law_improper
  m_law_improper : mg "_law_improper" = some (.ref f_law_improper)
  k_law_improper : PySem.W.keepIn K (.ref f_law_improper) = true
  F_law_told_k35 : FunD K "_law_told" "_law_told" (defArgs s_law_told_k35) (defBody s_law_told_k35) (defScope s_law_told_k35) [] [] f_law_told_k35 d_law_told_k35
  m_law_told_k35 : mg "_law_told" = some (.ref f_law_told_k35)
  k_law_told_k35 : PySem.W.keepIn K (.ref f_law_told_k35) = true
  F_law_k35 : FunD K "law" "law" (defArgs s_law_k35) (defBody s_law_k35) (defScope s_law_k35) [] [] f_law_k35 d_law_k35
  m_law_k35 : mg "law" = some (.ref f_law_k35)
  k_law_k35 : PySem.W.keepIn K (.ref f_law_k35) = true
  xn_TopiaryError_InvalidQuestion : PySem.W.exmOne K (.ref C_TopiaryError) (.ref C_InvalidQuestion) = some false
  n_QuestionReader_at : NoAttr K C_QuestionReader "at"
  n_QuestionReader_steps : NoAttr K C_QuestionReader "steps"
  n_QuestionReader_text : NoAttr K C_QuestionReader "text"
  g_LETTERS : mg "LETTERS" = some (.str "abcdefghijklmnopqrstuvwxyz" t_LETTERS)
  g_MOST_DEPTH : mg "MOST_DEPTH" = some (.int 3 t_MOST_DEPTH)
  g_MOST_PLACE : mg "MOST_PLACE" = some (.int 5000 t_MOST_PLACE)
  g_MOST_SIGNS : mg "MOST_SIGNS" = some (.int 40 t_MOST_SIGNS)
  g_MOST_STEPS : mg "MOST_STEPS" = some (.int 12 t_MOST_STEPS)
  g_ESCAPES : mg "ESCAPES" = some (.ref a_ESCAPES)
  G_ESCAPES : GDic K w a_ESCAPES gt_ESCAPES
  b_all : mg "all" = none
  b_int : mg "int" = none
  b_isinstance : mg "isinstance" = none
  b_len : mg "len" = none
  b_list : mg "list" = none
  b_range : mg "range" = none
  b_str : mg "str" = none
abbrev Tx.C {w : World} {K : PySem.W.Frag} {mg : Str → Option Value} (T : Tx w K mg) : Cs := { TopiaryError := T.C_TopiaryError, InvalidRow := default, InvalidPlace := default, Bits := default, InvalidSize := default, InvalidSymbol := default, Wave := default, InvalidStretch := default, NotTurned := default, InvalidText := default, UnknownText := default, InvalidStep := default, InvalidPart := default, Finder := default, TextError := default, TooLarge := default, DocumentReader := default, InvalidRows := default, InvalidDocument := default, Rows := default, Gatherer := default, Builder := default, Kept := default, InvalidQuestion := T.C_InvalidQuestion, QuestionReader := T.C_QuestionReader, ImproperQuestion := default, Evaluation := default, Meaning := default, FilteredQuestion := default, Comparison := default, InvalidEdit := default, View := default, Layers := default, Search := default, InvalidCounts := default, InvalidLengths := default, InvalidBox := default, Loader := default, InvalidLine := default, Desk := default, fn_node_at := default, fn_parent_of := default, fn_children_of := default, fn_depth_of := default, fn_upward_path := default, fn_depth := default, fn_family := default, fn_name := default, fn_node_of := default, fn_parent := default, fn_place := default, fn_row_of := default, fn_subtree := default, fn_text := default, fn_weight := default, fn_upward := default, fn_found_from := default, fn_nodes := default, fn_nodes_kept := default, fn_compare := default, fn_takes := default, fn_places_after := default, fn_edited := default, fn_taken_back := default, gd_SIGNS_writer := default, gd_ESCAPES := T.a_ESCAPES, gd_NUMBERS := default }
section
variable {P : Program} {w : World} {K : PySem.W.Frag} {mg : Str → Option Value} {base : Heap}
theorem Tx.bd_InvalidQuestion_init (T : Tx w K mg) : Binds K T.d_InvalidQuestion_init ["self", "column", "reason"] [] := T.F_InvalidQuestion_init.bindsN fun _ _ _ _ _ _ us hl => match us, hl with | [_, _, _], _ => rfl
theorem Tx.bd_is_sign (T : Tx w K mg) : Binds K T.d_is_sign ["sign"] [] := T.F_is_sign.bindsN fun _ _ _ _ _ _ us hl => match us, hl with | [_], _ => rfl
theorem Tx.bd_QuestionReader_init (T : Tx w K mg) : Binds K T.d_QuestionReader_init ["self", "text"] [] := T.F_QuestionReader_init.bindsN fun _ _ _ _ _ _ us hl => match us, hl with | [_, _], _ => rfl
theorem Tx.bd_QuestionReader_fail (T : Tx w K mg) : Binds K T.d_QuestionReader_fail ["self", "place", "reason"] [] := T.F_QuestionReader_fail.bindsN fun _ _ _ _ _ _ us hl => match us, hl with | [_, _, _], _ => rfl
theorem Tx.bd_QuestionReader_sign (T : Tx w K mg) : Binds K T.d_QuestionReader_sign ["self"] [] := T.F_QuestionReader_sign.bindsN fun _ _ _ _ _ _ us hl => match us, hl with | [_], _ => rfl
theorem Tx.bd_QuestionReader_test (T : Tx w K mg) : Binds K T.d_QuestionReader_test ["self"] [] := T.F_QuestionReader_test.bindsN fun _ _ _ _ _ _ us hl => match us, hl with | [_], _ => rfl
theorem Tx.bd_QuestionReader_one_sign (T : Tx w K mg) : Binds K T.d_QuestionReader_one_sign ["self", "start"] [] := T.F_QuestionReader_one_sign.bindsN fun _ _ _ _ _ _ us hl => match us, hl with | [_, _], _ => rfl
theorem Tx.bd_QuestionReader_string (T : Tx w K mg) : Binds K T.d_QuestionReader_string ["self"] [] := T.F_QuestionReader_string.bindsN fun _ _ _ _ _ _ us hl => match us, hl with | [_], _ => rfl
theorem Tx.bd_QuestionReader_filter (T : Tx w K mg) : Binds K T.d_QuestionReader_filter ["self", "axis", "depth"] [] := T.F_QuestionReader_filter.bindsN fun _ _ _ _ _ _ us hl => match us, hl with | [_, _, _], _ => rfl
theorem Tx.bd_QuestionReader_step (T : Tx w K mg) : Binds K T.d_QuestionReader_step ["self", "depth"] [] := T.F_QuestionReader_step.bindsN fun _ _ _ _ _ _ us hl => match us, hl with | [_, _], _ => rfl
theorem Tx.bd_QuestionReader_question (T : Tx w K mg) : Binds K T.d_QuestionReader_question ["self", "depth"] [] := T.F_QuestionReader_question.bindsN fun _ _ _ _ _ _ us hl => match us, hl with | [_, _], _ => rfl
theorem Tx.bd_read_question (T : Tx w K mg) : Binds K T.d_read_question ["text"] [] := T.F_read_question.bindsN fun _ _ _ _ _ _ us hl => match us, hl with | [_], _ => rfl
theorem Tx.bd_is_name_questions (T : Tx w K mg) : Binds K T.d_is_name_questions ["text"] [] := T.F_is_name_questions.bindsN fun _ _ _ _ _ _ us hl => match us, hl with | [_], _ => rfl
theorem Tx.bd_step_count (T : Tx w K mg) : Binds K T.d_step_count ["question"] [] := T.F_step_count.bindsN fun _ _ _ _ _ _ us hl => match us, hl with | [_], _ => rfl
theorem Tx.bd_is_filter (T : Tx w K mg) : Binds K T.d_is_filter ["row", "axis", "depth"] [] := T.F_is_filter.bindsN fun _ _ _ _ _ _ us hl => match us, hl with | [_, _, _], _ => rfl
theorem Tx.bd_has_form (T : Tx w K mg) : Binds K T.d_has_form ["question", "depth"] [] := T.F_has_form.bindsN fun _ _ _ _ _ _ us hl => match us, hl with | [_, _], _ => rfl
theorem Tx.bd_is_proper (T : Tx w K mg) : Binds K T.d_is_proper ["question"] [] := T.F_is_proper.bindsN fun _ _ _ _ _ _ us hl => match us, hl with | [_], _ => rfl
theorem Tx.bd_written_string (T : Tx w K mg) : Binds K T.d_written_string ["string"] [] := T.F_written_string.bindsN fun _ _ _ _ _ _ us hl => match us, hl with | [_], _ => rfl
theorem Tx.bd_write_question (T : Tx w K mg) : Binds K T.d_write_question ["question"] [] := T.F_write_question.bindsN fun _ _ _ _ _ _ us hl => match us, hl with | [_], _ => rfl
theorem Tx.bd_law_mix (T : Tx w K mg) : Binds K T.d_law_mix ["_law_number", "_law_k"] [] := T.F_law_mix.bindsN fun _ _ _ _ _ _ us hl => match us, hl with | [_, _], _ => rfl
theorem Tx.bd_law_numbers (T : Tx w K mg) : Binds K T.d_law_numbers ["_law_script", "_law_count_here"] [] := T.F_law_numbers.bindsN fun _ _ _ _ _ _ us hl => match us, hl with | [_, _], _ => rfl
theorem Tx.bd_law_take_k35 (T : Tx w K mg) : Binds K T.d_law_take_k35 ["_law_row", "_law_bound"] [] := T.F_law_take_k35.bindsN fun _ _ _ _ _ _ us hl => match us, hl with | [_, _], _ => rfl
theorem Tx.bd_law_filter (T : Tx w K mg) : Binds K T.d_law_filter ["_law_row", "_law_axis", "_law_depth"] [] := T.F_law_filter.bindsN fun _ _ _ _ _ _ us hl => match us, hl with | [_, _, _], _ => rfl
theorem Tx.bd_law_step (T : Tx w K mg) : Binds K T.d_law_step ["_law_row", "_law_depth"] [] := T.F_law_step.bindsN fun _ _ _ _ _ _ us hl => match us, hl with | [_, _], _ => rfl
theorem Tx.bd_law_question (T : Tx w K mg) : Binds K T.d_law_question ["_law_row", "_law_depth"] [] := T.F_law_question.bindsN fun _ _ _ _ _ _ us hl => match us, hl with | [_, _], _ => rfl
theorem Tx.bd_law_count (T : Tx w K mg) : Binds K T.d_law_count ["_law_question_here"] [] := T.F_law_count.bindsN fun _ _ _ _ _ _ us hl => match us, hl with | [_], _ => rfl
theorem Tx.bd_law_string_k35 (T : Tx w K mg) : Binds K T.d_law_string_k35 ["_law_row"] [] := T.F_law_string_k35.bindsN fun _ _ _ _ _ _ us hl => match us, hl with | [_], _ => rfl
theorem Tx.bd_law_dressed (T : Tx w K mg) : Binds K T.d_law_dressed ["_law_row", "_law_question_here"] [] := T.F_law_dressed.bindsN fun _ _ _ _ _ _ us hl => match us, hl with | [_, _], _ => rfl
theorem Tx.bd_law_quoted (T : Tx w K mg) : Binds K T.d_law_quoted ["_law_string_here"] [] := T.F_law_quoted.bindsN fun _ _ _ _ _ _ us hl => match us, hl with | [_], _ => rfl
theorem Tx.bd_law_written_k35 (T : Tx w K mg) : Binds K T.d_law_written_k35 ["_law_question_here"] [] := T.F_law_written_k35.bindsN fun _ _ _ _ _ _ us hl => match us, hl with | [_], _ => rfl
theorem Tx.bd_law_improper (T : Tx w K mg) : Binds K T.d_law_improper ["_law_row", "_law_question_here"] [] := T.F_law_improper.bindsN fun _ _ _ _ _ _ us hl => match us, hl with | [_, _], _ => rfl
theorem Tx.bd_law_told_k35 (T : Tx w K mg) : Binds K T.d_law_told_k35 ["_law_text"] [] := T.F_law_told_k35.bindsN fun _ _ _ _ _ _ us hl => match us, hl with | [_], _ => rfl
theorem Tx.bd_law_k35 (T : Tx w K mg) : Binds K T.d_law_k35 ["_law_script"] [] := T.F_law_k35.bindsN fun _ _ _ _ _ _ us hl => match us, hl with | [_], _ => rfl
theorem ok_InvalidQuestion_init (T : Tx w K mg) : FnOk P w K mg base (L2.CX P w) 1 T.f_InvalidQuestion_init T.d_InvalidQuestion_init ["self", "column", "reason"] (spXIn T.C.InvalidQuestion ["column", "reason"]) := fnX2_ok T.F_InvalidQuestion_init sc_InvalidQuestion_init T.x_InvalidQuestion fun _ _ _ _ _ _ => (pss_cons (ps_ost (pv 0) (pv 1)) (pss_one (ps_ost (pv 0) (pv 2))))
set_option maxHeartbeats 8000000 in
theorem ok_is_sign (T : Tx w K mg) : FnOk P w K mg base (L2.CX P w) 1 T.f_is_sign T.d_is_sign ["sign"] (spD K 1 (mkF 1 0 0 (fb_is_sign T.C))) :=
  fnD_ok (k := 0) T.F_is_sign sc_is_sign fun cdv A outer s H E hr => by
    have tk : Takes (cxOf (L2.CX P w) P w K mg base N_is_sign "is_sign" (defScope s_is_sign) T.f_is_sign cdv A outer s H E) (WofE E) := takes_of rfl rfl rfl rfl
    exact (s_one (s_ret (d_or (d_chain op_leS op_leS leS_ok leS_ok d_str (d_var (pv 0)) d_str) (d_one (d_cmp (op_eqB hr.units) (OpB.d eqB_ok) (d_var (pv 0)) d_str (nomark _))))))
set_option maxHeartbeats 8000000 in
theorem ok_QuestionReader_init (T : Tx w K mg) : FnOk P w K mg base (L2.CX P w) 1 T.f_QuestionReader_init T.d_QuestionReader_init ["self", "text"] (spD K 2 (mkF 2 2 1 (fb_QuestionReader_init T.C))) :=
  fnD_ok (k := 0) T.F_QuestionReader_init sc_QuestionReader_init fun cdv A outer s H E hr => by
    have tk : Takes (cxOf (L2.CX P w) P w K mg base N_QuestionReader_init "QuestionReader.__init__" (defScope s_QuestionReader_init) T.f_QuestionReader_init cdv A outer s H E) (WofE E) := takes_of rfl rfl rfl rfl
    exact (s_cons (s_setF T.c_QuestionReader T.n_QuestionReader_text (d_var (pv 0)) (d_var (pv 1)))
    (s_cons (s_setF T.c_QuestionReader T.n_QuestionReader_at (d_var (pv 0)) d_int)
    (s_one (s_setF T.c_QuestionReader T.n_QuestionReader_steps (d_var (pv 0)) d_int))))
set_option maxHeartbeats 8000000 in
theorem ok_QuestionReader_fail (T : Tx w K mg) : FnOk P w K mg base (L2.CX P w) 3 T.f_QuestionReader_fail T.d_QuestionReader_fail ["self", "place", "reason"] (spD K 3 (mkF 3 1 1 (fb_QuestionReader_fail T.C))) :=
  fnD_ok (k := 2) T.F_QuestionReader_fail sc_QuestionReader_fail fun cdv A outer s H E hr => by
    have tk : Takes (cxOf (L2.CX P w) P w K mg base N_QuestionReader_fail "QuestionReader.fail" (defScope s_QuestionReader_fail) T.f_QuestionReader_fail cdv A outer s H E) (WofE E) := takes_of rfl rfl rfl rfl
    exact (s_one (s_raiseN rfl T.x_InvalidQuestion (ok_InvalidQuestion_init T) (hr.mono (by decide)) T.bd_InvalidQuestion_init passF tk rfl T.g_InvalidQuestion (a_cons (d_op op_addD addD_ok (d_var (pv 1)) d_int) (a_cons (d_var (pv 2)) a_nil))))
set_option maxHeartbeats 8000000 in
theorem ok_QuestionReader_sign (T : Tx w K mg) : FnOk P w K mg base (L2.CX P w) 1 T.f_QuestionReader_sign T.d_QuestionReader_sign ["self"] (spD K 1 (mkF 1 1 1 (fb_QuestionReader_sign T.C))) :=
  fnD_ok (k := 0) T.F_QuestionReader_sign sc_QuestionReader_sign fun cdv A outer s H E hr => by
    have tk : Takes (cxOf (L2.CX P w) P w K mg base N_QuestionReader_sign "QuestionReader.sign" (defScope s_QuestionReader_sign) T.f_QuestionReader_sign cdv A outer s H E) (WofE E) := takes_of rfl rfl rfl rfl
    exact (s_one (s_ret (d_sl (d_fld T.c_QuestionReader T.n_QuestionReader_text (d_var (pv 0))) (o_some (d_fld T.c_QuestionReader T.n_QuestionReader_at (d_var (pv 0)))) (o_some (d_op op_addD addD_ok (d_fld T.c_QuestionReader T.n_QuestionReader_at (d_var (pv 0))) d_int)))))
set_option maxHeartbeats 8000000 in
theorem ok_QuestionReader_test (T : Tx w K mg) (G_QuestionReader_fail : FnOk P w K mg base (L2.CX P w) 3 T.f_QuestionReader_fail T.d_QuestionReader_fail ["self", "place", "reason"] (spD K 3 (F_QuestionReader_fail T.C))) (G_QuestionReader_sign : FnOk P w K mg base (L2.CX P w) 1 T.f_QuestionReader_sign T.d_QuestionReader_sign ["self"] (spD K 1 (F_QuestionReader_sign T.C))) : FnOk P w K mg base (L2.CX P w) 4 T.f_QuestionReader_test T.d_QuestionReader_test ["self"] (spD K 1 (mkF 2 1 1 (fb_QuestionReader_test T.C))) :=
  fnD_ok (k := 3) T.F_QuestionReader_test sc_QuestionReader_test fun cdv A outer s H E hr => by
    have tk : Takes (cxOf (L2.CX P w) P w K mg base N_QuestionReader_test "QuestionReader.test" (defScope s_QuestionReader_test) T.f_QuestionReader_test cdv A outer s H E) (WofE E) := takes_of rfl rfl rfl rfl
    exact (s_cons (s_set (i := 1) sc_QuestionReader_test.nd rfl (by first | exact Or.inl rfl | exact Or.inr rfl) (d_fld T.c_QuestionReader T.n_QuestionReader_at (d_var (pv 0))))
    (s_cons (s_if (t_cmp op_inB inB_ok (d_methD0 (L := [0]) (Ln := []) (dvs := []) tk (d_var (pv 0)) T.c_QuestionReader T.me_QuestionReader_sign G_QuestionReader_sign (hr.mono (by decide)) T.bd_QuestionReader_sign .nil rfl) (d_tup (a_cons d_str (a_cons d_str a_nil))) (by rfl)) (s_cons (s_augF T.c_QuestionReader T.n_QuestionReader_at (d_var (pv 0)) d_int iop_add addI_ok)
    (s_one (s_ret (d_sl (d_fld T.c_QuestionReader T.n_QuestionReader_text (d_var (pv 0))) (o_some (d_var (pv 1))) (o_some (d_fld T.c_QuestionReader T.n_QuestionReader_at (d_var (pv 0)))))))) s_nil)
    (s_cons (s_while (fuel := (fun _ => 1000000)) (fg := []) (passes_of rfl) (PW.pt (w_and (t_cmp (op_neB hr.units) neB_ok (d_methD0 (L := [0]) (Ln := []) (dvs := []) tk (d_var (pv 0)) T.c_QuestionReader T.me_QuestionReader_sign G_QuestionReader_sign (hr.mono (by decide)) T.bd_QuestionReader_sign .nil rfl) d_str (nomark _)) (w_and1 (t_cmp op_inB inB_ok (d_methD0 (L := [0]) (Ln := []) (dvs := []) tk (d_var (pv 0)) T.c_QuestionReader T.me_QuestionReader_sign G_QuestionReader_sign (hr.mono (by decide)) T.bd_QuestionReader_sign .nil rfl) (d_c (v := .str "abcdefghijklmnopqrstuvwxyz") (pe_glob rfl T.g_LETTERS ⟨_, rfl⟩) fun _ => .str _) (by rfl))))) (s_one (s_augF T.c_QuestionReader T.n_QuestionReader_at (d_var (pv 0)) d_int iop_add addI_ok)))
    (s_cons (s_if (t_not (t_chain op_le op_le (cmpB_ok _) (cmpB_ok _) d_int (d_op op_sub subD_ok (d_fld T.c_QuestionReader T.n_QuestionReader_at (d_var (pv 0))) (d_var (pv 1))) d_int)) (s_one (s_expr (d_methD (L := [0]) (Ln := []) (dvs := []) tk (d_var (pv 0)) T.c_QuestionReader T.me_QuestionReader_fail G_QuestionReader_fail (hr.mono (by decide)) T.bd_QuestionReader_fail .nil rfl (a_cons (d_var (pv 1)) (a_cons d_str a_nil))))) s_nil)
    (s_one (s_ret (d_sl (d_fld T.c_QuestionReader T.n_QuestionReader_text (d_var (pv 0))) (o_some (d_var (pv 1))) (o_some (d_fld T.c_QuestionReader T.n_QuestionReader_at (d_var (pv 0)))))))))))
set_option maxHeartbeats 8000000 in
theorem ok_QuestionReader_one_sign (T : Tx w K mg) (G_QuestionReader_fail : FnOk P w K mg base (L2.CX P w) 3 T.f_QuestionReader_fail T.d_QuestionReader_fail ["self", "place", "reason"] (spD K 3 (F_QuestionReader_fail T.C))) (G_QuestionReader_sign : FnOk P w K mg base (L2.CX P w) 1 T.f_QuestionReader_sign T.d_QuestionReader_sign ["self"] (spD K 1 (F_QuestionReader_sign T.C))) (G_is_sign : FnOk P w K mg base (L2.CX P w) 1 T.f_is_sign T.d_is_sign ["sign"] (spD K 1 (F_is_sign T.C))) : FnOk P w K mg base (L2.CX P w) 4 T.f_QuestionReader_one_sign T.d_QuestionReader_one_sign ["self", "start"] (spD K 2 (mkF 3 1 1 (fb_QuestionReader_one_sign T.C))) :=
  fnD_ok (k := 3) T.F_QuestionReader_one_sign sc_QuestionReader_one_sign fun cdv A outer s H E hr => by
    have tk : Takes (cxOf (L2.CX P w) P w K mg base N_QuestionReader_one_sign "QuestionReader.one_sign" (defScope s_QuestionReader_one_sign) T.f_QuestionReader_one_sign cdv A outer s H E) (WofE E) := takes_of rfl rfl rfl rfl
    exact (s_cons (s_set (i := 2) sc_QuestionReader_one_sign.nd rfl (by first | exact Or.inl rfl | exact Or.inr rfl) (d_methD0 (L := [0]) (Ln := []) (dvs := []) tk (d_var (pv 0)) T.c_QuestionReader T.me_QuestionReader_sign G_QuestionReader_sign (hr.mono (by decide)) T.bd_QuestionReader_sign .nil rfl))
    (s_cons (s_if (t_cmp (op_eqB hr.units) eqB_ok (d_var (pv 2)) d_str (nomark _)) (s_cons (s_augF T.c_QuestionReader T.n_QuestionReader_at (d_var (pv 0)) d_int iop_add addI_ok)
    (s_cons (s_if (t_cmp (op_eqB hr.units) eqB_ok (d_methD0 (L := [0]) (Ln := []) (dvs := []) tk (d_var (pv 0)) T.c_QuestionReader T.me_QuestionReader_sign G_QuestionReader_sign (hr.mono (by decide)) T.bd_QuestionReader_sign .nil rfl) d_str (nomark _)) (s_one (s_expr (d_methD (L := [0]) (Ln := []) (dvs := []) tk (d_var (pv 0)) T.c_QuestionReader T.me_QuestionReader_fail G_QuestionReader_fail (hr.mono (by decide)) T.bd_QuestionReader_fail .nil rfl (a_cons (d_var (pv 1)) (a_cons d_str a_nil))))) s_nil)
    (s_cons (s_if (t_cmp (op_notInG T.G_ESCAPES) (notInG_ok T.G_ESCAPES) (d_methD0 (L := [0]) (Ln := []) (dvs := []) tk (d_var (pv 0)) T.c_QuestionReader T.me_QuestionReader_sign G_QuestionReader_sign (hr.mono (by decide)) T.bd_QuestionReader_sign .nil rfl) (d_c (v := .ref T.a_ESCAPES) (pe_glob rfl T.g_ESCAPES rfl) fun _ => .fn _) (by rfl)) (s_one (s_expr (d_methD (L := [0]) (Ln := []) (dvs := []) tk (d_var (pv 0)) T.c_QuestionReader T.me_QuestionReader_fail G_QuestionReader_fail (hr.mono (by decide)) T.bd_QuestionReader_fail .nil rfl (a_cons (d_fld T.c_QuestionReader T.n_QuestionReader_at (d_var (pv 0))) (a_cons d_str a_nil))))) s_nil)
    (s_cons (s_augF T.c_QuestionReader T.n_QuestionReader_at (d_var (pv 0)) d_int iop_add addI_ok)
    (s_one (s_ret (d_getG T.G_ESCAPES (d_c (v := .ref T.a_ESCAPES) (pe_glob rfl T.g_ESCAPES rfl) fun _ => .fn _) (d_ix (d_fld T.c_QuestionReader T.n_QuestionReader_text (d_var (pv 0))) (d_op op_sub subD_ok (d_fld T.c_QuestionReader T.n_QuestionReader_at (d_var (pv 0))) d_int) (fun _ _ => rfl)) (fun _ _ => rfl)))))))) s_nil)
    (s_cons (s_if (PW.pt (w_or (t_cmp (op_eqB hr.units) eqB_ok (d_var (pv 2)) d_str (nomark _)) (w_or1 (t_not (t_truth (d_call (L := []) (Ln := []) (dvs := []) tk G_is_sign (hr.mono (by decide)) (by rfl) T.m_is_sign T.k_is_sign T.bd_is_sign .nil rfl (a_cons (d_var (pv 2)) a_nil)) (by intro _; rfl)))))) (s_one (s_expr (d_methD (L := [0]) (Ln := []) (dvs := []) tk (d_var (pv 0)) T.c_QuestionReader T.me_QuestionReader_fail G_QuestionReader_fail (hr.mono (by decide)) T.bd_QuestionReader_fail .nil rfl (a_cons (d_fld T.c_QuestionReader T.n_QuestionReader_at (d_var (pv 0))) (a_cons d_str a_nil))))) s_nil)
    (s_cons (s_augF T.c_QuestionReader T.n_QuestionReader_at (d_var (pv 0)) d_int iop_add addI_ok)
    (s_one (s_ret (d_var (pv 2))))))))
set_option maxHeartbeats 8000000 in
theorem ok_QuestionReader_string (T : Tx w K mg) (G_QuestionReader_fail : FnOk P w K mg base (L2.CX P w) 3 T.f_QuestionReader_fail T.d_QuestionReader_fail ["self", "place", "reason"] (spD K 3 (F_QuestionReader_fail T.C))) (G_QuestionReader_one_sign : FnOk P w K mg base (L2.CX P w) 4 T.f_QuestionReader_one_sign T.d_QuestionReader_one_sign ["self", "start"] (spD K 2 (F_QuestionReader_one_sign T.C))) (G_QuestionReader_sign : FnOk P w K mg base (L2.CX P w) 1 T.f_QuestionReader_sign T.d_QuestionReader_sign ["self"] (spD K 1 (F_QuestionReader_sign T.C))) : FnOk P w K mg base (L2.CX P w) 5 T.f_QuestionReader_string T.d_QuestionReader_string ["self"] (spD K 1 (mkF 3 1 1 (fb_QuestionReader_string T.C))) :=
  fnD_ok (k := 4) T.F_QuestionReader_string sc_QuestionReader_string fun cdv A outer s H E hr => by
    have tk : Takes (cxOf (L2.CX P w) P w K mg base N_QuestionReader_string "QuestionReader.string" (defScope s_QuestionReader_string) T.f_QuestionReader_string cdv A outer s H E) (WofE E) := takes_of rfl rfl rfl rfl
    exact (s_cons (s_set (i := 1) sc_QuestionReader_string.nd rfl (by first | exact Or.inl rfl | exact Or.inr rfl) (d_fld T.c_QuestionReader T.n_QuestionReader_at (d_var (pv 0))))
    (s_cons (s_augF T.c_QuestionReader T.n_QuestionReader_at (d_var (pv 0)) d_int iop_add addI_ok)
    (s_cons (s_set (i := 2) sc_QuestionReader_string.nd rfl (by first | exact Or.inl rfl | exact Or.inr rfl) d_str)
    (s_cons (s_while (fuel := (fun _ => 1000000)) (fg := []) (passes_of rfl) (t_cmp (op_neB hr.units) neB_ok (d_methD0 (L := [0]) (Ln := []) (dvs := []) tk (d_var (pv 0)) T.c_QuestionReader T.me_QuestionReader_sign G_QuestionReader_sign (hr.mono (by decide)) T.bd_QuestionReader_sign .nil rfl) d_str (nomark _)) (s_cons (s_if (t_cmp (op_eqB hr.units) eqB_ok (d_methD0 (L := [0]) (Ln := []) (dvs := []) tk (d_var (pv 0)) T.c_QuestionReader T.me_QuestionReader_sign G_QuestionReader_sign (hr.mono (by decide)) T.bd_QuestionReader_sign .nil rfl) d_str (nomark _)) (s_one (s_expr (d_methD (L := [0]) (Ln := []) (dvs := []) tk (d_var (pv 0)) T.c_QuestionReader T.me_QuestionReader_fail G_QuestionReader_fail (hr.mono (by decide)) T.bd_QuestionReader_fail .nil rfl (a_cons (d_var (pv 1)) (a_cons d_str a_nil))))) s_nil)
    (s_one (s_aug (i := 2) sc_QuestionReader_string.nd rfl (by first | exact Or.inl rfl | exact Or.inr rfl) (d_methD (L := [0]) (Ln := []) (dvs := []) tk (d_var (pv 0)) T.c_QuestionReader T.me_QuestionReader_one_sign G_QuestionReader_one_sign (hr.mono (by decide)) T.bd_QuestionReader_one_sign .nil rfl (a_cons (d_var (pv 1)) a_nil)) iop_addS addIS_ok))))
    (s_cons (s_augF T.c_QuestionReader T.n_QuestionReader_at (d_var (pv 0)) d_int iop_add addI_ok)
    (s_cons (s_if (t_not (t_chain op_le op_le (cmpB_ok _) (cmpB_ok _) d_int (d_callB call_lenA kLen_ok (by rfl) T.b_len (by decide +kernel) (a_cons (d_var (pv 2)) a_nil)) (d_c (v := .int 40) (pe_glob rfl T.g_MOST_SIGNS ⟨_, rfl⟩) fun _ => .int _))) (s_one (s_expr (d_methD (L := [0]) (Ln := []) (dvs := []) tk (d_var (pv 0)) T.c_QuestionReader T.me_QuestionReader_fail G_QuestionReader_fail (hr.mono (by decide)) T.bd_QuestionReader_fail .nil rfl (a_cons (d_var (pv 1)) (a_cons d_str a_nil))))) s_nil)
    (s_one (s_ret (d_var (pv 2))))))))))
set_option maxHeartbeats 8000000 in
theorem ok_QuestionReader_filter (T : Tx w K mg) {lv : Nat} (hlv : 5 ≤ lv) {F_QuestionReader_question : Fd} (G_QuestionReader_question : FnOk P w K mg base (L2.CX P w) lv T.f_QuestionReader_question T.d_QuestionReader_question ["self", "depth"] (spD K 2 F_QuestionReader_question)) (G_QuestionReader_fail : FnOk P w K mg base (L2.CX P w) 3 T.f_QuestionReader_fail T.d_QuestionReader_fail ["self", "place", "reason"] (spD K 3 (F_QuestionReader_fail T.C))) (G_QuestionReader_sign : FnOk P w K mg base (L2.CX P w) 1 T.f_QuestionReader_sign T.d_QuestionReader_sign ["self"] (spD K 1 (F_QuestionReader_sign T.C))) (G_QuestionReader_string : FnOk P w K mg base (L2.CX P w) 5 T.f_QuestionReader_string T.d_QuestionReader_string ["self"] (spD K 1 (F_QuestionReader_string T.C))) : FnOk P w K mg base (L2.CX P w) (lv + 1) T.f_QuestionReader_filter T.d_QuestionReader_filter ["self", "axis", "depth"] (spD K 3 (F_QuestionReader_filter T.C F_QuestionReader_question)) :=
  fnD_ok (k := lv) T.F_QuestionReader_filter sc_QuestionReader_filter fun cdv A outer s H E hr => by
    have tk : Takes (cxOf (L2.CX P w) P w K mg base N_QuestionReader_filter "QuestionReader.filter" (defScope s_QuestionReader_filter) T.f_QuestionReader_filter cdv A outer s H E) (WofE E) := takes_of rfl rfl rfl rfl
    exact (s_cons (s_set (i := 3) sc_QuestionReader_filter.nd rfl (by first | exact Or.inl rfl | exact Or.inr rfl) (d_methD0 (L := [0]) (Ln := []) (dvs := []) tk (d_var (pv 0)) T.c_QuestionReader T.me_QuestionReader_sign G_QuestionReader_sign (hr.mono (by omega)) T.bd_QuestionReader_sign .nil rfl))
    (s_cons (s_if (t_cmp (op_eqB hr.units) eqB_ok (d_var (pv 3)) d_str (nomark _)) (s_one (s_ret (d_tup (a_cons d_str (a_cons (d_methD (L := [0]) (Ln := []) (dvs := []) tk (d_var (pv 0)) T.c_QuestionReader T.me_QuestionReader_question G_QuestionReader_question (hr.mono (by omega)) T.bd_QuestionReader_question .nil rfl (a_cons (d_op op_addD addD_ok (d_var (pv 2)) d_int) a_nil)) a_nil))))) s_nil)
    (s_cons (s_if (t_cmp (op_eqB hr.units) eqB_ok (d_var (pv 3)) d_str (nomark _)) (s_one (s_ret (d_tup (a_cons d_str (a_cons (d_methD0 (L := [0]) (Ln := []) (dvs := []) tk (d_var (pv 0)) T.c_QuestionReader T.me_QuestionReader_string G_QuestionReader_string (hr.mono (by omega)) T.bd_QuestionReader_string .nil rfl) a_nil))))) s_nil)
    (s_cons (s_if (PW.pt (w_or (t_cmp (op_eqB hr.units) eqB_ok (d_var (pv 3)) d_str (nomark _)) (w_or1 (t_cmp op_notInB notInB_ok (d_var (pv 3)) d_str (by rfl))))) (s_one (s_expr (d_methD (L := [0]) (Ln := []) (dvs := []) tk (d_var (pv 0)) T.c_QuestionReader T.me_QuestionReader_fail G_QuestionReader_fail (hr.mono (by omega)) T.bd_QuestionReader_fail .nil rfl (a_cons (d_fld T.c_QuestionReader T.n_QuestionReader_at (d_var (pv 0))) (a_cons d_str a_nil))))) s_nil)
    (s_cons (s_set (i := 4) sc_QuestionReader_filter.nd rfl (by first | exact Or.inl rfl | exact Or.inr rfl) (d_fld T.c_QuestionReader T.n_QuestionReader_at (d_var (pv 0))))
    (s_cons (s_while (fuel := (fun _ => 1000000)) (fg := []) (passes_of rfl) (PW.pt (w_and (t_cmp (op_neB hr.units) neB_ok (d_methD0 (L := [0]) (Ln := []) (dvs := []) tk (d_var (pv 0)) T.c_QuestionReader T.me_QuestionReader_sign G_QuestionReader_sign (hr.mono (by omega)) T.bd_QuestionReader_sign .nil rfl) d_str (nomark _)) (w_and1 (t_cmp op_inB inB_ok (d_methD0 (L := [0]) (Ln := []) (dvs := []) tk (d_var (pv 0)) T.c_QuestionReader T.me_QuestionReader_sign G_QuestionReader_sign (hr.mono (by omega)) T.bd_QuestionReader_sign .nil rfl) d_str (by rfl))))) (s_one (s_augF T.c_QuestionReader T.n_QuestionReader_at (d_var (pv 0)) d_int iop_add addI_ok)))
    (s_cons (s_set (i := 5) sc_QuestionReader_filter.nd rfl (by first | exact Or.inl rfl | exact Or.inr rfl) (d_sl (d_fld T.c_QuestionReader T.n_QuestionReader_text (d_var (pv 0))) (o_some (d_var (pv 4))) (o_some (d_fld T.c_QuestionReader T.n_QuestionReader_at (d_var (pv 0))))))
    (s_cons (s_if (PW.pt (w_or (t_cmp (op_eqB hr.units) eqB_ok (d_var (pv 1)) d_str (nomark _)) (w_or (t_cmp op_gt (cmpB_ok _) (d_callB call_lenA kLen_ok (by rfl) T.b_len (by decide +kernel) (a_cons (d_var (pv 5)) a_nil)) d_int (nomark _)) (w_or1 (t_cmp op_gt (cmpB_ok _) (d_callT call_intS kIntS_ok (by rfl) T.b_int (by decide +kernel) (a_cons (d_var (pv 5)) a_nil)) (d_c (v := .int 5000) (pe_glob rfl T.g_MOST_PLACE ⟨_, rfl⟩) fun _ => .int _) (nomark _)))))) (s_one (s_expr (d_methD (L := [0]) (Ln := []) (dvs := []) tk (d_var (pv 0)) T.c_QuestionReader T.me_QuestionReader_fail G_QuestionReader_fail (hr.mono (by omega)) T.bd_QuestionReader_fail .nil rfl (a_cons (d_var (pv 4)) (a_cons d_str a_nil))))) s_nil)
    (s_one (s_ret (d_tup (a_cons d_str (a_cons (d_callT call_intS kIntS_ok (by rfl) T.b_int (by decide +kernel) (a_cons (d_var (pv 5)) a_nil)) a_nil)))))))))))))
set_option maxHeartbeats 8000000 in
theorem ok_QuestionReader_step (T : Tx w K mg) {lv : Nat} (hlv : 4 ≤ lv) {F_QuestionReader_question : Fd} (G_QuestionReader_fail : FnOk P w K mg base (L2.CX P w) 3 T.f_QuestionReader_fail T.d_QuestionReader_fail ["self", "place", "reason"] (spD K 3 (F_QuestionReader_fail T.C))) (G_QuestionReader_filter : FnOk P w K mg base (L2.CX P w) (lv + 1) T.f_QuestionReader_filter T.d_QuestionReader_filter ["self", "axis", "depth"] (spD K 3 (F_QuestionReader_filter T.C F_QuestionReader_question))) (G_QuestionReader_sign : FnOk P w K mg base (L2.CX P w) 1 T.f_QuestionReader_sign T.d_QuestionReader_sign ["self"] (spD K 1 (F_QuestionReader_sign T.C))) (G_QuestionReader_test : FnOk P w K mg base (L2.CX P w) 4 T.f_QuestionReader_test T.d_QuestionReader_test ["self"] (spD K 1 (F_QuestionReader_test T.C))) : FnOk P w K mg base (L2.CX P w) (lv + 2) T.f_QuestionReader_step T.d_QuestionReader_step ["self", "depth"] (spD K 2 (F_QuestionReader_step T.C F_QuestionReader_question)) :=
  fnD_ok (k := lv + 1) T.F_QuestionReader_step sc_QuestionReader_step fun cdv A outer s H E hr => by
    have tk : Takes (cxOf (L2.CX P w) P w K mg base N_QuestionReader_step "QuestionReader.step" (defScope s_QuestionReader_step) T.f_QuestionReader_step cdv A outer s H E) (WofE E) := takes_of rfl rfl rfl rfl
    exact (s_cons (s_augF T.c_QuestionReader T.n_QuestionReader_at (d_var (pv 0)) d_int iop_add addI_ok)
    (s_cons (s_set (i := 2) sc_QuestionReader_step.nd rfl (by first | exact Or.inl rfl | exact Or.inr rfl) d_str)
    (s_cons (s_if (t_cmp (op_eqB hr.units) eqB_ok (d_methD0 (L := [0]) (Ln := []) (dvs := []) tk (d_var (pv 0)) T.c_QuestionReader T.me_QuestionReader_sign G_QuestionReader_sign (hr.mono (by omega)) T.bd_QuestionReader_sign .nil rfl) d_str (nomark _)) (s_cons (s_set (i := 2) sc_QuestionReader_step.nd rfl (by first | exact Or.inl rfl | exact Or.inr rfl) d_str)
    (s_one (s_augF T.c_QuestionReader T.n_QuestionReader_at (d_var (pv 0)) d_int iop_add addI_ok))) s_nil)
    (s_cons (s_set (i := 3) sc_QuestionReader_step.nd rfl (by first | exact Or.inl rfl | exact Or.inr rfl) (d_methD0 (L := [0]) (Ln := []) (dvs := []) tk (d_var (pv 0)) T.c_QuestionReader T.me_QuestionReader_test G_QuestionReader_test (hr.mono (by omega)) T.bd_QuestionReader_test .nil rfl))
    (s_cons (s_set (i := 4) sc_QuestionReader_step.nd rfl (by first | exact Or.inl rfl | exact Or.inr rfl) (d_list (keep := some 1) a_nil))
    (s_cons (s_then (k := 1) (s_while (fuel := (fun _ => 1000000)) (fg := []) (passes_of rfl) (t_cmp (op_eqB hr.units) eqB_ok (d_methD0 (L := [0]) (Ln := []) (dvs := []) tk (d_var (pv 0)) T.c_QuestionReader T.me_QuestionReader_sign G_QuestionReader_sign (hr.mono (by omega)) T.bd_QuestionReader_sign .nil rfl) d_str (nomark _)) (s_cons (s_augF T.c_QuestionReader T.n_QuestionReader_at (d_var (pv 0)) d_int iop_add addI_ok)
    (s_cons (s_expr (d_meth PySem.F.plainAttrs_list PySem.F.slot_list_append PySem.F.type_list_append mt_append isLst_ok kAppend_ok (d_var (pv 4)) (a_cons (d_methD (L := [0]) (Ln := []) (dvs := []) tk (d_var (pv 0)) T.c_QuestionReader T.me_QuestionReader_filter G_QuestionReader_filter (hr.mono (by omega)) T.bd_QuestionReader_filter .nil rfl (a_cons (d_var (pv 2)) (a_cons (d_var (pv 1)) a_nil))) a_nil)))
    (s_cons (s_if (t_cmp (op_neB hr.units) neB_ok (d_methD0 (L := [0]) (Ln := []) (dvs := []) tk (d_var (pv 0)) T.c_QuestionReader T.me_QuestionReader_sign G_QuestionReader_sign (hr.mono (by omega)) T.bd_QuestionReader_sign .nil rfl) d_str (nomark _)) (s_one (s_expr (d_methD (L := [0]) (Ln := []) (dvs := []) tk (d_var (pv 0)) T.c_QuestionReader T.me_QuestionReader_fail G_QuestionReader_fail (hr.mono (by omega)) T.bd_QuestionReader_fail .nil rfl (a_cons (d_fld T.c_QuestionReader T.n_QuestionReader_at (d_var (pv 0))) (a_cons d_str a_nil))))) s_nil)
    (s_one (s_augF T.c_QuestionReader T.n_QuestionReader_at (d_var (pv 0)) d_int iop_add addI_ok)))))))
    (s_one (s_ret (d_tup (a_cons (d_var (pv 2)) (a_cons (d_var (pv 3)) (a_cons (d_var (pv 4)) a_nil))))))))))))
set_option maxHeartbeats 8000000 in
theorem ok_QuestionReader_question (T : Tx w K mg) {lv : Nat} (hlv : 3 ≤ lv) {F_QuestionReader_question : Fd} (G_QuestionReader_fail : FnOk P w K mg base (L2.CX P w) 3 T.f_QuestionReader_fail T.d_QuestionReader_fail ["self", "place", "reason"] (spD K 3 (F_QuestionReader_fail T.C))) (G_QuestionReader_sign : FnOk P w K mg base (L2.CX P w) 1 T.f_QuestionReader_sign T.d_QuestionReader_sign ["self"] (spD K 1 (F_QuestionReader_sign T.C))) (G_QuestionReader_step : FnOk P w K mg base (L2.CX P w) (lv + 2) T.f_QuestionReader_step T.d_QuestionReader_step ["self", "depth"] (spD K 2 (F_QuestionReader_step T.C F_QuestionReader_question))) : FnOk P w K mg base (L2.CX P w) (lv + 3) T.f_QuestionReader_question T.d_QuestionReader_question ["self", "depth"] (spD K 2 (mkF 3 2 1 (fb_QuestionReader_question T.C F_QuestionReader_question))) :=
  fnD_ok (k := lv + 2) T.F_QuestionReader_question sc_QuestionReader_question fun cdv A outer s H E hr => by
    have tk : Takes (cxOf (L2.CX P w) P w K mg base N_QuestionReader_question "QuestionReader.question" (defScope s_QuestionReader_question) T.f_QuestionReader_question cdv A outer s H E) (WofE E) := takes_of rfl rfl rfl rfl
    exact (s_cons (s_if (t_cmp (op_neB hr.units) neB_ok (d_methD0 (L := [0]) (Ln := []) (dvs := []) tk (d_var (pv 0)) T.c_QuestionReader T.me_QuestionReader_sign G_QuestionReader_sign (hr.mono (by omega)) T.bd_QuestionReader_sign .nil rfl) d_str (nomark _)) (s_one (s_expr (d_methD (L := [0]) (Ln := []) (dvs := []) tk (d_var (pv 0)) T.c_QuestionReader T.me_QuestionReader_fail G_QuestionReader_fail (hr.mono (by omega)) T.bd_QuestionReader_fail .nil rfl (a_cons (d_fld T.c_QuestionReader T.n_QuestionReader_at (d_var (pv 0))) (a_cons d_str a_nil))))) s_nil)
    (s_cons (s_if (PW.pt (w_and (t_cmp op_ltB ltB_ok (d_fld T.c_QuestionReader T.n_QuestionReader_steps (d_var (pv 0))) (d_c (v := .int 12) (pe_glob rfl T.g_MOST_STEPS ⟨_, rfl⟩) fun _ => .int _) (nomark _)) (w_and1 (t_cmp op_gt (cmpB_ok _) (d_var (pv 1)) (d_c (v := .int 3) (pe_glob rfl T.g_MOST_DEPTH ⟨_, rfl⟩) fun _ => .int _) (nomark _))))) (s_one (s_expr (d_methD (L := [0]) (Ln := []) (dvs := []) tk (d_var (pv 0)) T.c_QuestionReader T.me_QuestionReader_fail G_QuestionReader_fail (hr.mono (by omega)) T.bd_QuestionReader_fail .nil rfl (a_cons (d_fld T.c_QuestionReader T.n_QuestionReader_at (d_var (pv 0))) (a_cons d_str a_nil))))) s_nil)
    (s_cons (s_set (i := 2) sc_QuestionReader_question.nd rfl (by first | exact Or.inl rfl | exact Or.inr rfl) (d_list (keep := some 1) a_nil))
    (s_cons (s_then (k := 1) (s_while (fuel := (fun _ => 1000000)) (fg := []) (passes_of rfl) (t_cmp (op_eqB hr.units) eqB_ok (d_methD0 (L := [0]) (Ln := []) (dvs := []) tk (d_var (pv 0)) T.c_QuestionReader T.me_QuestionReader_sign G_QuestionReader_sign (hr.mono (by omega)) T.bd_QuestionReader_sign .nil rfl) d_str (nomark _)) (s_cons (s_if (t_cmp (op_eqB hr.units) eqB_ok (d_fld T.c_QuestionReader T.n_QuestionReader_steps (d_var (pv 0))) (d_c (v := .int 12) (pe_glob rfl T.g_MOST_STEPS ⟨_, rfl⟩) fun _ => .int _) (nomark _)) (s_one (s_expr (d_methD (L := [0]) (Ln := []) (dvs := []) tk (d_var (pv 0)) T.c_QuestionReader T.me_QuestionReader_fail G_QuestionReader_fail (hr.mono (by omega)) T.bd_QuestionReader_fail .nil rfl (a_cons (d_fld T.c_QuestionReader T.n_QuestionReader_at (d_var (pv 0))) (a_cons d_str a_nil))))) s_nil)
    (s_cons (s_augF T.c_QuestionReader T.n_QuestionReader_steps (d_var (pv 0)) d_int iop_add addI_ok)
    (s_one (s_expr (d_meth PySem.F.plainAttrs_list PySem.F.slot_list_append PySem.F.type_list_append mt_append isLst_ok kAppend_ok (d_var (pv 2)) (a_cons (d_methD (L := [0]) (Ln := []) (dvs := []) tk (d_var (pv 0)) T.c_QuestionReader T.me_QuestionReader_step G_QuestionReader_step (hr.mono (by omega)) T.bd_QuestionReader_step .nil rfl (a_cons (d_var (pv 1)) a_nil)) a_nil))))))))
    (s_one (s_ret (d_var (pv 2))))))))
set_option maxHeartbeats 8000000 in
theorem ok_read_question (T : Tx w K mg) (G_QuestionReader_init : FnOk P w K mg base (L2.CX P w) 1 T.f_QuestionReader_init T.d_QuestionReader_init ["self", "text"] (spD K 2 (F_QuestionReader_init T.C))) (G_QuestionReader_fail : FnOk P w K mg base (L2.CX P w) 3 T.f_QuestionReader_fail T.d_QuestionReader_fail ["self", "place", "reason"] (spD K 3 (F_QuestionReader_fail T.C))) (G_QuestionReader_question : FnOk P w K mg base (L2.CX P w) 23 T.f_QuestionReader_question T.d_QuestionReader_question ["self", "depth"] (spD K 2 (F_QuestionReader_question T.C 6))) : FnOk P w K mg base (L2.CX P w) 24 T.f_read_question T.d_read_question ["text"] (spD K 1 (mkF 3 1 0 (fb_read_question T.C))) :=
  fnD_ok (k := 23) T.F_read_question sc_read_question fun cdv A outer s H E hr => by
    have tk : Takes (cxOf (L2.CX P w) P w K mg base N_read_question "read_question" (defScope s_read_question) T.f_read_question cdv A outer s H E) (WofE E) := takes_of rfl rfl rfl rfl
    exact (s_cons (s_set (i := 1) sc_read_question.nd rfl (by first | exact Or.inl rfl | exact Or.inr rfl) (d_make (kr := 0) (L := []) (Ln := []) (keep := true) (dvs := []) tk T.mk_QuestionReader G_QuestionReader_init (hr.mono (by decide)) (by rfl) T.g_QuestionReader T.bd_QuestionReader_init .nil rfl (a_cons (d_var (pv 0)) a_nil)))
    (s_cons (s_set (i := 2) sc_read_question.nd rfl (by first | exact Or.inl rfl | exact Or.inr rfl) (d_methD (L := [0]) (Ln := []) (dvs := []) tk (d_var (pv 1)) T.c_QuestionReader T.me_QuestionReader_question G_QuestionReader_question (hr.mono (by decide)) T.bd_QuestionReader_question .nil rfl (a_cons d_int a_nil)))
    (s_cons (s_then (k := 0) (s_if (t_cmp op_ltB ltB_ok (d_fld T.c_QuestionReader T.n_QuestionReader_at (d_var (pv 1))) (d_callB call_lenA kLen_ok (by rfl) T.b_len (by decide +kernel) (a_cons (d_var (pv 0)) a_nil)) (nomark _)) (s_one (s_expr (d_methD (L := [0]) (Ln := []) (dvs := []) tk (d_var (pv 1)) T.c_QuestionReader T.me_QuestionReader_fail G_QuestionReader_fail (hr.mono (by decide)) T.bd_QuestionReader_fail .nil rfl (a_cons (d_fld T.c_QuestionReader T.n_QuestionReader_at (d_var (pv 1))) (a_cons d_str a_nil))))) s_nil))
    (s_one (s_ret (d_var (pv 2)))))))
set_option maxHeartbeats 8000000 in
theorem ok_is_name_questions (T : Tx w K mg) : FnOk P w K mg base (L2.CX P w) 1 T.f_is_name_questions T.d_is_name_questions ["text"] (spD K 1 (mkF 2 1 0 (fb_is_name_questions T.C))) :=
  fnD_ok (k := 0) T.F_is_name_questions sc_is_name_questions fun cdv A outer s H E hr => by
    have tk : Takes (cxOf (L2.CX P w) P w K mg base N_is_name_questions "is_name" (defScope s_is_name_questions) T.f_is_name_questions cdv A outer s H E) (WofE E) := takes_of rfl rfl rfl rfl
    exact (s_one (s_ret (d_and (d_chain op_le op_le (cmpB_ok _) (cmpB_ok _) d_int (d_callB call_lenA kLen_ok (by rfl) T.b_len (by decide +kernel) (a_cons (d_var (pv 0)) a_nil)) d_int) (d_one (d_callB (cr_all rfl) kAll_ok (by rfl) T.b_all (by decide +kernel) (a_cons (d_lc (k := 0) (keep := false) (own := [("letter", 1)]) (by rfl) sc_is_name_questions.nd (i_str (d_var (pv 0))) (blkOk_by (own := [("letter", 1)]) (N := N_is_name_questions) (sc := defScope s_is_name_questions) (by decide +kernel)) (fun _ _ _ _ _ => (pg_name (i := 1) sc_is_name_questions.nd rfl (by first | exact Or.inl rfl | exact Or.inr rfl))) (tgName_ok 1) (by decide) (fun _ _ _ _ _ => ts_nil) (fun _ _ _ _ _ => (d_cmp op_inB (OpB.d inB_ok) (d_var (pv 1)) (d_c (v := .str "abcdefghijklmnopqrstuvwxyz") (pe_glob rfl T.g_LETTERS ⟨_, rfl⟩) fun _ => .str _) (by rfl)))) a_nil))))))
set_option maxHeartbeats 8000000 in
theorem ok_step_count (T : Tx w K mg) {lv : Nat} (hlv : 0 ≤ lv) {F_step_count : Fd} (G_step_count : FnOk P w K mg base (L2.CX P w) lv T.f_step_count T.d_step_count ["question"] (spD K 1 F_step_count)) : FnOk P w K mg base (L2.CX P w) (lv + 1) T.f_step_count T.d_step_count ["question"] (spD K 1 (mkF 6 0 0 (fb_step_count T.C F_step_count))) :=
  fnD_ok (k := lv) T.F_step_count sc_step_count fun cdv A outer s H E hr => by
    have tk : Takes (cxOf (L2.CX P w) P w K mg base N_step_count "step_count" (defScope s_step_count) T.f_step_count cdv A outer s H E) (WofE E) := takes_of rfl rfl rfl rfl
    exact (s_cons (s_set (i := 1) sc_step_count.nd rfl (by first | exact Or.inl rfl | exact Or.inr rfl) (d_callB call_lenA kLen_ok (by rfl) T.b_len (by decide +kernel) (a_cons (d_var (pv 0)) a_nil)))
    (s_cons (s_for (fg := [2, 3, 4, 5]) (passes_of rfl) (by rfl) (i_list (d_var (pv 0))) (pg_tup rfl (pgs_cons (pg_name (i := 2) sc_step_count.nd rfl (by first | exact Or.inl rfl | exact Or.inr rfl)) (pgs_cons (pg_name (i := 3) sc_step_count.nd rfl (by first | exact Or.inl rfl | exact Or.inr rfl)) (pgs_cons (pg_name (i := 4) sc_step_count.nd rfl (by first | exact Or.inl rfl | exact Or.inr rfl)) pgs_nil)))) (tgTup_ok rfl (tgs_cons (tgName_ok 2) (tgs_cons (tgName_ok 3) (tgs_cons (tgName_ok 4) tgs_nil)))) (s_cons (s_for (fg := [5]) (passes_of rfl) (by rfl) (i_list (d_var (pv 4))) (pg_name (i := 5) sc_step_count.nd rfl (by first | exact Or.inl rfl | exact Or.inr rfl)) (tgName_ok 5) (s_one (s_if (t_cmp (op_eqB hr.units) eqB_ok (d_ix (d_var (pv 5)) d_int (fun _ _ => rfl)) d_str (nomark _)) (s_one (s_aug (i := 1) sc_step_count.nd rfl (by first | exact Or.inl rfl | exact Or.inr rfl) (d_call (L := []) (Ln := []) (dvs := []) tk G_step_count hr (by rfl) T.m_step_count T.k_step_count T.bd_step_count .nil rfl (a_cons (d_ix (d_var (pv 5)) d_int (fun _ _ => rfl)) a_nil)) iop_add addI_ok)) s_nil))) s_nil))
    (s_one (s_ret (d_var (pv 1))))))
set_option maxHeartbeats 8000000 in
theorem ok_is_filter (T : Tx w K mg) {lv : Nat} (hlv : 1 ≤ lv) {F_has_form : Fd} (G_has_form : FnOk P w K mg base (L2.CX P w) lv T.f_has_form T.d_has_form ["question", "depth"] (spD K 2 F_has_form)) (G_is_sign : FnOk P w K mg base (L2.CX P w) 1 T.f_is_sign T.d_is_sign ["sign"] (spD K 1 (F_is_sign T.C))) : FnOk P w K mg base (L2.CX P w) (lv + 1) T.f_is_filter T.d_is_filter ["row", "axis", "depth"] (spD K 3 (F_is_filter T.C F_has_form)) :=
  fnD_ok (k := lv) T.F_is_filter sc_is_filter fun cdv A outer s H E hr => by
    have tk : Takes (cxOf (L2.CX P w) P w K mg base N_is_filter "is_filter" (defScope s_is_filter) T.f_is_filter cdv A outer s H E) (WofE E) := takes_of rfl rfl rfl rfl
    exact (s_cons (s_if (t_cmp (op_eqB hr.units) eqB_ok (d_ix (d_var (pv 0)) d_int (fun _ _ => rfl)) d_str (nomark _)) (s_one (s_ret (d_and (d_cmp (op_eqB hr.units) (OpB.d eqB_ok) (d_var (pv 1)) d_str (nomark _)) (d_one (d_chain op_le op_le (cmpB_ok _) (cmpB_ok _) d_int (d_ix (d_var (pv 0)) d_int (fun _ _ => rfl)) (d_c (v := .int 5000) (pe_glob rfl T.g_MOST_PLACE ⟨_, rfl⟩) fun _ => .int _)))))) s_nil)
    (s_cons (s_if (t_cmp (op_eqB hr.units) eqB_ok (d_ix (d_var (pv 0)) d_int (fun _ _ => rfl)) d_str (nomark _)) (s_one (s_ret (d_call (L := []) (Ln := []) (dvs := []) tk G_has_form (hr.mono (by omega)) (by rfl) T.m_has_form T.k_has_form T.bd_has_form .nil rfl (a_cons (d_ix (d_var (pv 0)) d_int (fun _ _ => rfl)) (a_cons (d_op op_addD addD_ok (d_var (pv 2)) d_int) a_nil))))) s_nil)
    (s_one (s_ret (d_and (d_cmp (op_eqB hr.units) (OpB.d eqB_ok) (d_ix (d_var (pv 0)) d_int (fun _ _ => rfl)) d_str (nomark _)) (d_and (d_chain op_le op_le (cmpB_ok _) (cmpB_ok _) d_int (d_callB call_lenA kLen_ok (by rfl) T.b_len (by decide +kernel) (a_cons (d_ix (d_var (pv 0)) d_int (fun _ _ => rfl)) a_nil)) (d_c (v := .int 40) (pe_glob rfl T.g_MOST_SIGNS ⟨_, rfl⟩) fun _ => .int _)) (d_one (d_callB (cr_all rfl) kAll_ok (by rfl) T.b_all (by decide +kernel) (a_cons (d_lc (k := 0) (keep := false) (own := [("sign", 3)]) (by rfl) sc_is_filter.nd (i_str (d_ix (d_var (pv 0)) d_int (fun _ _ => rfl))) (blkOk_by (own := [("sign", 3)]) (N := N_is_filter) (sc := defScope s_is_filter) (by decide +kernel)) (fun _ _ _ _ _ => (pg_name (i := 3) sc_is_filter.nd rfl (by first | exact Or.inl rfl | exact Or.inr rfl))) (tgName_ok 3) (by decide) (fun _ _ _ _ _ => ts_nil) (fun _ _ _ _ _ => (d_call (L := []) (Ln := []) (dvs := []) takes0 G_is_sign (hr.mono (by omega)) (by rfl) T.m_is_sign T.k_is_sign T.bd_is_sign .nil rfl (a_cons (d_var (pv 3)) a_nil)))) a_nil)))))))))
set_option maxHeartbeats 8000000 in
theorem ok_has_form (T : Tx w K mg) {lv : Nat} (hlv : 1 ≤ lv) {F_has_form : Fd} (G_is_filter : FnOk P w K mg base (L2.CX P w) (lv + 1) T.f_is_filter T.d_is_filter ["row", "axis", "depth"] (spD K 3 (F_is_filter T.C F_has_form))) (G_is_name_questions : FnOk P w K mg base (L2.CX P w) 1 T.f_is_name_questions T.d_is_name_questions ["text"] (spD K 1 (F_is_name_questions T.C))) : FnOk P w K mg base (L2.CX P w) (lv + 2) T.f_has_form T.d_has_form ["question", "depth"] (spD K 2 (mkF 6 1 0 (fb_has_form T.C F_has_form))) :=
  fnD_ok (k := lv + 1) T.F_has_form sc_has_form fun cdv A outer s H E hr => by
    have tk : Takes (cxOf (L2.CX P w) P w K mg base N_has_form "has_form" (defScope s_has_form) T.f_has_form cdv A outer s H E) (WofE E) := takes_of rfl rfl rfl rfl
    exact (s_cons (s_if (PW.pt (w_or (t_cmp (op_eqB hr.units) eqB_ok (d_callB call_lenA kLen_ok (by rfl) T.b_len (by decide +kernel) (a_cons (d_var (pv 0)) a_nil)) d_int (nomark _)) (w_or1 (t_cmp op_gt (cmpB_ok _) (d_var (pv 1)) (d_c (v := .int 3) (pe_glob rfl T.g_MOST_DEPTH ⟨_, rfl⟩) fun _ => .int _) (nomark _))))) (s_one (s_ret d_bl)) s_nil)
    (s_cons (s_for (fg := [2, 3, 4, 5]) (passes_of rfl) (by rfl) (i_list (d_var (pv 0))) (pg_tup rfl (pgs_cons (pg_name (i := 2) sc_has_form.nd rfl (by first | exact Or.inl rfl | exact Or.inr rfl)) (pgs_cons (pg_name (i := 3) sc_has_form.nd rfl (by first | exact Or.inl rfl | exact Or.inr rfl)) (pgs_cons (pg_name (i := 4) sc_has_form.nd rfl (by first | exact Or.inl rfl | exact Or.inr rfl)) pgs_nil)))) (tgTup_ok rfl (tgs_cons (tgName_ok 2) (tgs_cons (tgName_ok 3) (tgs_cons (tgName_ok 4) tgs_nil)))) (s_cons (s_if (PW.pt (w_or (t_cmp op_notInB notInB_ok (d_var (pv 2)) (d_tup (a_cons d_str (a_cons d_str a_nil))) (by rfl)) (w_or1 (PW.pt (w_and (t_cmp op_notInB notInB_ok (d_var (pv 3)) (d_tup (a_cons d_str (a_cons d_str a_nil))) (by rfl)) (w_and1 (t_not (t_truth (d_call (L := []) (Ln := []) (dvs := []) tk G_is_name_questions (hr.mono (by omega)) (by rfl) T.m_is_name_questions T.k_is_name_questions T.bd_is_name_questions .nil rfl (a_cons (d_var (pv 3)) a_nil)) (by intro _; rfl))))))))) (s_one (s_ret d_bl)) s_nil)
    (s_one (s_if (t_not (t_truth (d_callB (cr_all rfl) kAll_ok (by rfl) T.b_all (by decide +kernel) (a_cons (d_lc (k := 0) (keep := false) (own := [("row", 5)]) (by rfl) sc_has_form.nd (i_list (d_var (pv 4))) (blkOk_by (own := [("row", 5)]) (N := N_has_form) (sc := defScope s_has_form) (by decide +kernel)) (fun _ _ _ _ _ => (pg_name (i := 5) sc_has_form.nd rfl (by first | exact Or.inl rfl | exact Or.inr rfl))) (tgName_ok 5) (by decide) (fun _ _ _ _ _ => ts_nil) (fun _ _ _ _ _ => (d_call (L := []) (Ln := []) (dvs := []) takes0 G_is_filter (hr.mono (by omega)) (by rfl) T.m_is_filter T.k_is_filter T.bd_is_filter .nil rfl (a_cons (d_var (pv 5)) (a_cons (d_var (pv 2)) (a_cons (d_var (pv 1)) a_nil)))))) a_nil)) (by intro _; rfl))) (s_one (s_ret d_bl)) s_nil))))
    (s_one (s_ret d_bl))))
set_option maxHeartbeats 8000000 in
theorem ok_is_proper (T : Tx w K mg) (G_has_form : FnOk P w K mg base (L2.CX P w) 11 T.f_has_form T.d_has_form ["question", "depth"] (spD K 2 (F_has_form T.C 5))) (G_step_count : FnOk P w K mg base (L2.CX P w) 5 T.f_step_count T.d_step_count ["question"] (spD K 1 (F_step_count T.C 5))) : FnOk P w K mg base (L2.CX P w) 12 T.f_is_proper T.d_is_proper ["question"] (spD K 1 (mkF 1 0 0 (fb_is_proper T.C))) :=
  fnD_ok (k := 11) T.F_is_proper sc_is_proper fun cdv A outer s H E hr => by
    have tk : Takes (cxOf (L2.CX P w) P w K mg base N_is_proper "is_proper" (defScope s_is_proper) T.f_is_proper cdv A outer s H E) (WofE E) := takes_of rfl rfl rfl rfl
    exact (s_one (s_ret (d_and (d_call (L := []) (Ln := []) (dvs := []) tk G_has_form (hr.mono (by decide)) (by rfl) T.m_has_form T.k_has_form T.bd_has_form .nil rfl (a_cons (d_var (pv 0)) (a_cons d_int a_nil))) (d_one (d_cmp op_le (OpB.d (cmpB_ok _)) (d_call (L := []) (Ln := []) (dvs := []) tk G_step_count (hr.mono (by decide)) (by rfl) T.m_step_count T.k_step_count T.bd_step_count .nil rfl (a_cons (d_var (pv 0)) a_nil)) (d_c (v := .int 12) (pe_glob rfl T.g_MOST_STEPS ⟨_, rfl⟩) fun _ => .int _) (nomark _))))))
set_option maxHeartbeats 8000000 in
theorem ok_written_string (T : Tx w K mg) : FnOk P w K mg base (L2.CX P w) 1 T.f_written_string T.d_written_string ["string"] (spD K 1 (mkF 2 0 0 (fb_written_string T.C))) :=
  fnDT_ok (k := 0) T.F_written_string sc_written_string (by decide +kernel) (by decide) fun cdv A outer s H E hr => by
    have tk : Takes (cxOf (L2.CX P w) P w K mg base N_written_string "written_string" (defScope s_written_string) T.f_written_string cdv A outer s H E) (WofE E) := takes_of rfl rfl rfl rfl
    exact (st_cons (st_set (i := 1) sc_written_string.nd rfl (by first | exact Or.inl rfl | exact Or.inr rfl) (dt_replT (dt_replT (dt_repl (d_var (pv 0))))))
    (st_of (s_one (s_ret (d_fmt3 (d_var (pv 1)))))))
set_option maxHeartbeats 8000000 in
theorem ok_write_question (T : Tx w K mg) {lv : Nat} (hlv : 1 ≤ lv) {F_write_question : Fd} (G_write_question : FnOk P w K mg base (L2.CX P w) lv T.f_write_question T.d_write_question ["question"] (spD K 1 F_write_question)) (G_written_string : FnOk P w K mg base (L2.CX P w) 1 T.f_written_string T.d_written_string ["string"] (spD K 1 (F_written_string T.C))) : FnOk P w K mg base (L2.CX P w) (lv + 1) T.f_write_question T.d_write_question ["question"] (spD K 1 (mkF 7 0 0 (fb_write_question T.C F_write_question))) :=
  fnD_ok (k := lv) T.F_write_question sc_write_question fun cdv A outer s H E hr => by
    have tk : Takes (cxOf (L2.CX P w) P w K mg base N_write_question "write_question" (defScope s_write_question) T.f_write_question cdv A outer s H E) (WofE E) := takes_of rfl rfl rfl rfl
    exact (s_cons (s_set (i := 1) sc_write_question.nd rfl (by first | exact Or.inl rfl | exact Or.inr rfl) d_str)
    (s_cons (s_for (fg := [2, 3, 4, 5, 6]) (passes_of rfl) (by rfl) (i_list (d_var (pv 0))) (pg_tup rfl (pgs_cons (pg_name (i := 2) sc_write_question.nd rfl (by first | exact Or.inl rfl | exact Or.inr rfl)) (pgs_cons (pg_name (i := 3) sc_write_question.nd rfl (by first | exact Or.inl rfl | exact Or.inr rfl)) (pgs_cons (pg_name (i := 4) sc_write_question.nd rfl (by first | exact Or.inl rfl | exact Or.inr rfl)) pgs_nil)))) (tgTup_ok rfl (tgs_cons (tgName_ok 2) (tgs_cons (tgName_ok 3) (tgs_cons (tgName_ok 4) tgs_nil)))) (s_cons (s_aug (i := 1) sc_write_question.nd rfl (by first | exact Or.inl rfl | exact Or.inr rfl) (d_op op_addD addD_ok (d_ifExp (t_cmp (op_eqB hr.units) eqB_ok (d_var (pv 2)) d_str (nomark _)) d_str d_str) (d_var (pv 3))) iop_addS addIS_ok)
    (s_cons (s_for (fg := [5, 6]) (passes_of rfl) (by rfl) (i_list (d_var (pv 4))) (pg_tup rfl (pgs_cons (pg_name (i := 5) sc_write_question.nd rfl (by first | exact Or.inl rfl | exact Or.inr rfl)) (pgs_cons (pg_name (i := 6) sc_write_question.nd rfl (by first | exact Or.inl rfl | exact Or.inr rfl)) pgs_nil))) (tgTup_ok rfl (tgs_cons (tgName_ok 5) (tgs_cons (tgName_ok 6) tgs_nil))) (s_one (s_if (t_cmp (op_eqB hr.units) eqB_ok (d_var (pv 5)) d_str (nomark _)) (s_one (s_aug (i := 1) sc_write_question.nd rfl (by first | exact Or.inl rfl | exact Or.inr rfl) (d_fmt3 (d_var (pv 6))) iop_addS addIS_ok)) (s_one (s_if (t_cmp (op_eqB hr.units) eqB_ok (d_var (pv 5)) d_str (nomark _)) (s_one (s_aug (i := 1) sc_write_question.nd rfl (by first | exact Or.inl rfl | exact Or.inr rfl) (d_fmt3 (d_call (L := []) (Ln := []) (dvs := []) tk G_write_question hr (by rfl) T.m_write_question T.k_write_question T.bd_write_question .nil rfl (a_cons (d_var (pv 6)) a_nil))) iop_addS addIS_ok)) (s_one (s_aug (i := 1) sc_write_question.nd rfl (by first | exact Or.inl rfl | exact Or.inr rfl) (d_fmt3 (d_call (L := []) (Ln := []) (dvs := []) tk G_written_string (hr.mono (by omega)) (by rfl) T.m_written_string T.k_written_string T.bd_written_string .nil rfl (a_cons (d_var (pv 6)) a_nil))) iop_addS addIS_ok))))))) s_nil)))
    (s_one (s_ret (d_var (pv 1))))))
set_option maxHeartbeats 8000000 in
theorem ok_law_mix (T : Tx w K mg) : FnOk P w K mg base (L2.CX P w) 1 T.f_law_mix T.d_law_mix ["_law_number", "_law_k"] (spD K 2 (mkF 2 0 0 (fb_law_mix T.C))) :=
  fnD_ok (k := 0) T.F_law_mix sc_law_mix fun cdv A outer s H E hr => by
    have tk : Takes (cxOf (L2.CX P w) P w K mg base N_law_mix "_law_mix" (defScope s_law_mix) T.f_law_mix cdv A outer s H E) (WofE E) := takes_of rfl rfl rfl rfl
    exact (s_one (s_ret (d_op op_modN modD_ok (d_op op_mulD mulD_ok (d_op op_modN modD_ok (d_callT call_int1 kInt_ok (by rfl) T.b_int (by decide +kernel) (a_cons (d_op op_mulD mulD_ok (d_op op_addD addD_ok (d_op op_addD addD_ok (d_op op_modN modD_ok (d_callT call_int1 kInt_ok (by rfl) T.b_int (by decide +kernel) (a_cons (d_var (pv 0)) a_nil)) d_int) (d_op op_mulD mulD_ok d_int (d_var (pv 1)))) d_int) d_int) a_nil)) d_int) d_int) d_int)))
set_option maxHeartbeats 8000000 in
theorem ok_law_numbers (T : Tx w K mg) (G_law_mix : FnOk P w K mg base (L2.CX P w) 1 T.f_law_mix T.d_law_mix ["_law_number", "_law_k"] (spD K 2 (F_law_mix T.C))) : FnOk P w K mg base (L2.CX P w) 2 T.f_law_numbers T.d_law_numbers ["_law_script", "_law_count_here"] (spD K 2 (mkF 7 1 1 (fb_law_numbers T.C))) :=
  fnD_ok (k := 1) T.F_law_numbers sc_law_numbers fun cdv A outer s H E hr => by
    have tk : Takes (cxOf (L2.CX P w) P w K mg base N_law_numbers "_law_numbers" (defScope s_law_numbers) T.f_law_numbers cdv A outer s H E) (WofE E) := takes_of rfl rfl rfl rfl
    exact (s_cons (s_set (i := 2) sc_law_numbers.nd rfl (by first | exact Or.inl rfl | exact Or.inr rfl) (d_list (keep := some 0) a_nil))
    (s_cons (s_set (i := 3) sc_law_numbers.nd rfl (by first | exact Or.inl rfl | exact Or.inr rfl) d_int)
    (s_cons (s_for (fg := [4, 5, 6]) (passes_of rfl) (by rfl) (i_list (d_sl (d_var (pv 0)) o_none (o_some d_int))) (pg_name (i := 4) sc_law_numbers.nd rfl (by first | exact Or.inl rfl | exact Or.inr rfl)) (tgName_ok 4) (s_cons (s_set (i := 3) sc_law_numbers.nd rfl (by first | exact Or.inl rfl | exact Or.inr rfl) (d_op op_addD addD_ok (d_var (pv 3)) (d_var (pv 4))))
    (s_one (s_if (t_cmp op_ge (cmpB_ok _) (d_var (pv 4)) d_int (nomark _)) (s_cons (s_set (i := 5) sc_law_numbers.nd rfl (by first | exact Or.inl rfl | exact Or.inr rfl) (d_var (pv 4)))
    (s_cons (s_for (fg := [6]) (passes_of rfl) (by rfl) (i_range1 rfl T.b_range (a_cons d_int a_nil)) (pg_name (i := 6) sc_law_numbers.nd rfl (by first | exact Or.inl rfl | exact Or.inr rfl)) (tgName_ok 6) (s_cons (s_expr (d_meth PySem.F.plainAttrs_list PySem.F.slot_list_append PySem.F.type_list_append mt_append isLst_ok kAppend_ok (d_var (pv 2)) (a_cons (d_op op_modN modD_ok (d_callT call_int1 kInt_ok (by rfl) T.b_int (by decide +kernel) (a_cons (d_var (pv 5)) a_nil)) d_int) a_nil)))
    (s_cons (s_set (i := 5) sc_law_numbers.nd rfl (by first | exact Or.inl rfl | exact Or.inr rfl) (d_op op_fdivN fdivD_ok (d_var (pv 5)) d_int))
    (s_one (s_if (t_cmp (op_eqB hr.units) eqB_ok (d_var (pv 5)) d_int (nomark _)) (s_one s_break) s_nil))))) s_nil)) (s_one (s_expr (d_meth PySem.F.plainAttrs_list PySem.F.slot_list_append PySem.F.type_list_append mt_append isLst_ok kAppend_ok (d_var (pv 2)) (a_cons (d_call (L := []) (Ln := []) (dvs := []) tk G_law_mix (hr.mono (by decide)) (by rfl) T.m_law_mix T.k_law_mix T.bd_law_mix .nil rfl (a_cons (d_call (L := []) (Ln := []) (dvs := []) tk G_law_mix (hr.mono (by decide)) (by rfl) T.m_law_mix T.k_law_mix T.bd_law_mix .nil rfl (a_cons (d_var (pv 4)) (a_cons d_int a_nil))) (a_cons d_int a_nil))) a_nil))))))))
    (s_cons (s_for (fg := [6]) (passes_of rfl) (by rfl) (i_range1 rfl T.b_range (a_cons (d_var (pv 1)) a_nil)) (pg_name (i := 6) sc_law_numbers.nd rfl (by first | exact Or.inl rfl | exact Or.inr rfl)) (tgName_ok 6) (s_one (s_expr (d_meth PySem.F.plainAttrs_list PySem.F.slot_list_append PySem.F.type_list_append mt_append isLst_ok kAppend_ok (d_var (pv 2)) (a_cons (d_call (L := []) (Ln := []) (dvs := []) tk G_law_mix (hr.mono (by decide)) (by rfl) T.m_law_mix T.k_law_mix T.bd_law_mix .nil rfl (a_cons (d_call (L := []) (Ln := []) (dvs := []) tk G_law_mix (hr.mono (by decide)) (by rfl) T.m_law_mix T.k_law_mix T.bd_law_mix .nil rfl (a_cons (d_op op_addD addD_ok (d_var (pv 3)) (d_op op_mulD mulD_ok d_int (d_var (pv 6)))) (a_cons (d_op op_addD addD_ok d_int (d_var (pv 6))) a_nil))) (a_cons d_int a_nil))) a_nil)))))
    (s_cons (s_expr (d_meth0 PySem.F.plainAttrs_list PySem.F.slot_list_reverse PySem.F.type_list_reverse mt_reverse isLst_ok kReverse_ok (d_var (pv 2))))
    (s_one (s_ret (d_var (pv 2)))))))))
set_option maxHeartbeats 8000000 in
theorem ok_law_take_k35 (T : Tx w K mg) : FnOk P w K mg base (L2.CX P w) 1 T.f_law_take_k35 T.d_law_take_k35 ["_law_row", "_law_bound"] (spD K 2 (mkF 2 1 1 (fb_law_take_k35 T.C))) :=
  fnD_ok (k := 0) T.F_law_take_k35 sc_law_take_k35 fun cdv A outer s H E hr => by
    have tk : Takes (cxOf (L2.CX P w) P w K mg base N_law_take_k35 "_law_take" (defScope s_law_take_k35) T.f_law_take_k35 cdv A outer s H E) (WofE E) := takes_of rfl rfl rfl rfl
    exact (s_cons (s_if (t_not (t_truth (d_var (pv 0)) (by intro _; rfl))) (s_one (s_ret d_int)) s_nil)
    (s_one (s_ret (d_op op_modN modD_ok (d_callT call_int1 kInt_ok (by rfl) T.b_int (by decide +kernel) (a_cons (d_meth0 PySem.F.plainAttrs_list PySem.F.slot_list_pop PySem.F.type_list_pop mt_pop isLst_ok kPop_ok (d_var (pv 0))) a_nil)) (d_var (pv 1))))))
set_option maxHeartbeats 8000000 in
theorem ok_law_filter (T : Tx w K mg) {lv : Nat} (hlv : 1 ≤ lv) {F_law_question : Fd} (G_law_question : FnOk P w K mg base (L2.CX P w) lv T.f_law_question T.d_law_question ["_law_row", "_law_depth"] (spD K 2 F_law_question)) (G_law_take_k35 : FnOk P w K mg base (L2.CX P w) 1 T.f_law_take_k35 T.d_law_take_k35 ["_law_row", "_law_bound"] (spD K 2 (F_law_take_k35 T.C))) : FnOk P w K mg base (L2.CX P w) (lv + 1) T.f_law_filter T.d_law_filter ["_law_row", "_law_axis", "_law_depth"] (spD K 3 (F_law_filter T.C F_law_question)) :=
  fnD_ok (k := lv) T.F_law_filter sc_law_filter fun cdv A outer s H E hr => by
    have tk : Takes (cxOf (L2.CX P w) P w K mg base N_law_filter "_law_filter" (defScope s_law_filter) T.f_law_filter cdv A outer s H E) (WofE E) := takes_of rfl rfl rfl rfl
    exact (s_cons (s_set (i := 3) sc_law_filter.nd rfl (by first | exact Or.inl rfl | exact Or.inr rfl) (d_call (L := [0]) (Ln := []) (dvs := []) tk G_law_take_k35 (hr.mono (by omega)) (by rfl) T.m_law_take_k35 T.k_law_take_k35 T.bd_law_take_k35 .nil rfl (a_cons (d_var (pv 0)) (a_cons d_int a_nil))))
    (s_cons (s_if (PW.pt (w_and (t_cmp (op_eqB hr.units) eqB_ok (d_var (pv 3)) d_int (nomark _)) (w_and1 (t_cmp (op_eqB hr.units) eqB_ok (d_var (pv 1)) d_str (nomark _))))) (s_one (s_ret (d_tup (a_cons d_str (a_cons (d_op op_addD addD_ok d_int (d_call (L := [0]) (Ln := []) (dvs := []) tk G_law_take_k35 (hr.mono (by omega)) (by rfl) T.m_law_take_k35 T.k_law_take_k35 T.bd_law_take_k35 .nil rfl (a_cons (d_var (pv 0)) (a_cons d_int a_nil)))) a_nil))))) s_nil)
    (s_cons (s_if (PW.pt (w_and (t_cmp (op_eqB hr.units) eqB_ok (d_var (pv 3)) d_int (nomark _)) (w_and1 (t_cmp op_gt (cmpB_ok _) (d_var (pv 2)) d_int (nomark _))))) (s_one (s_ret (d_tup (a_cons d_str (a_cons (d_call (L := [0]) (Ln := []) (dvs := []) tk G_law_question (hr.mono (by omega)) (by rfl) T.m_law_question T.k_law_question T.bd_law_question .nil rfl (a_cons (d_var (pv 0)) (a_cons (d_op op_sub subD_ok (d_var (pv 2)) d_int) a_nil))) a_nil))))) s_nil)
    (s_one (s_ret (d_tup (a_cons d_str (a_cons (d_ix (d_list (keep := none) (a_cons d_str (a_cons d_str (a_cons d_str (a_cons d_str a_nil))))) (d_call (L := [0]) (Ln := []) (dvs := []) tk G_law_take_k35 (hr.mono (by omega)) (by rfl) T.m_law_take_k35 T.k_law_take_k35 T.bd_law_take_k35 .nil rfl (a_cons (d_var (pv 0)) (a_cons d_int a_nil))) (fun _ _ => rfl)) a_nil))))))))
set_option maxHeartbeats 8000000 in
theorem ok_law_step (T : Tx w K mg) {lv : Nat} (hlv : 1 ≤ lv) {F_law_question : Fd} (G_law_filter : FnOk P w K mg base (L2.CX P w) (lv + 1) T.f_law_filter T.d_law_filter ["_law_row", "_law_axis", "_law_depth"] (spD K 3 (F_law_filter T.C F_law_question))) (G_law_take_k35 : FnOk P w K mg base (L2.CX P w) 1 T.f_law_take_k35 T.d_law_take_k35 ["_law_row", "_law_bound"] (spD K 2 (F_law_take_k35 T.C))) : FnOk P w K mg base (L2.CX P w) (lv + 2) T.f_law_step T.d_law_step ["_law_row", "_law_depth"] (spD K 2 (F_law_step T.C F_law_question)) :=
  fnD_ok (k := lv + 1) T.F_law_step sc_law_step fun cdv A outer s H E hr => by
    have tk : Takes (cxOf (L2.CX P w) P w K mg base N_law_step "_law_step" (defScope s_law_step) T.f_law_step cdv A outer s H E) (WofE E) := takes_of rfl rfl rfl rfl
    exact (s_cons (s_set (i := 2) sc_law_step.nd rfl (by first | exact Or.inl rfl | exact Or.inr rfl) (d_ix (d_list (keep := none) (a_cons d_str (a_cons d_str a_nil))) (d_call (L := [0]) (Ln := []) (dvs := []) tk G_law_take_k35 (hr.mono (by omega)) (by rfl) T.m_law_take_k35 T.k_law_take_k35 T.bd_law_take_k35 .nil rfl (a_cons (d_var (pv 0)) (a_cons d_int a_nil))) (fun _ _ => rfl)))
    (s_cons (s_set (i := 3) sc_law_step.nd rfl (by first | exact Or.inl rfl | exact Or.inr rfl) (d_ix (d_list (keep := none) (a_cons d_str (a_cons d_str (a_cons d_str (a_cons d_str (a_cons d_str (a_cons d_str a_nil))))))) (d_call (L := [0]) (Ln := []) (dvs := []) tk G_law_take_k35 (hr.mono (by omega)) (by rfl) T.m_law_take_k35 T.k_law_take_k35 T.bd_law_take_k35 .nil rfl (a_cons (d_var (pv 0)) (a_cons d_int a_nil))) (fun _ _ => rfl)))
    (s_cons (s_setLc (k := 1) (keep := false) (own := [("_law_k", 5)]) (i := 4) (by rfl) sc_law_step.nd rfl rfl (sw_true rfl rfl rfl (by decide +kernel)) (i_range1 rfl T.b_range (a_cons (d_call (L := [0]) (Ln := []) (dvs := []) tk G_law_take_k35 (hr.mono (by omega)) (by rfl) T.m_law_take_k35 T.k_law_take_k35 T.bd_law_take_k35 .nil rfl (a_cons (d_var (pv 0)) (a_cons d_int a_nil))) a_nil)) (blkOk_by (own := [("_law_k", 5)]) (N := N_law_step) (sc := defScope s_law_step) (by decide +kernel)) (fun _ _ _ _ _ => (pg_name (i := 5) sc_law_step.nd rfl (by first | exact Or.inl rfl | exact Or.inr rfl))) (tgName_ok 5) (by decide) (fun _ _ _ _ _ => ts_nil) (fun _ _ _ _ _ => (d_call (L := [0]) (Ln := []) (dvs := []) takes0 G_law_filter (hr.mono (by omega)) (by rfl) T.m_law_filter T.k_law_filter T.bd_law_filter .nil rfl (a_cons (d_var (pv 0)) (a_cons (d_var (pv 2)) (a_cons (d_var (pv 1)) a_nil))))))
    (s_one (s_ret (d_tup (a_cons (d_var (pv 2)) (a_cons (d_var (pv 3)) (a_cons (d_var (pv 4)) a_nil)))))))))
set_option maxHeartbeats 8000000 in
theorem ok_law_question (T : Tx w K mg) {lv : Nat} (hlv : 1 ≤ lv) {F_law_question : Fd} (G_law_step : FnOk P w K mg base (L2.CX P w) (lv + 2) T.f_law_step T.d_law_step ["_law_row", "_law_depth"] (spD K 2 (F_law_step T.C F_law_question))) (G_law_take_k35 : FnOk P w K mg base (L2.CX P w) 1 T.f_law_take_k35 T.d_law_take_k35 ["_law_row", "_law_bound"] (spD K 2 (F_law_take_k35 T.C))) : FnOk P w K mg base (L2.CX P w) (lv + 3) T.f_law_question T.d_law_question ["_law_row", "_law_depth"] (spD K 2 (mkF 3 2 1 (fb_law_question T.C F_law_question))) :=
  fnD_ok (k := lv + 2) T.F_law_question sc_law_question fun cdv A outer s H E hr => by
    have tk : Takes (cxOf (L2.CX P w) P w K mg base N_law_question "_law_question" (defScope s_law_question) T.f_law_question cdv A outer s H E) (WofE E) := takes_of rfl rfl rfl rfl
    exact (s_one (s_ret (d_lc (k := 1) (keep := false) (own := [("_law_k", 2)]) (by rfl) sc_law_question.nd (i_range1 rfl T.b_range (a_cons (d_op op_addD addD_ok d_int (d_call (L := [0]) (Ln := []) (dvs := []) tk G_law_take_k35 (hr.mono (by omega)) (by rfl) T.m_law_take_k35 T.k_law_take_k35 T.bd_law_take_k35 .nil rfl (a_cons (d_var (pv 0)) (a_cons d_int a_nil)))) a_nil)) (blkOk_by (own := [("_law_k", 2)]) (N := N_law_question) (sc := defScope s_law_question) (by decide +kernel)) (fun _ _ _ _ _ => (pg_name (i := 2) sc_law_question.nd rfl (by first | exact Or.inl rfl | exact Or.inr rfl))) (tgName_ok 2) (by decide) (fun _ _ _ _ _ => ts_nil) (fun _ _ _ _ _ => (d_call (L := [0]) (Ln := []) (dvs := []) takes0 G_law_step (hr.mono (by omega)) (by rfl) T.m_law_step T.k_law_step T.bd_law_step .nil rfl (a_cons (d_var (pv 0)) (a_cons (d_var (pv 1)) a_nil)))))))
set_option maxHeartbeats 8000000 in
theorem ok_law_count (T : Tx w K mg) {lv : Nat} (hlv : 0 ≤ lv) {F_law_count : Fd} (G_law_count : FnOk P w K mg base (L2.CX P w) lv T.f_law_count T.d_law_count ["_law_question_here"] (spD K 1 F_law_count)) : FnOk P w K mg base (L2.CX P w) (lv + 1) T.f_law_count T.d_law_count ["_law_question_here"] (spD K 1 (mkF 6 0 0 (fb_law_count T.C F_law_count))) :=
  fnD_ok (k := lv) T.F_law_count sc_law_count fun cdv A outer s H E hr => by
    have tk : Takes (cxOf (L2.CX P w) P w K mg base N_law_count "_law_count" (defScope s_law_count) T.f_law_count cdv A outer s H E) (WofE E) := takes_of rfl rfl rfl rfl
    exact (s_cons (s_set (i := 1) sc_law_count.nd rfl (by first | exact Or.inl rfl | exact Or.inr rfl) (d_callB call_lenA kLen_ok (by rfl) T.b_len (by decide +kernel) (a_cons (d_var (pv 0)) a_nil)))
    (s_cons (s_for (fg := [2, 3, 4, 5]) (passes_of rfl) (by rfl) (i_list (d_var (pv 0))) (pg_tup rfl (pgs_cons (pg_name (i := 2) sc_law_count.nd rfl (by first | exact Or.inl rfl | exact Or.inr rfl)) (pgs_cons (pg_name (i := 3) sc_law_count.nd rfl (by first | exact Or.inl rfl | exact Or.inr rfl)) (pgs_cons (pg_name (i := 4) sc_law_count.nd rfl (by first | exact Or.inl rfl | exact Or.inr rfl)) pgs_nil)))) (tgTup_ok rfl (tgs_cons (tgName_ok 2) (tgs_cons (tgName_ok 3) (tgs_cons (tgName_ok 4) tgs_nil)))) (s_cons (s_for (fg := [5]) (passes_of rfl) (by rfl) (i_list (d_var (pv 4))) (pg_name (i := 5) sc_law_count.nd rfl (by first | exact Or.inl rfl | exact Or.inr rfl)) (tgName_ok 5) (s_one (s_if (t_cmp (op_eqB hr.units) eqB_ok (d_ix (d_var (pv 5)) d_int (fun _ _ => rfl)) d_str (nomark _)) (s_one (s_set (i := 1) sc_law_count.nd rfl (by first | exact Or.inl rfl | exact Or.inr rfl) (d_op op_addD addD_ok (d_var (pv 1)) (d_call (L := []) (Ln := []) (dvs := []) tk G_law_count hr (by rfl) T.m_law_count T.k_law_count T.bd_law_count .nil rfl (a_cons (d_ix (d_var (pv 5)) d_int (fun _ _ => rfl)) a_nil))))) s_nil))) s_nil))
    (s_one (s_ret (d_var (pv 1))))))
set_option maxHeartbeats 8000000 in
theorem ok_law_string_k35 (T : Tx w K mg) (G_law_take_k35 : FnOk P w K mg base (L2.CX P w) 1 T.f_law_take_k35 T.d_law_take_k35 ["_law_row", "_law_bound"] (spD K 2 (F_law_take_k35 T.C))) : FnOk P w K mg base (L2.CX P w) 2 T.f_law_string_k35 T.d_law_string_k35 ["_law_row"] (spD K 1 (mkF 3 1 1 (fb_law_string_k35 T.C))) :=
  fnD_ok (k := 1) T.F_law_string_k35 sc_law_string_k35 fun cdv A outer s H E hr => by
    have tk : Takes (cxOf (L2.CX P w) P w K mg base N_law_string_k35 "_law_string" (defScope s_law_string_k35) T.f_law_string_k35 cdv A outer s H E) (WofE E) := takes_of rfl rfl rfl rfl
    exact (s_cons (s_set (i := 1) sc_law_string_k35.nd rfl (by first | exact Or.inl rfl | exact Or.inr rfl) d_str)
    (s_cons (s_for (fg := [2]) (passes_of rfl) (by rfl) (i_range1 rfl T.b_range (a_cons (d_op op_addD addD_ok d_int (d_call (L := [0]) (Ln := []) (dvs := []) tk G_law_take_k35 (hr.mono (by decide)) (by rfl) T.m_law_take_k35 T.k_law_take_k35 T.bd_law_take_k35 .nil rfl (a_cons (d_var (pv 0)) (a_cons d_int a_nil)))) a_nil)) (pg_name (i := 2) sc_law_string_k35.nd rfl (by first | exact Or.inl rfl | exact Or.inr rfl)) (tgName_ok 2) (s_one (s_set (i := 1) sc_law_string_k35.nd rfl (by first | exact Or.inl rfl | exact Or.inr rfl) (d_op op_addD addD_ok (d_var (pv 1)) (d_ix (d_list (keep := none) (a_cons d_str (a_cons d_str (a_cons d_str (a_cons d_str (a_cons d_str (a_cons d_str (a_cons d_str (a_cons d_str a_nil))))))))) (d_call (L := [0]) (Ln := []) (dvs := []) tk G_law_take_k35 (hr.mono (by decide)) (by rfl) T.m_law_take_k35 T.k_law_take_k35 T.bd_law_take_k35 .nil rfl (a_cons (d_var (pv 0)) (a_cons d_int a_nil))) (fun _ _ => rfl))))))
    (s_one (s_ret (d_var (pv 1))))))
set_option maxHeartbeats 8000000 in
theorem ok_law_dressed (T : Tx w K mg) {lv : Nat} (hlv : 2 ≤ lv) {F_law_dressed : Fd} (G_law_dressed : FnOk P w K mg base (L2.CX P w) lv T.f_law_dressed T.d_law_dressed ["_law_row", "_law_question_here"] (spD K 2 F_law_dressed)) (G_law_string_k35 : FnOk P w K mg base (L2.CX P w) 2 T.f_law_string_k35 T.d_law_string_k35 ["_law_row"] (spD K 1 (F_law_string_k35 T.C))) (G_law_take_k35 : FnOk P w K mg base (L2.CX P w) 1 T.f_law_take_k35 T.d_law_take_k35 ["_law_row", "_law_bound"] (spD K 2 (F_law_take_k35 T.C))) : FnOk P w K mg base (L2.CX P w) (lv + 1) T.f_law_dressed T.d_law_dressed ["_law_row", "_law_question_here"] (spD K 2 (mkF 9 3 1 (fb_law_dressed T.C F_law_dressed))) :=
  fnD_ok (k := lv) T.F_law_dressed sc_law_dressed fun cdv A outer s H E hr => by
    have tk : Takes (cxOf (L2.CX P w) P w K mg base N_law_dressed "_law_dressed" (defScope s_law_dressed) T.f_law_dressed cdv A outer s H E) (WofE E) := takes_of rfl rfl rfl rfl
    exact (s_cons (s_set (i := 2) sc_law_dressed.nd rfl (by first | exact Or.inl rfl | exact Or.inr rfl) (d_list (keep := some 1) a_nil))
    (s_cons (s_then (k := 1) (s_for (fg := [3, 4, 5, 6, 7, 8]) (passes_of rfl) (by rfl) (i_list (d_var (pv 1))) (pg_tup rfl (pgs_cons (pg_name (i := 3) sc_law_dressed.nd rfl (by first | exact Or.inl rfl | exact Or.inr rfl)) (pgs_cons (pg_name (i := 4) sc_law_dressed.nd rfl (by first | exact Or.inl rfl | exact Or.inr rfl)) (pgs_cons (pg_name (i := 5) sc_law_dressed.nd rfl (by first | exact Or.inl rfl | exact Or.inr rfl)) pgs_nil)))) (tgTup_ok rfl (tgs_cons (tgName_ok 3) (tgs_cons (tgName_ok 4) (tgs_cons (tgName_ok 5) tgs_nil)))) (s_cons (s_set (i := 6) sc_law_dressed.nd rfl (by first | exact Or.inl rfl | exact Or.inr rfl) (d_list (keep := some 2) a_nil))
    (s_cons (s_then (k := 2) (s_for (fg := [7, 8]) (passes_of rfl) (by rfl) (i_list (d_var (pv 5))) (pg_tup rfl (pgs_cons (pg_name (i := 7) sc_law_dressed.nd rfl (by first | exact Or.inl rfl | exact Or.inr rfl)) (pgs_cons (pg_name (i := 8) sc_law_dressed.nd rfl (by first | exact Or.inl rfl | exact Or.inr rfl)) pgs_nil))) (tgTup_ok rfl (tgs_cons (tgName_ok 7) (tgs_cons (tgName_ok 8) tgs_nil))) (s_cons (s_if (PW.pt (w_and (t_cmp (op_eqB hr.units) eqB_ok (d_var (pv 7)) d_str (nomark _)) (w_and1 (t_cmp (op_eqB hr.units) eqB_ok (d_call (L := [0]) (Ln := []) (dvs := []) tk G_law_take_k35 (hr.mono (by omega)) (by rfl) T.m_law_take_k35 T.k_law_take_k35 T.bd_law_take_k35 .nil rfl (a_cons (d_var (pv 0)) (a_cons d_int a_nil))) d_int (nomark _))))) (s_one (s_set (i := 8) sc_law_dressed.nd rfl (by first | exact Or.inl rfl | exact Or.inr rfl) (d_call (L := [0]) (Ln := []) (dvs := []) tk G_law_string_k35 (hr.mono (by omega)) (by rfl) T.m_law_string_k35 T.k_law_string_k35 T.bd_law_string_k35 .nil rfl (a_cons (d_var (pv 0)) a_nil)))) s_nil)
    (s_cons (s_if (PW.pt (w_and (t_cmp (op_eqB hr.units) eqB_ok (d_var (pv 7)) d_str (nomark _)) (w_and1 (t_cmp (op_eqB hr.units) eqB_ok (d_call (L := [0]) (Ln := []) (dvs := []) tk G_law_take_k35 (hr.mono (by omega)) (by rfl) T.m_law_take_k35 T.k_law_take_k35 T.bd_law_take_k35 .nil rfl (a_cons (d_var (pv 0)) (a_cons d_int a_nil))) d_int (nomark _))))) (s_one (s_set (i := 8) sc_law_dressed.nd rfl (by first | exact Or.inl rfl | exact Or.inr rfl) (d_ix (d_list (keep := none) (a_cons d_int (a_cons d_int (a_cons d_int (a_cons d_int a_nil))))) (d_call (L := [0]) (Ln := []) (dvs := []) tk G_law_take_k35 (hr.mono (by omega)) (by rfl) T.m_law_take_k35 T.k_law_take_k35 T.bd_law_take_k35 .nil rfl (a_cons (d_var (pv 0)) (a_cons d_int a_nil))) (fun _ _ => rfl)))) s_nil)
    (s_cons (s_if (t_cmp (op_eqB hr.units) eqB_ok (d_var (pv 7)) d_str (nomark _)) (s_one (s_set (i := 8) sc_law_dressed.nd rfl (by first | exact Or.inl rfl | exact Or.inr rfl) (d_call (L := [0]) (Ln := []) (dvs := []) tk G_law_dressed hr (by rfl) T.m_law_dressed T.k_law_dressed T.bd_law_dressed .nil rfl (a_cons (d_var (pv 0)) (a_cons (d_var (pv 8)) a_nil))))) s_nil)
    (s_one (s_expr (d_meth PySem.F.plainAttrs_list PySem.F.slot_list_append PySem.F.type_list_append mt_append isLst_ok kAppend_ok (d_var (pv 6)) (a_cons (d_tup (a_cons (d_var (pv 7)) (a_cons (d_var (pv 8)) a_nil))) a_nil)))))))))
    (s_one (s_expr (d_meth PySem.F.plainAttrs_list PySem.F.slot_list_append PySem.F.type_list_append mt_append isLst_ok kAppend_ok (d_var (pv 2)) (a_cons (d_tup (a_cons (d_var (pv 3)) (a_cons (d_var (pv 4)) (a_cons (d_var (pv 6)) a_nil)))) a_nil))))))))
    (s_one (s_ret (d_var (pv 2))))))
set_option maxHeartbeats 8000000 in
theorem ok_law_quoted (T : Tx w K mg) : FnOk P w K mg base (L2.CX P w) 1 T.f_law_quoted T.d_law_quoted ["_law_string_here"] (spD K 1 (mkF 3 0 0 (fb_law_quoted T.C))) :=
  fnD_ok (k := 0) T.F_law_quoted sc_law_quoted fun cdv A outer s H E hr => by
    have tk : Takes (cxOf (L2.CX P w) P w K mg base N_law_quoted "_law_quoted" (defScope s_law_quoted) T.f_law_quoted cdv A outer s H E) (WofE E) := takes_of rfl rfl rfl rfl
    exact (s_cons (s_set (i := 1) sc_law_quoted.nd rfl (by first | exact Or.inl rfl | exact Or.inr rfl) d_str)
    (s_cons (s_for (fg := [2]) (passes_of rfl) (by rfl) (i_str (d_var (pv 0))) (pg_name (i := 2) sc_law_quoted.nd rfl (by first | exact Or.inl rfl | exact Or.inr rfl)) (tgName_ok 2) (s_one (s_set (i := 1) sc_law_quoted.nd rfl (by first | exact Or.inl rfl | exact Or.inr rfl) (d_op op_addD addD_ok (d_var (pv 1)) (d_dget2 hr.units (d_dicC (keep := none) (kvs := [(Sum.inr "\"", (.str "\\\"" : D)), (Sum.inr "\\", (.str "\\\\" : D)), (Sum.inr "\n", (.str "\\n" : D))]) (ws := [(Sum.inr "\"", (.str "\\\"" : V)), (Sum.inr "\\", (.str "\\\\" : V)), (Sum.inr "\n", (.str "\\n" : V))]) (pps_cons pe_str pe_str (pps_cons pe_str pe_str (pps_cons pe_str pe_str pps_nil))) rfl (fun _ _ => (.cons (.str _) (.cons (.str _) (.cons (.str _) .nil)))) (by decide)) (d_var (pv 2)) (d_var (pv 2)) ⟨rfl, by rfl, rfl, rfl⟩)))))
    (s_one (s_ret (d_op op_addD addD_ok (d_op op_addD addD_ok d_str (d_var (pv 1))) d_str)))))
set_option maxHeartbeats 8000000 in
theorem ok_law_written_k35 (T : Tx w K mg) {lv : Nat} (hlv : 1 ≤ lv) {F_law_written_k35 : Fd} (G_law_written_k35 : FnOk P w K mg base (L2.CX P w) lv T.f_law_written_k35 T.d_law_written_k35 ["_law_question_here"] (spD K 1 F_law_written_k35)) (G_law_quoted : FnOk P w K mg base (L2.CX P w) 1 T.f_law_quoted T.d_law_quoted ["_law_string_here"] (spD K 1 (F_law_quoted T.C))) : FnOk P w K mg base (L2.CX P w) (lv + 1) T.f_law_written_k35 T.d_law_written_k35 ["_law_question_here"] (spD K 1 (mkF 7 0 0 (fb_law_written_k35 T.C F_law_written_k35))) :=
  fnD_ok (k := lv) T.F_law_written_k35 sc_law_written_k35 fun cdv A outer s H E hr => by
    have tk : Takes (cxOf (L2.CX P w) P w K mg base N_law_written_k35 "_law_written" (defScope s_law_written_k35) T.f_law_written_k35 cdv A outer s H E) (WofE E) := takes_of rfl rfl rfl rfl
    exact (s_cons (s_set (i := 1) sc_law_written_k35.nd rfl (by first | exact Or.inl rfl | exact Or.inr rfl) d_str)
    (s_cons (s_for (fg := [2, 3, 4, 5, 6]) (passes_of rfl) (by rfl) (i_list (d_var (pv 0))) (pg_tup rfl (pgs_cons (pg_name (i := 2) sc_law_written_k35.nd rfl (by first | exact Or.inl rfl | exact Or.inr rfl)) (pgs_cons (pg_name (i := 3) sc_law_written_k35.nd rfl (by first | exact Or.inl rfl | exact Or.inr rfl)) (pgs_cons (pg_name (i := 4) sc_law_written_k35.nd rfl (by first | exact Or.inl rfl | exact Or.inr rfl)) pgs_nil)))) (tgTup_ok rfl (tgs_cons (tgName_ok 2) (tgs_cons (tgName_ok 3) (tgs_cons (tgName_ok 4) tgs_nil)))) (s_cons (s_set (i := 1) sc_law_written_k35.nd rfl (by first | exact Or.inl rfl | exact Or.inr rfl) (d_op op_addD addD_ok (d_op op_addD addD_ok (d_var (pv 1)) (d_ix (d_list (keep := none) (a_cons d_str (a_cons d_str a_nil))) (d_callT call_int1 kInt_ok (by rfl) T.b_int (by decide +kernel) (a_cons (d_cmp (op_eqB hr.units) (OpB.d eqB_ok) (d_var (pv 2)) d_str (nomark _)) a_nil)) (fun _ _ => rfl))) (d_var (pv 3))))
    (s_cons (s_for (fg := [5, 6]) (passes_of rfl) (by rfl) (i_list (d_var (pv 4))) (pg_tup rfl (pgs_cons (pg_name (i := 5) sc_law_written_k35.nd rfl (by first | exact Or.inl rfl | exact Or.inr rfl)) (pgs_cons (pg_name (i := 6) sc_law_written_k35.nd rfl (by first | exact Or.inl rfl | exact Or.inr rfl)) pgs_nil))) (tgTup_ok rfl (tgs_cons (tgName_ok 5) (tgs_cons (tgName_ok 6) tgs_nil))) (s_one (s_if (t_cmp (op_eqB hr.units) eqB_ok (d_var (pv 5)) d_str (nomark _)) (s_one (s_set (i := 1) sc_law_written_k35.nd rfl (by first | exact Or.inl rfl | exact Or.inr rfl) (d_op op_addD addD_ok (d_op op_addD addD_ok (d_op op_addD addD_ok (d_var (pv 1)) d_str) (d_call (L := []) (Ln := []) (dvs := []) tk G_law_written_k35 hr (by rfl) T.m_law_written_k35 T.k_law_written_k35 T.bd_law_written_k35 .nil rfl (a_cons (d_var (pv 6)) a_nil))) d_str))) (s_one (s_if (t_cmp (op_eqB hr.units) eqB_ok (d_var (pv 5)) d_str (nomark _)) (s_one (s_set (i := 1) sc_law_written_k35.nd rfl (by first | exact Or.inl rfl | exact Or.inr rfl) (d_op op_addD addD_ok (d_op op_addD addD_ok (d_op op_addD addD_ok (d_var (pv 1)) d_str) (d_callT call_str_int kStrI_ok (by rfl) T.b_str (by decide +kernel) (a_cons (d_var (pv 6)) a_nil))) d_str))) (s_one (s_set (i := 1) sc_law_written_k35.nd rfl (by first | exact Or.inl rfl | exact Or.inr rfl) (d_op op_addD addD_ok (d_op op_addD addD_ok (d_op op_addD addD_ok (d_var (pv 1)) d_str) (d_call (L := []) (Ln := []) (dvs := []) tk G_law_quoted (hr.mono (by omega)) (by rfl) T.m_law_quoted T.k_law_quoted T.bd_law_quoted .nil rfl (a_cons (d_var (pv 6)) a_nil))) d_str)))))))) s_nil)))
    (s_one (s_ret (d_var (pv 1))))))
set_option maxHeartbeats 8000000 in
theorem ok_law_improper (T : Tx w K mg) (G_law_take_k35 : FnOk P w K mg base (L2.CX P w) 1 T.f_law_take_k35 T.d_law_take_k35 ["_law_row", "_law_bound"] (spD K 2 (F_law_take_k35 T.C))) : FnOk P w K mg base (L2.CX P w) 2 T.f_law_improper T.d_law_improper ["_law_row", "_law_question_here"] (spD K 2 (mkF 4 1 1 (fb_law_improper T.C))) :=
  fnD_ok (k := 1) T.F_law_improper sc_law_improper fun cdv A outer s H E hr => by
    have tk : Takes (cxOf (L2.CX P w) P w K mg base N_law_improper "_law_improper" (defScope s_law_improper) T.f_law_improper cdv A outer s H E) (WofE E) := takes_of rfl rfl rfl rfl
    exact (s_cons (s_set (i := 2) sc_law_improper.nd rfl (by first | exact Or.inl rfl | exact Or.inr rfl) (d_list (keep := none) (a_cons (d_tup (a_cons d_str (a_cons d_str (a_cons (d_list (keep := none) a_nil) a_nil)))) (a_cons (d_tup (a_cons d_str (a_cons d_str (a_cons (d_list (keep := none) a_nil) a_nil)))) (a_cons (d_tup (a_cons d_str (a_cons d_str (a_cons (d_list (keep := none) a_nil) a_nil)))) (a_cons (d_tup (a_cons d_str (a_cons d_str (a_cons (d_list (keep := none) (a_cons (d_tup (a_cons d_str (a_cons d_int a_nil))) a_nil)) a_nil)))) a_nil))))))
    (s_cons (s_set (i := 2) sc_law_improper.nd rfl (by first | exact Or.inl rfl | exact Or.inr rfl) (d_op op_addD addD_ok (d_var (pv 2)) (d_list (keep := none) (a_cons (d_tup (a_cons d_str (a_cons d_str (a_cons (d_list (keep := none) (a_cons (d_tup (a_cons d_str (a_cons d_int a_nil))) a_nil)) a_nil)))) (a_cons (d_tup (a_cons d_str (a_cons d_str (a_cons (d_list (keep := none) (a_cons (d_tup (a_cons d_str (a_cons d_int a_nil))) a_nil)) a_nil)))) (a_cons (d_tup (a_cons d_str (a_cons d_str (a_cons (d_list (keep := none) (a_cons (d_tup (a_cons d_str (a_cons d_str a_nil))) a_nil)) a_nil)))) a_nil))))))
    (s_cons (s_set (i := 2) sc_law_improper.nd rfl (by first | exact Or.inl rfl | exact Or.inr rfl) (d_op op_addD addD_ok (d_var (pv 2)) (d_list (keep := none) (a_cons (d_tup (a_cons d_str (a_cons d_str (a_cons (d_list (keep := none) (a_cons (d_tup (a_cons d_str (a_cons (d_op op_repS mulSD_ok d_str d_int) a_nil))) a_nil)) a_nil)))) (a_cons (d_tup (a_cons d_str (a_cons d_str (a_cons (d_list (keep := none) (a_cons (d_tup (a_cons d_str (a_cons d_str a_nil))) a_nil)) a_nil)))) (a_cons (d_tup (a_cons d_str (a_cons d_str (a_cons (d_list (keep := none) (a_cons (d_tup (a_cons d_str (a_cons d_str a_nil))) a_nil)) a_nil)))) a_nil))))))
    (s_cons (s_set (i := 2) sc_law_improper.nd rfl (by first | exact Or.inl rfl | exact Or.inr rfl) (d_op op_addD addD_ok (d_var (pv 2)) (d_list (keep := none) (a_cons (d_tup (a_cons d_str (a_cons d_str (a_cons (d_list (keep := none) (a_cons (d_tup (a_cons d_str (a_cons (d_list (keep := none) a_nil) a_nil))) a_nil)) a_nil)))) (a_cons (d_tup (a_cons d_str (a_cons d_str (a_cons (d_list (keep := none) a_nil) a_nil)))) (a_cons (d_tup (a_cons d_str (a_cons d_str (a_cons (d_list (keep := none) a_nil) a_nil)))) a_nil))))))
    (s_cons (s_set (i := 3) sc_law_improper.nd rfl (by first | exact Or.inl rfl | exact Or.inr rfl) (d_call (L := [0]) (Ln := []) (dvs := []) tk G_law_take_k35 (hr.mono (by decide)) (by rfl) T.m_law_take_k35 T.k_law_take_k35 T.bd_law_take_k35 .nil rfl (a_cons (d_var (pv 0)) (a_cons (d_op op_addD addD_ok (d_callB call_lenA kLen_ok (by rfl) T.b_len (by decide +kernel) (a_cons (d_var (pv 1)) a_nil)) d_int) a_nil))))
    (s_one (s_ret (d_op op_addD addD_ok (d_op op_addD addD_ok (d_sl (d_var (pv 1)) o_none (o_some (d_var (pv 3)))) (d_list (keep := none) (a_cons (d_ix (d_var (pv 2)) (d_call (L := [0]) (Ln := []) (dvs := []) tk G_law_take_k35 (hr.mono (by decide)) (by rfl) T.m_law_take_k35 T.k_law_take_k35 T.bd_law_take_k35 .nil rfl (a_cons (d_var (pv 0)) (a_cons d_int a_nil))) (fun _ _ => rfl)) a_nil))) (d_sl (d_var (pv 1)) (o_some (d_var (pv 3))) o_none)))))))))
set_option maxHeartbeats 8000000 in
theorem ok_law_told_k35 (T : Tx w K mg) (G_read_question : FnOk P w K mg base (L2.CX P w) 24 T.f_read_question T.d_read_question ["text"] (spD K 1 (F_read_question T.C))) : FnOk P w K mg base (L2.CX P w) 25 T.f_law_told_k35 T.d_law_told_k35 ["_law_text"] (spD K 1 (mkF 2 0 0 (fb_law_told_k35 T.C))) :=
  fnD_ok (k := 24) T.F_law_told_k35 sc_law_told_k35 fun cdv A outer s H E hr => by
    have tk : Takes (cxOf (L2.CX P w) P w K mg base N_law_told_k35 "_law_told" (defScope s_law_told_k35) T.f_law_told_k35 cdv A outer s H E) (WofE E) := takes_of rfl rfl rfl rfl
    exact (s_one (s_tryM rfl rfl tk (fun W pn xe tk _ => (s_one (s_ret (d_call (L := []) (Ln := []) (dvs := []) tk G_read_question (hr.mono (by decide)) (by rfl) T.m_read_question T.k_read_question T.bd_read_question .nil rfl (a_cons (d_var (pv 0)) a_nil))))) (HdMix.as (i := 1) sc_law_told_k35.nd rfl rfl ⟨rfl, by decide, .inl T.g_InvalidQuestion⟩ (fun a oe cls d pn hz hf => pss_one (ps_ret (pe_tup (pa_cons pe_str (pa_cons (pe_xf T.xf_InvalidQuestion (T.x_InvalidQuestion.no "column" (by simp)) hz hf (pv 1)) (pa_cons (pe_xf T.xf_InvalidQuestion (T.x_InvalidQuestion.no "reason" (by simp)) hz hf (pv 1)) pa_nil)))))) (HdMix.cons ⟨rfl, by decide, .inl T.g_TopiaryError⟩ (fun a oe cls d pn hz hf => pss_one (ps_ret pe_non)) HdMix.nil)) (HdOkD.cons (su_tup (pts_cons' (pt_c fun _ => .str _) (pts_cons' pt_fld (pts_cons' pt_fld pts_nil')))) T.xe_InvalidQuestion (List.forall_mem_cons.mpr ⟨T.xn_TopiaryError_InvalidQuestion, (fun _ h => nomatch h)⟩) (HdOkD.cons (su_one (pt_c fun _ => .non)) T.xe_TopiaryError (fun _ h => nomatch h) HdOkD.nil))))
set_option maxHeartbeats 8000000 in
theorem ok_law_k35 (T : Tx w K mg) (G_law_count : FnOk P w K mg base (L2.CX P w) 5 T.f_law_count T.d_law_count ["_law_question_here"] (spD K 1 (F_law_count T.C 5))) (G_law_dressed : FnOk P w K mg base (L2.CX P w) 7 T.f_law_dressed T.d_law_dressed ["_law_row", "_law_question_here"] (spD K 2 (F_law_dressed T.C 5))) (G_law_improper : FnOk P w K mg base (L2.CX P w) 2 T.f_law_improper T.d_law_improper ["_law_row", "_law_question_here"] (spD K 2 (F_law_improper T.C))) (G_law_numbers : FnOk P w K mg base (L2.CX P w) 2 T.f_law_numbers T.d_law_numbers ["_law_script", "_law_count_here"] (spD K 2 (F_law_numbers T.C))) (G_law_question : FnOk P w K mg base (L2.CX P w) 13 T.f_law_question T.d_law_question ["_law_row", "_law_depth"] (spD K 2 (F_law_question T.C 4))) (G_law_take_k35 : FnOk P w K mg base (L2.CX P w) 1 T.f_law_take_k35 T.d_law_take_k35 ["_law_row", "_law_bound"] (spD K 2 (F_law_take_k35 T.C))) (G_law_told_k35 : FnOk P w K mg base (L2.CX P w) 25 T.f_law_told_k35 T.d_law_told_k35 ["_law_text"] (spD K 1 (F_law_told_k35 T.C))) (G_law_written_k35 : FnOk P w K mg base (L2.CX P w) 6 T.f_law_written_k35 T.d_law_written_k35 ["_law_question_here"] (spD K 1 (F_law_written_k35 T.C 5))) (G_is_proper : FnOk P w K mg base (L2.CX P w) 12 T.f_is_proper T.d_is_proper ["question"] (spD K 1 (F_is_proper T.C))) (G_read_question : FnOk P w K mg base (L2.CX P w) 24 T.f_read_question T.d_read_question ["text"] (spD K 1 (F_read_question T.C))) (G_write_question : FnOk P w K mg base (L2.CX P w) 6 T.f_write_question T.d_write_question ["question"] (spD K 1 (F_write_question T.C 5))) : FnOk P w K mg base (L2.CX P w) 26 T.f_law_k35 T.d_law_k35 ["_law_script"] (spD K 1 (mkF 9 1 0 (fb_law_k35 T.C))) :=
  fnD_ok (k := 25) T.F_law_k35 sc_law_k35 fun cdv A outer s H E hr => by
    have tk : Takes (cxOf (L2.CX P w) P w K mg base N_law_k35 "law" (defScope s_law_k35) T.f_law_k35 cdv A outer s H E) (WofE E) := takes_of rfl rfl rfl rfl
    exact (s_cons (s_set (i := 1) sc_law_k35.nd rfl (by first | exact Or.inl rfl | exact Or.inr rfl) (d_call (L := []) (Ln := [0]) (dvs := []) tk G_law_numbers (hr.mono (by decide)) (by rfl) T.m_law_numbers T.k_law_numbers T.bd_law_numbers .nil rfl (a_cons (d_var (pv 0)) (a_cons d_int a_nil))))
    (s_cons (s_set (i := 2) sc_law_k35.nd rfl (by first | exact Or.inl rfl | exact Or.inr rfl) (d_call (L := [0]) (Ln := []) (dvs := []) tk G_law_dressed (hr.mono (by decide)) (by rfl) T.m_law_dressed T.k_law_dressed T.bd_law_dressed .nil rfl (a_cons (d_var (pv 1)) (a_cons (d_call (L := [0]) (Ln := []) (dvs := []) tk G_law_question (hr.mono (by decide)) (by rfl) T.m_law_question T.k_law_question T.bd_law_question .nil rfl (a_cons (d_var (pv 1)) (a_cons d_int a_nil))) a_nil))))
    (s_cons (s_if (t_cmp op_gt (cmpB_ok _) (d_call (L := []) (Ln := []) (dvs := []) tk G_law_count (hr.mono (by decide)) (by rfl) T.m_law_count T.k_law_count T.bd_law_count .nil rfl (a_cons (d_var (pv 2)) a_nil)) d_int (nomark _)) (s_one (s_ret (d_cmp op_isBl (OpB.d isBB_ok) (d_call (L := []) (Ln := []) (dvs := []) tk G_is_proper (hr.mono (by decide)) (by rfl) T.m_is_proper T.k_is_proper T.bd_is_proper .nil rfl (a_cons (d_var (pv 2)) a_nil)) d_bl (nomark _)))) s_nil)
    (s_cons (s_set (i := 3) sc_law_k35.nd rfl (by first | exact Or.inl rfl | exact Or.inr rfl) (d_call (L := []) (Ln := []) (dvs := []) tk G_law_written_k35 (hr.mono (by decide)) (by rfl) T.m_law_written_k35 T.k_law_written_k35 T.bd_law_written_k35 .nil rfl (a_cons (d_var (pv 2)) a_nil)))
    (s_cons (s_if (PW.pt (w_or (t_cmp op_notBl notBB_ok (d_call (L := []) (Ln := []) (dvs := []) tk G_is_proper (hr.mono (by decide)) (by rfl) T.m_is_proper T.k_is_proper T.bd_is_proper .nil rfl (a_cons (d_var (pv 2)) a_nil)) d_bl (nomark _)) (w_or (t_cmp (op_neB hr.units) neB_ok (d_call (L := []) (Ln := []) (dvs := []) tk G_write_question (hr.mono (by decide)) (by rfl) T.m_write_question T.k_write_question T.bd_write_question .nil rfl (a_cons (d_var (pv 2)) a_nil)) (d_var (pv 3)) (nomark _)) (w_or1 (t_cmp (op_neB hr.units) neB_ok (d_call (L := []) (Ln := []) (dvs := []) tk G_read_question (hr.mono (by decide)) (by rfl) T.m_read_question T.k_read_question T.bd_read_question .nil rfl (a_cons (d_var (pv 3)) a_nil)) (d_var (pv 2)) (nomark _)))))) (s_one (s_ret d_bl)) s_nil)
    (s_cons (s_set (i := 4) sc_law_k35.nd rfl (by first | exact Or.inl rfl | exact Or.inr rfl) (d_list (keep := none) (a_cons (d_tup (a_cons d_str (a_cons d_str (a_cons (d_list (keep := none) (a_cons (d_tup (a_cons d_str (a_cons (d_list (keep := none) (a_cons (d_tup (a_cons d_str (a_cons d_str (a_cons (d_list (keep := none) (a_cons (d_tup (a_cons d_str (a_cons (d_list (keep := none) (a_cons (d_tup (a_cons d_str (a_cons d_str (a_cons (d_list (keep := none) (a_cons (d_tup (a_cons d_str (a_cons (d_list (keep := none) (a_cons (d_tup (a_cons d_str (a_cons d_str (a_cons (d_list (keep := none) a_nil) a_nil)))) a_nil)) a_nil))) a_nil)) a_nil)))) a_nil)) a_nil))) a_nil)) a_nil)))) a_nil)) a_nil))) a_nil)) a_nil)))) a_nil)))
    (s_cons (s_if (PW.pt (w_or (t_cmp op_notBl notBB_ok (d_call (L := []) (Ln := []) (dvs := []) tk G_is_proper (hr.mono (by decide)) (by rfl) T.m_is_proper T.k_is_proper T.bd_is_proper .nil rfl (a_cons (d_call (L := [0]) (Ln := []) (dvs := []) tk G_law_improper (hr.mono (by decide)) (by rfl) T.m_law_improper T.k_law_improper T.bd_law_improper .nil rfl (a_cons (d_var (pv 1)) (a_cons (d_var (pv 2)) a_nil))) a_nil)) d_bl (nomark _)) (w_or (t_cmp op_notBl notBB_ok (d_call (L := []) (Ln := []) (dvs := []) tk G_is_proper (hr.mono (by decide)) (by rfl) T.m_is_proper T.k_is_proper T.bd_is_proper .nil rfl (a_cons (d_var (pv 4)) a_nil)) d_bl (nomark _)) (w_or1 (t_cmp op_notBl notBB_ok (d_call (L := []) (Ln := []) (dvs := []) tk G_is_proper (hr.mono (by decide)) (by rfl) T.m_is_proper T.k_is_proper T.bd_is_proper .nil rfl (a_cons (d_list (keep := none) a_nil) a_nil)) d_bl (nomark _)))))) (s_one (s_ret d_bl)) s_nil)
    (s_cons (s_then (k := 0) (s_for (fg := [5, 6, 7, 8]) (passes_of rfl) (by rfl) (i_range1 rfl T.b_range (a_cons d_int a_nil)) (pg_name (i := 5) sc_law_k35.nd rfl (by first | exact Or.inl rfl | exact Or.inr rfl)) (tgName_ok 5) (s_cons (s_set (i := 6) sc_law_k35.nd rfl (by first | exact Or.inl rfl | exact Or.inr rfl) (d_call (L := [0]) (Ln := []) (dvs := []) tk G_law_take_k35 (hr.mono (by decide)) (by rfl) T.m_law_take_k35 T.k_law_take_k35 T.bd_law_take_k35 .nil rfl (a_cons (d_var (pv 1)) (a_cons (d_op op_addD addD_ok (d_callB call_lenA kLen_ok (by rfl) T.b_len (by decide +kernel) (a_cons (d_var (pv 3)) a_nil)) d_int) a_nil))))
    (s_cons (s_set (i := 7) sc_law_k35.nd rfl (by first | exact Or.inl rfl | exact Or.inr rfl) (d_ix (d_list (keep := none) (a_cons d_str (a_cons d_str (a_cons d_str (a_cons d_str (a_cons d_str (a_cons d_str (a_cons d_str (a_cons d_str (a_cons d_str (a_cons d_str (a_cons d_str (a_cons d_str a_nil))))))))))))) (d_call (L := [0]) (Ln := []) (dvs := []) tk G_law_take_k35 (hr.mono (by decide)) (by rfl) T.m_law_take_k35 T.k_law_take_k35 T.bd_law_take_k35 .nil rfl (a_cons (d_var (pv 1)) (a_cons d_int a_nil))) (fun _ _ => rfl)))
    (s_cons (s_set (i := 3) sc_law_k35.nd rfl (by first | exact Or.inl rfl | exact Or.inr rfl) (d_ix (d_list (keep := none) (a_cons (d_op op_addD addD_ok (d_op op_addD addD_ok (d_sl (d_var (pv 3)) o_none (o_some (d_var (pv 6)))) (d_var (pv 7))) (d_sl (d_var (pv 3)) (o_some (d_var (pv 6))) o_none)) (a_cons (d_op op_addD addD_ok (d_sl (d_var (pv 3)) o_none (o_some (d_var (pv 6)))) (d_sl (d_var (pv 3)) (o_some (d_op op_addD addD_ok (d_var (pv 6)) d_int)) o_none)) (a_cons (d_op op_addD addD_ok (d_op op_addD addD_ok (d_sl (d_var (pv 3)) o_none (o_some (d_var (pv 6)))) (d_var (pv 7))) (d_sl (d_var (pv 3)) (o_some (d_op op_addD addD_ok (d_var (pv 6)) d_int)) o_none)) a_nil)))) (d_call (L := [0]) (Ln := []) (dvs := []) tk G_law_take_k35 (hr.mono (by decide)) (by rfl) T.m_law_take_k35 T.k_law_take_k35 T.bd_law_take_k35 .nil rfl (a_cons (d_var (pv 1)) (a_cons d_int a_nil))) (fun _ _ => rfl)))
    (s_cons (s_set (i := 8) sc_law_k35.nd rfl (by first | exact Or.inl rfl | exact Or.inr rfl) (d_call (L := []) (Ln := []) (dvs := []) tk G_law_told_k35 (hr.mono (by decide)) (by rfl) T.m_law_told_k35 T.k_law_told_k35 T.bd_law_told_k35 .nil rfl (a_cons (d_var (pv 3)) a_nil)))
    (s_cons (s_if (t_cmp op_isN isNB_ok (d_var (pv 8)) d_non (nomark _)) (s_one (s_ret d_bl)) s_nil)
    (s_one (s_if (t_truth (d_isi rfl T.b_isinstance (d_var (pv 8)) (pe_bltn (by rfl) T.b_list (by decide +kernel) rfl)) (by intro _; rfl)) (s_one (s_if (PW.pt (w_or (t_cmp op_notBl notBB_ok (d_call (L := []) (Ln := []) (dvs := []) tk G_is_proper (hr.mono (by decide)) (by rfl) T.m_is_proper T.k_is_proper T.bd_is_proper .nil rfl (a_cons (d_var (pv 8)) a_nil)) d_bl (nomark _)) (w_or1 (t_cmp (op_neB hr.units) neB_ok (d_call (L := []) (Ln := []) (dvs := []) tk G_write_question (hr.mono (by decide)) (by rfl) T.m_write_question T.k_write_question T.bd_write_question .nil rfl (a_cons (d_var (pv 8)) a_nil)) (d_var (pv 3)) (nomark _))))) (s_one (s_ret d_bl)) s_nil)) (s_one (s_if (PW.pt (w_or (t_not (t_chain op_le op_le (cmpB_ok _) (cmpB_ok _) d_int (d_ix (d_var (pv 8)) d_int (fun _ _ => rfl)) (d_op op_addD addD_ok (d_callB call_lenA kLen_ok (by rfl) T.b_len (by decide +kernel) (a_cons (d_var (pv 3)) a_nil)) d_int))) (w_or1 (t_not (t_truth (d_isi rfl T.b_isinstance (d_ix (d_var (pv 8)) d_int (fun _ _ => rfl)) (pe_bltn (by rfl) T.b_str (by decide +kernel) rfl)) (by intro _; rfl)))))) (s_one (s_ret d_bl)) s_nil)))))))))))
    (s_one (s_ret d_bl))))))))))
end
end Wk
end
section
set_option Elab.async false
set_option linter.all false
set_option maxRecDepth 100000
set_option maxHeartbeats 4000000
namespace Dl
open PySem L2
@[simp] theorem kt1 : kitB "int" "int" = some true := rfl
@[simp] theorem kt2 : kitB "int" "bool" = some false := rfl
@[simp] theorem kt3 : kitB "int" "str" = some false := rfl
@[simp] theorem kt4 : kitB "int" "list" = some false := rfl
@[simp] theorem kt5 : kitB "int" "tuple" = some false := rfl
@[simp] theorem kt6 : kitB "int" "dict" = some false := rfl
@[simp] theorem kt7 : kitB "bool" "int" = some true := rfl
@[simp] theorem kt8 : kitB "bool" "bool" = some true := rfl
@[simp] theorem kt9 : kitB "bool" "str" = some false := rfl
@[simp] theorem kt10 : kitB "bool" "list" = some false := rfl
@[simp] theorem kt11 : kitB "bool" "tuple" = some false := rfl
@[simp] theorem kt12 : kitB "bool" "dict" = some false := rfl
@[simp] theorem kt13 : kitB "str" "int" = some false := rfl
@[simp] theorem kt14 : kitB "str" "bool" = some false := rfl
@[simp] theorem kt15 : kitB "str" "str" = some true := rfl
@[simp] theorem kt16 : kitB "str" "list" = some false := rfl
@[simp] theorem kt17 : kitB "str" "tuple" = some false := rfl
@[simp] theorem kt18 : kitB "str" "dict" = some false := rfl
@[simp] theorem kt19 : kitB "NoneType" "int" = some false := rfl
@[simp] theorem kt20 : kitB "NoneType" "bool" = some false := rfl
@[simp] theorem kt21 : kitB "NoneType" "str" = some false := rfl
@[simp] theorem kt22 : kitB "NoneType" "list" = some false := rfl
@[simp] theorem kt23 : kitB "NoneType" "tuple" = some false := rfl
@[simp] theorem kt24 : kitB "NoneType" "dict" = some false := rfl
@[simp] theorem kt25 : kitB "list" "int" = some false := rfl
@[simp] theorem kt26 : kitB "list" "bool" = some false := rfl
@[simp] theorem kt27 : kitB "list" "str" = some false := rfl
@[simp] theorem kt28 : kitB "list" "list" = some true := rfl
@[simp] theorem kt29 : kitB "list" "tuple" = some false := rfl
@[simp] theorem kt30 : kitB "list" "dict" = some false := rfl
@[simp] theorem kt31 : kitB "tuple" "int" = some false := rfl
@[simp] theorem kt32 : kitB "tuple" "bool" = some false := rfl
@[simp] theorem kt33 : kitB "tuple" "str" = some false := rfl
@[simp] theorem kt34 : kitB "tuple" "list" = some false := rfl
@[simp] theorem kt35 : kitB "tuple" "tuple" = some true := rfl
@[simp] theorem kt36 : kitB "tuple" "dict" = some false := rfl
@[simp] theorem kt37 : kitB "dict" "int" = some false := rfl
@[simp] theorem kt38 : kitB "dict" "bool" = some false := rfl
@[simp] theorem kt39 : kitB "dict" "str" = some false := rfl
@[simp] theorem kt40 : kitB "dict" "list" = some false := rfl
@[simp] theorem kt41 : kitB "dict" "tuple" = some false := rfl
@[simp] theorem kt42 : kitB "dict" "dict" = some true := rfl
@[simp] theorem bind_ok {α β : Type} {a : α} {e : Env} {k : α → Env → Rs β} : (Rs.ok a e).bind k = k a e := rfl
@[simp] theorem isn_non : isNoneD .non = true := rfl
@[simp] theorem isn_int {i : Int} : isNoneD (.int i) = false := rfl
@[simp] theorem isn_str {i : Str} : isNoneD (.str i) = false := rfl
@[simp] theorem isn_tup {i : List D} : isNoneD (.tup i) = false := rfl
@[simp] theorem isn_lst {i : List D} : isNoneD (.lst i) = false := rfl
@[simp] theorem isn_bl {i : Bool} : isNoneD (.bl i) = false := rfl
@[simp] theorem isn_dic {i} : isNoneD (.dic i) = false := rfl
@[simp] theorem isn_obj {C i} : isNoneD (.obj C i) = false := rfl
section
variable {α γ : Type} {x : Xn} {e : Env} {i k : Nat} {l kp : Bool} {w : W}
@[simp] theorem setK_exn : setK i (.exn x e) = .exn x e := rfl
@[simp] theorem retK_exn : retK (.exn x e) = .exn x e := rfl
@[simp] theorem expK_exn : expK (.exn x e) = .exn x e := rfl
@[simp] theorem asgK_exn {g : Tg} : asgK g (.exn x e) = .exn x e := rfl
@[simp] theorem ifK_exn {f g : Sv} : ifK (.exn x e) f g = .exn x e := rfl
@[simp] theorem mkK2_exn : mkK2 true (.exn x e) kp k = .exn x e := rfl
@[simp] theorem b2a_exn {f2 : Ev} {g : W → W → Env → Rs γ} : b2a (.exn x e) f2 g = .exn x e := rfl
@[simp] theorem b2b_exn {g : W → W → Env → Rs γ} : b2b true w (.exn x e) g = .exn x e := rfl
@[simp] theorem eaK_exn {fs : List Ev} : eaK (.exn x e) fs = .exn x e := rfl
@[simp] theorem ebK_exn : ebK true w (.exn x e) = .exn x e := rfl
@[simp] theorem cbK_exn {g : List W → Ev} : cbK (.exn x e) g = .exn x e := rfl
@[simp] theorem fldK_exn {C : Addr} {f : Str} : fldK C f (.exn x e) = .exn x e := rfl
@[simp] theorem notK_exn : notK (.exn x e) = .exn x e := rfl
@[simp] theorem truK_exn : truK (.exn x e) = .exn x e := rfl
@[simp] theorem andK_exn {g : Env → Rs Bool} : andK (.exn x e) g = .exn x e := rfl
@[simp] theorem orK_exn {g : Env → Rs Bool} : orK (.exn x e) g = .exn x e := rfl
@[simp] theorem callK_exn {P : Nat} {F : Fd} {L Ln : List Nat} {dvs : List D} : callK (.exn x e) P F L Ln dvs = .exn x e := rfl
@[simp] theorem mcK_exn {C : Addr} {mn : Str} {P : Nat} {F : Fd} {L Ln : List Nat} {dvs : List D} {fs : List Ev} : mcK (.exn x e) C mn P F L Ln dvs fs = .exn x e := rfl
@[simp] theorem mcK2_exn {P : Nat} {F : Fd} {L Ln : List Nat} {dvs : List D} : mcK2 true w (.exn x e) P F L Ln dvs = .exn x e := rfl
end
theorem cmulR (i j : Int) (h : -(2 ^ 64) < j ∧ j < 2 ^ 64) : CMul i j := .inr h
theorem cmulL (i j : Int) (h : -(2 ^ 64) < i ∧ i < 2 ^ 64) : CMul i j := .inl h
theorem rangeL_at {n i : Nat} {d : D} (h : (rangeL 0 n)[i]? = some d) : i < n ∧ d = .int (i : Int) := by
  unfold rangeL at h
  rw [List.getElem?_map] at h
  by_cases hi : i < n
  · rw [List.getElem?_range hi] at h
    have h := Option.some.inj h
    rw [← h]
    exact ⟨hi, by show D.int (0 + (i : Int)) = _; rw [Int.zero_add]⟩
  · rw [List.getElem?_eq_none (by simpa using hi)] at h
    cases h
theorem rangeL_at2 {n i : Nat} {a : Int} {d : D} (h : (rangeL a n)[i]? = some d) : i < n ∧ d = .int (a + i) := by
  unfold rangeL at h
  rw [List.getElem?_map] at h
  by_cases hi : i < n
  · rw [List.getElem?_range hi] at h
    have h := Option.some.inj h
    rw [← h]
    exact ⟨hi, rfl⟩
  · rw [List.getElem?_eq_none (by simpa using hi)] at h
    cases h
theorem rangeC_at {n i : Nat} {a c : Int} {d : D} (h : (rangeC a c n)[i]? = some d) : i < n ∧ d = .int (a + i * c) := by
  unfold rangeC at h
  rw [List.getElem?_map] at h
  by_cases hi : i < n
  · rw [List.getElem?_range hi] at h
    have h := Option.some.inj h
    rw [← h]
    exact ⟨hi, rfl⟩
  · rw [List.getElem?_eq_none (by simpa using hi)] at h
    cases h
theorem enumL_at {xs : List D} {i : Nat} {d : D} (h : (enumL xs)[i]? = some d) : ∃ x, xs[i]? = some x ∧ d = .tup [.int (i : Nat), x] := by
  unfold enumL at h
  rw [List.getElem?_mapIdx] at h
  cases hx : xs[i]? with
  | none => rw [hx] at h; cases h
  | some x => rw [hx] at h; exact ⟨x, rfl, (Option.some.inj h).symm⟩
theorem map_at {α : Type} {f : α → D} {xs : List α} {i : Nat} {d : D} (h : (xs.map f)[i]? = some d) : ∃ (hi : i < xs.length), d = f (xs[i]'hi) := by
  rw [List.getElem?_map] at h
  cases hx : xs[i]? with
  | none => rw [hx] at h; cases h
  | some x =>
    rw [hx] at h
    obtain ⟨hi, e⟩ := List.getElem?_eq_some_iff.mp hx
    exact ⟨hi, by rw [e]; exact (Option.some.inj h).symm⟩
theorem lt_of_at {α : Type} {xs : List α} {i : Nat} {x : α} (h : xs[i]? = some x) : i < xs.length := (List.getElem?_eq_some_iff.mp h).1
theorem atI_ints {xs : List Int} {i : Nat} (h : i < xs.length) : atI (xs.map D.int) (i : Int) = some (.int (xs[i]'h)) := by
  rw [Dl.atI_nat, List.getElem?_map, List.getElem?_eq_getElem h]
  rfl
theorem atI_get {xs : List D} {i : Nat} {x : D} (h : xs[i]? = some x) : atI xs (i : Int) = some x := by rw [Dl.atI_nat]; exact h
@[simp] theorem intsD_ints (l : List Int) : intsD (l.map D.int) = some l := by
  induction l with
  | nil => rfl
  | cons a l ih => rw [List.map_cons]; unfold intsD; rw [ih]
@[simp] theorem sumD_ints (l : List Int) : sumD (.lst (l.map D.int)) = some (.int l.sum) := by
  show (match intsD (l.map D.int) with | some ns => some (D.int ns.sum) | none => none) = _
  rw [intsD_ints]
@[simp] theorem cutL_map {α β : Type} (f : α → β) (l : List α) (a b : Option Int) : cutL (l.map f) a b = (cutL l a b).map f := by
  unfold cutL
  rw [List.length_map, ← List.map_drop, ← List.map_take]
theorem cutL_nat {α : Type} (l : List α) (a b : Nat) : cutL l (some (a : Int)) (some (b : Int)) = (l.drop a).take (b - a) := by
  unfold cutL
  rw [HT.sIx_nat, HT.sIx_nat]
  rcases Nat.le_total a l.length with ha | ha
  · rw [Nat.min_eq_left ha]
    rcases Nat.le_total b l.length with hb | hb
    · rw [Nat.min_eq_left hb]
    · rw [Nat.min_eq_right hb, List.take_of_length_le (by simp), List.take_of_length_le (by simp; omega)]
  · rw [Nat.min_eq_right ha]
    rw [List.drop_of_length_le (Nat.le_refl _), List.drop_of_length_le ha]
    simp
theorem cutL_to {α : Type} (l : List α) (b : Nat) : cutL l none (some (b : Int)) = l.take b := by
  unfold cutL
  rw [HT.sIx_none, HT.sIx_nat, List.drop_zero, Nat.sub_zero]
  rcases Nat.le_total b l.length with hb | hb
  · rw [Nat.min_eq_left hb]
  · rw [Nat.min_eq_right hb, List.take_of_length_le (Nat.le_refl _), List.take_of_length_le hb]
theorem cutL_from {α : Type} (l : List α) (a : Nat) : cutL l (some (a : Int)) none = l.drop a := by
  unfold cutL
  rw [HT.sIx_none, HT.sIx_nat]
  rcases Nat.le_total a l.length with hb | hb
  · rw [Nat.min_eq_left hb, List.take_of_length_le (by simp)]
  · rw [Nat.min_eq_right hb, List.drop_of_length_le (Nat.le_refl _), List.drop_of_length_le hb]
    simp
theorem cutL_all {α : Type} (l : List α) : cutL l none none = l := by
  unfold cutL
  rw [HT.sIx_none, HT.sIx_none, List.drop_zero, Nat.sub_zero, List.take_length]
/-! == of data -/
def okN (n : Nat) (x : D) : Bool := match toPy x with | some p => p.canLay0 && decide (p.depth ≤ n) | none => false
def okNs (n : Nat) (xs : List D) : Bool := match toPyL xs with | some p => PyData.canLayAll0 p && decide (PyData.depthAll p ≤ n) | none => false
def eqvD (x y : D) : Bool := match toPy x, toPy y with | some p, some q => PyData.eqv p q | _, _ => false
def eqvL (x y : List D) : Bool := match toPyL x, toPyL y with | some p, some q => PyData.eqvAll p q | _, _ => false
section
variable {n : Nat} {x y : D} {xs ys : List D} {i j : Int} {a b : Str} {p q : Bool}
theorem eqG_of : eqG x y = if (okN 64 x && okN 64 y) = true then some (eqvD x y) else none := by
  unfold eqG okN eqvD SeqAt.shaped
  cases toPy x with
  | none => cases toPy y <;> simp
  | some p =>
    cases toPy y with
    | none => simp
    | some q =>
      simp only [Bool.and_eq_true]
@[simp] theorem okN_non : okN n .non = true := by simp [okN, toPy, PyData.canLay0, PyData.depth]
@[simp] theorem okN_int : okN n (.int i) = true := by simp [okN, toPy, PyData.canLay0, PyData.depth]
@[simp] theorem okN_bl : okN n (.bl p) = true := by simp [okN, toPy, PyData.canLay0, PyData.depth]
@[simp] theorem okN_str : okN n (.str a) = PyData.strOk a := by simp [okN, toPy, PyData.canLay0, PyData.depth]
theorem okN_seq (f : List PyData → PyData) (hf : ∀ l, (f l).canLay0 = PyData.canLayAll0 l ∧ (f l).depth = PyData.depthAll l + 1) (h : toPy x = (toPyL xs).map f) : okN n x = (decide (0 < n) && okNs (n - 1) xs) := by
  unfold okN okNs
  rw [h]
  cases toPyL xs with
  | none => simp
  | some l =>
    simp only [Option.map]
    rw [(hf l).1, (hf l).2]
    by_cases h0 : 0 < n
    · have : (PyData.depthAll l + 1 ≤ n) = (PyData.depthAll l ≤ n - 1) := by apply propext; omega
      simp [h0, this]
    · simp [h0]; omega
@[simp] theorem okN_lst : okN n (.lst xs) = (decide (0 < n) && okNs (n - 1) xs) := okN_seq .list (fun l => by simp [PyData.canLay0, PyData.depth]) (by rw [toPy]; cases toPyL xs <;> rfl)
@[simp] theorem okN_rd : okN n (.rd xs) = (decide (0 < n) && okNs (n - 1) xs) := okN_seq .list (fun l => by simp [PyData.canLay0, PyData.depth]) (by rw [toPy]; cases toPyL xs <;> rfl)
@[simp] theorem okN_tup : okN n (.tup xs) = (decide (0 < n) && okNs (n - 1) xs) := okN_seq .tuple (fun l => by simp [PyData.canLay0, PyData.depth]) (by rw [toPy]; cases toPyL xs <;> rfl)
@[simp] theorem okNs_nil : okNs n [] = true := by simp [okNs, toPyL, PyData.canLayAll0, PyData.depthAll]
@[simp] theorem okNs_cons : okNs n (x :: xs) = (okN n x && okNs n xs) := by
  unfold okNs okN
  rw [toPyL]
  cases toPy x with
  | none => simp
  | some p =>
    cases toPyL xs with
    | none => simp
    | some l =>
      simp only [PyData.canLayAll0, PyData.depthAll, Nat.max_le, Bool.decide_and]
      cases p.canLay0 <;> cases PyData.canLayAll0 l <;> simp
@[simp] theorem okNs_ints {l : List Int} : okNs n (l.map D.int) = true := by
  induction l with
  | nil => simp
  | cons a l ih => rw [List.map_cons, okNs_cons, ih]; simp
theorem okNs_all (h : ∀ x ∈ xs, okN n x = true) : okNs n xs = true := by
  induction xs with
  | nil => simp
  | cons a l ih => rw [okNs_cons, h a List.mem_cons_self, ih fun x hx => h x (List.mem_cons_of_mem _ hx)]; rfl
@[simp] theorem eqvD_non : eqvD .non .non = true := by simp [eqvD, toPy, PyData.eqv]
@[simp] theorem eqvD_int : eqvD (.int i) (.int j) = (i == j) := by simp [eqvD, toPy, PyData.eqv]
@[simp] theorem eqvD_bl : eqvD (.bl p) (.bl q) = (p == q) := by simp [eqvD, toPy, PyData.eqv]
@[simp] theorem eqvD_str : eqvD (.str a) (.str b) = (a == b) := by simp [eqvD, toPy, PyData.eqv]
@[simp] theorem eqvD_ni : eqvD .non (.int j) = false := by simp [eqvD, toPy, PyData.eqv]
@[simp] theorem eqvD_in : eqvD (.int j) .non = false := by simp [eqvD, toPy, PyData.eqv]
@[simp] theorem eqvD_is : eqvD (.int j) (.str a) = false := by simp [eqvD, toPy, PyData.eqv]
@[simp] theorem eqvD_si : eqvD (.str a) (.int j) = false := by simp [eqvD, toPy, PyData.eqv]
theorem eqvD_seq (f : List PyData → PyData) (hf : ∀ l m, PyData.eqv (f l) (f m) = PyData.eqvAll l m) (h : toPy x = (toPyL xs).map f) (h2 : toPy y = (toPyL ys).map f) : eqvD x y = eqvL xs ys := by
  unfold eqvD eqvL
  rw [h, h2]
  cases toPyL xs <;> cases toPyL ys <;> simp [hf]
@[simp] theorem eqvD_lst : eqvD (.lst xs) (.lst ys) = eqvL xs ys := eqvD_seq .list (fun l m => by rw [PyData.eqv]) (by rw [toPy]; cases toPyL xs <;> rfl) (by rw [toPy]; cases toPyL ys <;> rfl)
@[simp] theorem eqvD_rl : eqvD (.rd xs) (.lst ys) = eqvL xs ys := eqvD_seq .list (fun l m => by rw [PyData.eqv]) (by rw [toPy]; cases toPyL xs <;> rfl) (by rw [toPy]; cases toPyL ys <;> rfl)
@[simp] theorem eqvD_lr : eqvD (.lst xs) (.rd ys) = eqvL xs ys := eqvD_seq .list (fun l m => by rw [PyData.eqv]) (by rw [toPy]; cases toPyL xs <;> rfl) (by rw [toPy]; cases toPyL ys <;> rfl)
@[simp] theorem eqvD_tup : eqvD (.tup xs) (.tup ys) = eqvL xs ys := eqvD_seq .tuple (fun l m => by rw [PyData.eqv]) (by rw [toPy]; cases toPyL xs <;> rfl) (by rw [toPy]; cases toPyL ys <;> rfl)
@[simp] theorem eqvD_nt : eqvD .non (.tup ys) = false := by unfold eqvD; rw [toPy, toPy]; cases toPyL ys <;> simp [PyData.eqv]
@[simp] theorem eqvD_tn : eqvD (.tup ys) .non = false := by unfold eqvD; rw [toPy, toPy]; cases toPyL ys <;> simp [PyData.eqv]
@[simp] theorem eqvD_nl : eqvD .non (.lst ys) = false := by unfold eqvD; rw [toPy, toPy]; cases toPyL ys <;> simp [PyData.eqv]
@[simp] theorem eqvD_ln : eqvD (.lst ys) .non = false := by unfold eqvD; rw [toPy, toPy]; cases toPyL ys <;> simp [PyData.eqv]
@[simp] theorem eqvL_nil : eqvL [] [] = true := by simp [eqvL, toPyL, PyData.eqvAll]
@[simp] theorem eqvL_nc : eqvL [] (y :: ys) = false := by
  unfold eqvL
  rw [toPyL, toPyL]
  cases toPy y <;> cases toPyL ys <;> simp [PyData.eqvAll]
@[simp] theorem eqvL_cn : eqvL (y :: ys) [] = false := by
  unfold eqvL
  rw [toPyL, toPyL]
  cases toPy y <;> cases toPyL ys <;> simp [PyData.eqvAll]
@[simp] theorem eqvL_cons : eqvL (x :: xs) (y :: ys) = (eqvD x y && eqvL xs ys) := by
  unfold eqvL eqvD
  rw [toPyL, toPyL]
  cases toPy y <;> cases toPyL ys <;> cases toPy x <;> cases toPyL xs <;> simp [PyData.eqvAll]
@[simp] theorem eqvL_ints {l m : List Int} : eqvL (l.map D.int) (m.map D.int) = decide (l = m) := by
  induction l generalizing m with
  | nil => cases m <;> simp
  | cons a l ih =>
    cases m with
    | nil => simp
    | cons b m =>
      rw [List.map_cons, List.map_cons, eqvL_cons, ih, eqvD_int]
      by_cases h : a = b <;> simp [h]
theorem eqvD_self (h : okN n x = true) : eqvD x x = true := by
  unfold okN at h
  unfold eqvD
  cases hx : toPy x with
  | none => rw [hx] at h; cases h
  | some p =>
    rw [hx] at h
    have h : (p.canLay0 && decide (p.depth ≤ n)) = true := h
    rw [Bool.and_eq_true] at h
    exact PySem.SeqAt.eqv_refl p h.1
@[simp] theorem eqB_lst : eqB (.lst xs) (.lst ys) = if (okN 64 (.lst xs) && okN 64 (.lst ys)) = true then some (eqvD (.lst xs) (.lst ys)) else none := eqG_of
@[simp] theorem eqB_tup : eqB (.tup xs) (.tup ys) = if (okN 64 (.tup xs) && okN 64 (.tup ys)) = true then some (eqvD (.tup xs) (.tup ys)) else none := eqG_of
@[simp] theorem eqB_rl : eqB (.rd xs) (.lst ys) = if (okN 64 (.rd xs) && okN 64 (.lst ys)) = true then some (eqvD (.rd xs) (.lst ys)) else none := eqG_of
@[simp] theorem eqB_lr : eqB (.lst xs) (.rd ys) = if (okN 64 (.lst xs) && okN 64 (.rd ys)) = true then some (eqvD (.lst xs) (.rd ys)) else none := eqG_of
@[simp] theorem eqB_nt : eqB .non (.tup ys) = if (okN 64 .non && okN 64 (.tup ys)) = true then some (eqvD .non (.tup ys)) else none := eqG_of
@[simp] theorem eqB_tn : eqB (.tup ys) .non = if (okN 64 (.tup ys) && okN 64 .non) = true then some (eqvD (.tup ys) .non) else none := eqG_of
@[simp] theorem eqB_nl : eqB .non (.lst ys) = if (okN 64 .non && okN 64 (.lst ys)) = true then some (eqvD .non (.lst ys)) else none := eqG_of
@[simp] theorem eqB_ln : eqB (.lst ys) .non = if (okN 64 (.lst ys) && okN 64 .non) = true then some (eqvD (.lst ys) .non) else none := eqG_of
@[simp] theorem eqB_nn : eqB .non .non = some true := rfl
@[simp] theorem eqB_ni : eqB .non (.int i) = some false := rfl
@[simp] theorem eqB_in : eqB (.int i) .non = some false := rfl
@[simp] theorem eqB_ns : eqB .non (.str a) = some false := rfl
@[simp] theorem eqB_sn : eqB (.str a) .non = some false := rfl
@[simp] theorem eqB_is : eqB (.int i) (.str a) = some false := rfl
@[simp] theorem eqB_si : eqB (.str a) (.int i) = some false := rfl
end
end Dl
end
section
set_option Elab.async false
set_option linter.all false
set_option maxRecDepth 100000
set_option maxHeartbeats 4000000
namespace Dl
open PySem L2
theorem filterMap_all {α β : Type} (h : α → β) : ∀ l : List α, l.filterMap (fun x => some (h x)) = l.map h
  | [] => rfl
  | a :: l => by rw [List.filterMap_cons, filterMap_all h l]; rfl
section
variable {it : Env → Rs Itr} {g : Tg} {t : Env → Rs Bool} {f : Ev} {k : Nat} {keep : Bool} {vs : List Nat} {items : List D} {chk : Env → Prop}
/-- a comprehension without a test that reads alone: its list is told item by item -/
theorem comp_m (out : List D) {e0 e1 : Env} {n : Nat} (hit : it e0 = .ok ⟨items, chk⟩ e1) (ho : e1.open k = true) (hl : items.length ≤ n) (hn : n ≤ sizeLine) (hv : e1.clr vs = e1) (hlen : out.length = items.length)
    (hs : ∀ (i : Nat) d y (acc : List D), items[i]? = some d → out[i]? = some y → acc.length < n → chk (e1.setC k (some (.lst acc))) ∧ lcT g t f k vs d (e1.setC k (some (.lst acc))) = .ok () (e1.setC k (some (.lst (acc ++ [y]))))) (hc : ∀ acc, chk (e1.setC k (some (.lst acc)))) :
    eLc it g t f k keep vs e0 = endL keep k (e1.setC k (some (.lst out))) := by
  obtain ⟨s, h1, h2⟩ := comp_i (keep := keep) (items := items) (chk := chk) (fun acc : List D => e1.setC k (some (.lst acc))) (fun i acc => acc = out.take i) [] hit ho rfl rfl (fun i d acc hd hi => by
    have hlt : i < items.length := (List.getElem?_eq_some_iff.mp hd).1
    have hy : out[i]? = some (out[i]'(by omega)) := List.getElem?_eq_getElem (by omega)
    have hal : acc.length ≤ i := by
      rw [hi, List.length_take]
      omega
    obtain ⟨q1, q2⟩ := hs i d _ acc hd hy (by omega)
    refine ⟨q1, _, q2, ?_⟩
    rw [List.take_add_one, ← hi, hy]
    rfl) (fun acc _ => hc acc)
  rw [h1, h2, ← hlen, List.take_length]
/-- a comprehension without a test that changes a state: as many items, all of a kind -/
theorem comp_s {S : Type} (E : S → List D → Env) (I : S → Prop) (P : D → Prop) (s0 : S) {e0 e1 : Env} (hit : it e0 = .ok ⟨items, chk⟩ e1) (ho : e1.open k = true) (hE : e1.setC k (some (.lst [])) = E s0 []) (h0 : I s0)
    (hs : ∀ (i : Nat) d s (acc : List D), items[i]? = some d → I s → acc.length = i → (∀ x ∈ acc, P x) → chk (E s acc) ∧ ∃ s' y, lcT g t f k vs d (E s acc) = .ok () (E s' (acc ++ [y])) ∧ I s' ∧ P y) (hc : ∀ s acc, chk (E s acc)) :
    ∃ s out, eLc it g t f k keep vs e0 = endL keep k (E s out) ∧ I s ∧ out.length = items.length ∧ ∀ x ∈ out, P x := by
  obtain ⟨⟨s, out⟩, h1, h2, h3, h4⟩ := comp_i (keep := keep) (items := items) (chk := chk) (fun z : S × List D => E z.1 z.2) (fun i z => I z.1 ∧ z.2.length = i ∧ ∀ x ∈ z.2, P x) (s0, []) hit ho hE ⟨h0, rfl, fun x h => nomatch h⟩ (fun i d z hd hi => by
    obtain ⟨s, acc⟩ := z
    obtain ⟨i1, i2, i3⟩ := hi
    obtain ⟨q1, s', y, q2, q3, q4⟩ := hs i d s acc hd i1 i2 i3
    refine ⟨q1, (s', acc ++ [y]), q2, q3, by simp at i2 ⊢; omega, fun x hx => ?_⟩
    rcases List.mem_append.mp hx with h | h
    · exact i3 x h
    · rw [List.mem_singleton.mp h]; exact q4) (fun z _ => hc z.1 z.2)
  exact ⟨s, out, h1, h2, h3, h4⟩
end
end Dl
end
section
set_option Elab.async false
set_option linter.all false
set_option maxRecDepth 100000
set_option maxHeartbeats 4000000
namespace Dl
open PySem L2
/-- the ints that pass -/
def ifI (P : Int → Bool) : D → Option D
  | .int i => if P i = true then some (.int i) else none
  | _ => none
theorem ifI_ints (P : Int → Bool) : ∀ l : List Int, (l.map D.int).filterMap (ifI P) = (l.filter P).map D.int
  | [] => rfl
  | a :: l => by
    rw [List.map_cons, List.filterMap_cons, ifI_ints P l, List.filter_cons]
    cases h : P a with
    | true => simp [ifI, h]
    | false => simp [ifI, h]
theorem rangeL_ints (n : Nat) : rangeL 0 n = ((List.range n).map fun i : Nat => (i : Int)).map D.int := by
  unfold rangeL
  rw [List.map_map]
  apply List.map_congr_left
  intro a _
  show D.int (0 + (a : Int)) = _
  rw [Int.zero_add]
  rfl
section
variable {it : Env → Rs Itr} {g : Tg} {t : Env → Rs Bool} {f : Ev} {k : Nat} {keep : Bool} {vs : List Nat} {chk : Env → Prop}
/-- [x for x in ints if P x] -/
theorem comp_ints (P : Int → Bool) (xs : List Int) {e0 e1 : Env} (hit : it e0 = .ok ⟨xs.map .int, chk⟩ e1) (ho : e1.open k = true) (hn : xs.length ≤ 16777216) (hv : e1.clr vs = e1)
    (hs : ∀ (i : Nat) (x : Int) (acc : List D), xs[i]? = some x → acc.length < 16777216 → chk (e1.setC k (some (.lst acc))) ∧ lcT g t f k vs (.int x) (e1.setC k (some (.lst acc))) = .ok () (e1.setC k (some (.lst (if P x = true then acc ++ [.int x] else acc))))) (hc : ∀ acc, chk (e1.setC k (some (.lst acc)))) :
    eLc it g t f k keep vs e0 = endL keep k (e1.setC k (some (.lst ((xs.filter P).map .int)))) := by
  rw [comp_e (n := xs.length) (items := xs.map .int) (chk := chk) (ifI P) hit ho (by simp) (by rw [sizeL]; exact hn) hv (fun i d acc hd ha => by
    obtain ⟨hi, rfl⟩ := map_at hd
    obtain ⟨q1, q2⟩ := hs i _ acc (List.getElem?_eq_getElem hi) (by omega)
    refine ⟨q1, ?_⟩
    rw [q2]
    cases h : P (xs[i]'hi) with
    | true => simp [ifI, h]
    | false => simp [ifI, h]) hc, ifI_ints]
end
end Dl
end
section
set_option Elab.async false
set_option linter.all false
set_option maxRecDepth 100000
set_option maxHeartbeats 4000000
namespace Tp
open PySem L2 Dl
@[simp] theorem kItS_ev {z : Str} {e : Dl.Env} : kItS (.d (.str z)) e = .ok ⟨strL z, fun _ => True⟩ e := rfl
def ch (s : Str) : List Nat := s.cps.toList
theorem ch_len (s : Str) : (ch s).length = s.length := by
  show s.cps.toList.length = s.cps.size
  simp
theorem ch_inj {s t : Str} (h : ch s = ch t) : s = t := by
  cases s; cases t
  congr
  exact Array.toList_inj.mp h
@[simp] theorem ch_mk (l : List Nat) : ch ⟨l.toArray⟩ = l := by simp [ch]
theorem ch_app (s t : Str) : ch (s ++ t) = ch s ++ ch t := by
  show (s.cps ++ t.cps).toList = _
  simp [ch]
theorem len_app (s t : Str) : (s ++ t).length = s.length + t.length := by
  rw [← ch_len, ch_app, List.length_append, ch_len, ch_len]
theorem strL_at {z : Str} {i : Nat} {d : D} (h : (strL z)[i]? = some d) : ∃ c, (ch z)[i]? = some c ∧ d = .str ⟨#[c]⟩ := by
  unfold strL at h
  rw [List.getElem?_map] at h
  cases q : (ch z)[i]? with
  | none =>
    have q : z.cps.toList[i]? = none := q
    rw [q] at h; cases h
  | some c =>
    have q : z.cps.toList[i]? = some c := q
    rw [q] at h; cases h; exact ⟨c, rfl, rfl⟩
theorem strL_len (z : Str) : (strL z).length = z.length := by
  unfold strL
  simp
  rfl
/-! the one within the other -/
theorem strIn_iff (x y : Str) : strIn x y = true ↔ ch x <:+: ch y := by
  unfold strIn
  rw [StrLaws.found_iff]
  constructor
  · rintro ⟨i, h1, h2⟩
    unfold Builtin.Str.subAt at h2
    have h2 := congrArg Array.toList (eq_of_beq h2)
    rw [Array.toList_extract, List.extract_eq_take_drop] at h2
    refine ⟨(ch y).take i, ((ch y).drop i).drop x.length, ?_⟩
    have e : ch x = ((ch y).drop i).take x.length := by
      rw [show i + x.length - i = x.length by omega] at h2
      exact h2.symm
    rw [e]
    rw [List.append_assoc, List.take_append_drop, List.take_append_drop]
  · rintro ⟨a, b, h⟩
    refine ⟨a.length, ?_, ?_⟩
    · have := congrArg List.length h
      simp only [List.length_append, ch_len] at this
      omega
    · unfold Builtin.Str.subAt
      rw [beq_iff_eq]
      apply Array.toList_inj.mp
      rw [Array.toList_extract, List.extract_eq_take_drop, show a.length + x.length - a.length = x.length by omega]
      show (((ch y).drop a.length).take x.length) = ch x
      rw [← h, List.append_assoc, List.drop_left, ← ch_len, List.take_left]
theorem strIn_char (c : Nat) (y : Str) : strIn ⟨#[c]⟩ y = decide (c ∈ ch y) := by
  rw [Bool.eq_iff_iff, strIn_iff, decide_eq_true_iff]
  show [c] <:+: ch y ↔ _
  constructor
  · rintro ⟨a, b, h⟩
    rw [← h]
    simp
  · intro h
    obtain ⟨a, b, e⟩ := List.append_of_mem h
    exact ⟨a, b, by rw [e]; simp⟩
/-! comparisons of one letter -/
theorem lt_one (c d : Nat) : decide ([c] < [d]) = decide (c < d) := by
  rw [decide_eq_decide]
  rw [List.cons_lt_cons_iff]
  simp
end Tp
end
section
set_option Elab.async false
set_option linter.all false
set_option maxRecDepth 100000
set_option maxHeartbeats 4000000
namespace Tp
open PySem L2 Dl
/-! a question's text, read by plain functions of what is left of it -/
inductive Rsn where
  | step | test | filter | number | sign | string | close | end_ | steps | deep
deriving DecidableEq, Inhabited
def Rsn.s : Rsn → Str
  | .step => "step" | .test => "test" | .filter => "filter" | .number => "number" | .sign => "sign" | .string => "string" | .close => "close" | .end_ => "end" | .steps => "steps" | .deep => "deep"
inductive PR (α : Type) where
  | ok (v : α) (l : List Nat) (a s : Nat)
  | er (p : Nat) (r : Rsn)
def isLet (c : Nat) : Bool := decide (97 ≤ c) && decide (c ≤ 122)
def isDig (c : Nat) : Bool := decide (48 ≤ c) && decide (c ≤ 57)
def isSgn (c : Nat) : Bool := (decide (32 ≤ c) && decide (c ≤ 126)) || c == 10
def testP (l : List Nat) (a s : Nat) : PR Str :=
  match l with
  | 42 :: r => .ok ⟨#[42]⟩ r (a + 1) s
  | 35 :: r => .ok ⟨#[35]⟩ r (a + 1) s
  | _ => if 1 ≤ (l.takeWhile isLet).length ∧ (l.takeWhile isLet).length ≤ 12 then .ok ⟨(l.takeWhile isLet).toArray⟩ (l.drop (l.takeWhile isLet).length) (a + (l.takeWhile isLet).length) s else .er a .test
def escOf (c : Nat) : Option Nat := if c = 34 then some 34 else if c = 92 then some 92 else if c = 110 then some 10 else none
/-- up to the closing quote -/
def strP (start : Nat) : List Nat → Nat → Nat → List Nat → PR (List Nat)
  | [], a, s, acc => .er start .string
  | c :: r, a, s, acc =>
    if c = 34 then .ok acc (c :: r) a s
    else if c = 92 then (match r with
      | [] => .er start .string
      | d :: r2 => (match escOf d with
        | some x => strP start r2 (a + 2) s (acc ++ [x])
        | none => .er (a + 1) .sign))
    else if c = 10 ∨ isSgn c = false then .er a .sign
    else strP start r (a + 1) s (acc ++ [c])
def stringP (l : List Nat) (a s : Nat) : PR Str := match strP a (l.drop 1) (a + 1) s [] with
  | .ok acc l2 a2 s2 => if 1 ≤ acc.length ∧ acc.length ≤ 40 then .ok ⟨acc.toArray⟩ (l2.drop 1) (a2 + 1) s2 else .er a .string
  | .er p r => .er p r
def filterP (q : Nat → List Nat → Nat → Nat → PR D) (below : Bool) (depth : Nat) (l : List Nat) (a s : Nat) : PR D :=
  match l with
  | [] => .er a .filter
  | c :: r =>
    if c = 47 then (match q (depth + 1) l a s with
      | .ok v l2 a2 s2 => .ok (.tup [.str "has", v]) l2 a2 s2
      | .er p r => .er p r)
    else if c = 34 then (match stringP l a s with
      | .ok v l2 a2 s2 => .ok (.tup [.str "holds", .str v]) l2 a2 s2
      | .er p r => .er p r)
    else if 49 ≤ c ∧ c ≤ 57 then
      (if below = true ∨ 4 < (l.takeWhile isDig).length ∨ 5000 < NumText.digitsVal (l.takeWhile isDig) then .er a .number
      else .ok (.tup [.str "place", .int (NumText.digitsVal (l.takeWhile isDig) : Nat)]) (l.drop (l.takeWhile isDig).length) (a + (l.takeWhile isDig).length) s)
    else .er a .filter
def filtersP (q : Nat → List Nat → Nat → Nat → PR D) (below : Bool) (depth : Nat) : Nat → List Nat → Nat → Nat → List D → PR (List D)
  | 0, _, _, _, _ => .er 0 .deep
  | f + 1, l, a, s, acc =>
    match l with
    | [] => .ok acc l a s
    | c :: r =>
      if c = 91 then (match filterP q below depth r (a + 1) s with
        | .ok v l2 a2 s2 => (match l2 with
          | [] => .er a2 .close
          | d :: r2 => if d = 93 then filtersP q below depth f r2 (a2 + 1) s2 (acc ++ [v]) else .er a2 .close)
        | .er p r => .er p r)
      else .ok acc l a s
def axisOf (l : List Nat) : Bool := match l with
  | d :: _ => d == 47
  | [] => false
def stepP (q : Nat → List Nat → Nat → Nat → PR D) (depth : Nat) (l : List Nat) (a s : Nat) : PR D :=
  match testP (if axisOf l = true then l.drop 1 else l) (if axisOf l = true then a + 1 else a) s with
  | .ok t l2 a2 s2 => (match filtersP q (axisOf l) depth (l2.length + 1) l2 a2 s2 [] with
    | .ok fs l3 a3 s3 => .ok (.tup [.str (if axisOf l = true then "below" else "child"), .str t, .lst fs]) l3 a3 s3
    | .er p r => .er p r)
  | .er p r => .er p r
def stepsP (q : Nat → List Nat → Nat → Nat → PR D) (depth : Nat) : Nat → List Nat → Nat → Nat → List D → PR (List D)
  | 0, _, _, _, _ => .er 0 .deep
  | f + 1, l, a, s, acc =>
    match l with
    | [] => .ok acc l a s
    | c :: r =>
      if c = 47 then (if s = 12 then .er a .steps else (match stepP q depth r (a + 1) (s + 1) with
        | .ok v l2 a2 s2 => stepsP q depth f l2 a2 s2 (acc ++ [v])
        | .er p r => .er p r))
      else .ok acc l a s
def questionP : Nat → Nat → List Nat → Nat → Nat → PR D
  | 0, _, _, _, _ => .er 0 .deep
  | n + 1, depth, l, a, s =>
    match l with
    | [] => .er a .step
    | c :: r =>
      if c = 47 then (if s < 12 ∧ 3 < depth then .er a .deep else (match stepsP (questionP n) depth (l.length + 1) l a s [] with
        | .ok v l2 a2 s2 => .ok (.lst v) l2 a2 s2
        | .er p r => .er p r))
      else .er a .step
def readP (l : List Nat) : Nat × Rsn ⊕ D := match questionP 6 1 l 0 0 with
  | .ok v [] _ _ => .inr v
  | .ok _ (_ :: _) a _ => .inl (a, .end_)
  | .er p r => .inl (p, r)
end Tp
end
section
set_option Elab.async false
set_option linter.all false
set_option maxRecDepth 100000
set_option maxHeartbeats 4000000
namespace Dl
open PySem L2
@[simp] theorem kItT_tup {l : List D} {e : Env} : kItT (.d (.tup l)) e = .ok ⟨l, fun _ => True⟩ e := rfl
end Dl
end
section
set_option Elab.async false
set_option linter.all false
set_option maxRecDepth 100000
set_option maxHeartbeats 4000000
namespace Dl
open PySem L2
/-! evaluation of several clauses -/
theorem xne {K : PySem.W.Frag} {a b : Addr} (h : PySem.W.exmOne K (.ref a) (.ref b) = some false) (g : PySem.W.exmOne K (.ref b) (.ref b) = some true) : a ≠ b := fun e => by
  subst e
  rw [h] at g
  cases g
def tmR (o : Option D) (e : Env) : SR := match o with
  | some y => .rt (.d y) e
  | none => .fail
section
variable {e : Env} {n : Nat} {C : Addr} {i : Nat} {k : List (Str × D) → Option D} {kk : List (Str × D) → Option D} {ks : List (Str × D) → Option (List D)} {r : List Hd} {x : Xn} {fs : List (Str × D)} {f : Str} {d y : D} {ys : List D} {hs : List Hd}
@[simp] theorem tmK_x : tmK hs (.exn x e) = tmR (pickH e.ws.length hs x) e := rfl
@[simp] theorem tmR_some : tmR (some y) e = .rt (.d y) e := rfl
@[simp] theorem pickH_some : pickH n ((C, some i, k) :: r) x = if x.C = C then (if i < n then k (x.fs.getD []) else none) else pickH n r x := by
  show (if x.C = C then (if decide (i < n) = true then k (x.fs.getD []) else none) else pickH n r x) = _
  by_cases h : i < n <;> simp [h]
@[simp] theorem pickH_none : pickH n ((C, none, k) :: r) x = if x.C = C then k (x.fs.getD []) else pickH n r x := by
  show (if x.C = C then (if true = true then k (x.fs.getD []) else none) else pickH n r x) = _
  simp
@[simp] theorem kC_ev : kC d fs = some d := rfl
@[simp] theorem kFld_ev : kFld f fs = fs.lookup f := rfl
@[simp] theorem kNil_ev : kNil fs = some [] := rfl
def kCo (a : Option D) (b : Option (List D)) : Option (List D) := match a, b with | some x, some xs => some (x :: xs) | _, _ => none
@[simp] theorem kCons_ev : kCons kk ks fs = kCo (kk fs) (ks fs) := rfl
@[simp] theorem kCo_ev : kCo (some y) (some ys) = some (y :: ys) := rfl
@[simp] theorem kTupF_ev : kTupF ks fs = upTo .tup (ks fs) := rfl
@[simp] theorem kLstF_ev : kLstF ks fs = upTo .lst (ks fs) := rfl
@[simp] theorem upTo_ev {g : List D → D} : upTo g (some ys) = if ys.length ≤ 1000 then some (g ys) else none := rfl
end
end Dl
end
section
set_option Elab.async false
set_option linter.all false
set_option maxRecDepth 100000
set_option maxHeartbeats 4000000
namespace Dl
open PySem L2
/-! evaluation of pop and extend -/
def popK (o : Option Cell) (n : Nat) (e : Env) : Rs W := match o with
    | some (.lst xs) => match xs[xs.length - 1]? with
      | some y => .ok (.d y) (e.setC n (some (.lst xs.dropLast)))
      | none => .fail
    | some (.lw xs) => match xs[xs.length - 1]? with
      | some (.d y) => .ok (.d y) (e.setC n (some (.lw xs.dropLast)))
      | _ => .fail
    | _ => .fail
section
variable {n : Nat} {e : Env} {xs ys : List D} {y : D}
@[simp] theorem kPop_ev : kPop (.loc n) [] e = popK (e.cell n) n e := by
  unfold kPop popK
  rfl
@[simp] theorem popK_snoc : popK (some (.lst (xs ++ [y]))) n e = .ok (.d y) (e.setC n (some (.lst xs))) := by
  unfold popK
  simp
@[simp] theorem popK_one : popK (some (.lst [y])) n e = .ok (.d y) (e.setC n (some (.lst []))) := rfl
def extK (o : Option Cell) (ys : List D) (n : Nat) (e : Env) : Rs W := match o with
    | some (.lst xs) => if xs.length + ys.length ≤ sizeLine then .ok (.d .non) (e.setC n (some (.lst (xs ++ ys)))) else .fail
    | _ => .fail
@[simp] theorem kExtend_ev : kExtend (.loc n) [.d (.lst ys)] e = extK (e.cell n) ys n e := rfl
@[simp] theorem extK_lst : extK (some (.lst xs)) ys n e = if xs.length + ys.length ≤ sizeLine then .ok (.d .non) (e.setC n (some (.lst (xs ++ ys)))) else .fail := rfl
end
end Dl
end
section
set_option Elab.async false
set_option linter.all false
set_option maxRecDepth 100000
set_option maxHeartbeats 8000000
namespace Tp
open PySem L2 Dl
/-! the reader's object, and what its defs do with it -/
@[simp] abbrev rdC (C : Cs) (z : Str) (a s : Nat) : Cell := .obj C.QuestionReader [("text", .d (.str z)), ("at", .d (.int a)), ("steps", .d (.int s))]
abbrev xq (C : Cs) (p : Nat) (r : Rsn) : Xn := ⟨C.InvalidQuestion, some [("reason", .str r.s), ("column", .int ((p : Int) + 1))]⟩
theorem drop_some {z : Str} {a c : Nat} (h : (ch z)[a]? = some c) : (ch z).drop a = c :: (ch z).drop (a + 1) := by
  have hl := lt_of_at h
  rw [List.drop_eq_getElem_cons hl]
  rw [List.getElem?_eq_getElem hl] at h
  rw [Option.some.inj h]
theorem drop_none {z : Str} {a : Nat} (h : (ch z)[a]? = none) : (ch z).drop a = [] := by
  rw [List.getElem?_eq_none_iff] at h
  exact List.drop_eq_nil_of_le h
theorem cutS_cut (z : Str) (lo hi : Option Int) : cutS z lo hi = ⟨(cutL (ch z) lo hi).toArray⟩ := by
  unfold cutS cutL
  rw [ch_len]
  rfl
theorem cutS_nat (z : Str) (a b : Nat) : cutS z (some (a : Int)) (some (b : Int)) = ⟨(((ch z).drop a).take (b - a)).toArray⟩ := by rw [cutS_cut, cutL_nat]
/-- the sign at a place, as a text -/
def sgn (z : Str) (a : Nat) : Str := match (ch z)[a]? with
  | some c => ⟨#[c]⟩
  | none => ⟨#[]⟩
theorem cut_sgn (z : Str) (a : Nat) : cutS z (some (a : Int)) (some ((a : Int) + 1)) = sgn z a := by
  rw [show (a : Int) + 1 = ((a + 1 : Nat) : Int) by omega, cutS_nat]
  unfold sgn
  cases h : (ch z)[a]? with
  | none => rw [drop_none h, List.take_nil]
  | some c => rw [drop_some h, show a + 1 - a = 1 by omega]; rfl
@[simp] theorem slD_str {z : Str} {lo hi : Option Int} (h : z.length ≤ 16777216) : slD (.str z) lo hi = some (.str (cutS z lo hi)) := by
  show (if z.length ≤ sizeLine then _ else _) = _
  exact if_pos (by rw [sizeL]; exact h)
section
variable (C : Cs) (z : Str) (hz : z.length ≤ 16777216) (a s : Nat)
include hz
theorem sign_ok : F_QuestionReader_sign C [.loc 0] [rdC C z a s] = .ok (.d (.str (sgn z a))) [rdC C z a s] := by
  have h := cut_sgn z a
  simp -implicitDefEqProofs [F_QuestionReader_sign, fb_QuestionReader_sign, env0, hz, h, lookup_if]
omit hz in
theorem fail_ok (p : Nat) (r : Str) : F_QuestionReader_fail C [.loc 0, .d (.int p), .d (.str r)] [rdC C z a s] = .exn ⟨C.InvalidQuestion, some [("reason", .str r), ("column", .int ((p : Int) + 1))]⟩ [rdC C z a s] := by
  simp -implicitDefEqProofs [F_QuestionReader_fail, fb_QuestionReader_fail, env0]
end
theorem is_sign_ok (C : Cs) (c : Nat) : F_is_sign C [.d (.str ⟨#[c]⟩)] [] = .ok (.d (.bl (isSgn c))) [] := by
  have e1 : ((⟨#[c]⟩ : Str) == ("\n" : Str)) = (c == 10) := by
    rw [Bool.eq_iff_iff, beq_iff_eq, beq_iff_eq, show ("\n" : Str) = ⟨#[10]⟩ by decide +kernel]
    simp
  have e2 : (" " : Str).cps.toList = [32] := by decide +kernel
  have e3 : ("~" : Str).cps.toList = [126] := by decide +kernel
  have h2 : ∀ a b : Nat, (!decide ([a] < [b])) = decide (b ≤ a) := fun a b => by
    rw [lt_one, Bool.eq_iff_iff]; simp
  unfold isSgn
  by_cases h3 : 32 ≤ c
  · by_cases h4 : c ≤ 126
    · simp -implicitDefEqProofs [F_is_sign, fb_is_sign, env0, e1, e2, e3, h2, h3, h4]
    · simp -implicitDefEqProofs [F_is_sign, fb_is_sign, env0, e1, e2, e3, h2, h3, h4]
  · simp -implicitDefEqProofs [F_is_sign, fb_is_sign, env0, e1, e2, e3, h2, h3]
theorem take_while_len {p : Nat → Bool} : ∀ l : List Nat, l.take (l.takeWhile p).length = l.takeWhile p
  | [] => rfl
  | c :: r => by
    rw [List.takeWhile_cons]
    split
    · rw [List.length_cons, List.take_succ_cons, take_while_len r]
    · rfl
end Tp
end
section
set_option Elab.async false
set_option linter.all false
set_option maxRecDepth 100000
set_option maxHeartbeats 8000000
namespace Tp
open PySem L2 Dl
theorem sgn_nil {z : Str} {a : Nat} (h : (ch z).drop a = []) : sgn z a = (⟨#[]⟩ : Str) := by
  unfold sgn
  rw [List.drop_eq_nil_iff] at h
  rw [List.getElem?_eq_none h]
theorem sgn_cons {z : Str} {a c : Nat} {r : List Nat} (h : (ch z).drop a = c :: r) : sgn z a = ⟨#[c]⟩ := by
  unfold sgn
  have : (ch z)[a]? = some c := by
    have := congrArg List.head? h
    rw [List.head?_drop] at this
    simpa using this
  rw [this]
theorem drop_next {z : Str} {a c : Nat} {r : List Nat} (h : (ch z).drop a = c :: r) : (ch z).drop (a + 1) = r := by
  have := congrArg List.tail h
  rw [List.tail_drop] at this
  simpa using this
@[simp] theorem one_nil (c : Nat) : ((⟨#[c]⟩ : Str) == "") = false := by
  rw [beq_eq_false_iff_ne, show ("" : Str) = ⟨#[]⟩ by decide +kernel]
  intro h; cases h
theorem one_lit {c d : Nat} {s : Str} (h : s = ⟨#[d]⟩) : ((⟨#[c]⟩ : Str) == s) = (c == d) := by
  rw [h, Bool.eq_iff_iff, beq_iff_eq, beq_iff_eq]
  simp
@[simp] theorem one_slash (c : Nat) : ((⟨#[c]⟩ : Str) == "/") = (c == 47) := one_lit (by decide +kernel)
@[simp] theorem one_quote (c : Nat) : ((⟨#[c]⟩ : Str) == "\"") = (c == 34) := one_lit (by decide +kernel)
@[simp] theorem one_back (c : Nat) : ((⟨#[c]⟩ : Str) == "\\") = (c == 92) := one_lit (by decide +kernel)
@[simp] theorem one_line (c : Nat) : ((⟨#[c]⟩ : Str) == "\n") = (c == 10) := one_lit (by decide +kernel)
@[simp] theorem one_star (c : Nat) : ((⟨#[c]⟩ : Str) == "*") = (c == 42) := one_lit (by decide +kernel)
@[simp] theorem one_hash (c : Nat) : ((⟨#[c]⟩ : Str) == "#") = (c == 35) := one_lit (by decide +kernel)
@[simp] theorem one_open (c : Nat) : ((⟨#[c]⟩ : Str) == "[") = (c == 91) := one_lit (by decide +kernel)
@[simp] theorem one_close (c : Nat) : ((⟨#[c]⟩ : Str) == "]") = (c == 93) := one_lit (by decide +kernel)
@[simp] theorem nil_nil : ((⟨#[]⟩ : Str) == "") = true := by decide +kernel
@[simp] theorem nil_slash : ((⟨#[]⟩ : Str) == "/") = false := by decide +kernel
@[simp] theorem nil_quote : ((⟨#[]⟩ : Str) == "\"") = false := by decide +kernel
@[simp] theorem nil_back : ((⟨#[]⟩ : Str) == "\\") = false := by decide +kernel
@[simp] theorem nil_star : ((⟨#[]⟩ : Str) == "*") = false := by decide +kernel
@[simp] theorem nil_hash : ((⟨#[]⟩ : Str) == "#") = false := by decide +kernel
@[simp] theorem nil_open : ((⟨#[]⟩ : Str) == "[") = false := by decide +kernel
@[simp] theorem nil_close : ((⟨#[]⟩ : Str) == "]") = false := by decide +kernel
theorem letters_ch : ch "abcdefghijklmnopqrstuvwxyz" = List.range' 97 26 := by decide +kernel
theorem letter_in (c : Nat) : strIn ⟨#[c]⟩ "abcdefghijklmnopqrstuvwxyz" = isLet c := by
  unfold isLet
  rw [strIn_char, letters_ch, Bool.eq_iff_iff]
  simp [List.mem_range'_1]
  omega
theorem digit_in (c : Nat) : strIn ⟨#[c]⟩ "0123456789" = isDig c := by
  unfold isDig
  rw [strIn_char, show ch "0123456789" = List.range' 48 10 by decide +kernel, Bool.eq_iff_iff]
  simp [List.mem_range'_1]
  omega
theorem digit1_in (c : Nat) : strIn ⟨#[c]⟩ "123456789" = (decide (49 ≤ c) && decide (c ≤ 57)) := by
  rw [strIn_char, show ch "123456789" = List.range' 49 9 by decide +kernel, Bool.eq_iff_iff]
  simp [List.mem_range'_1]
  omega
/-- how far the signs go -/
def tw (p : Nat → Bool) (z : Str) (a : Nat) : Nat := (((ch z).drop a).takeWhile p).length
theorem tw_le (p : Nat → Bool) (z : Str) (a : Nat) : tw p z a ≤ z.length := by
  unfold tw
  have h1 := (List.takeWhile_sublist p (l := (ch z).drop a)).length_le
  rw [List.length_drop, ch_len] at h1
  omega
theorem tw_nil {p : Nat → Bool} {z : Str} {a : Nat} (h : (ch z).drop a = []) : tw p z a = 0 := by unfold tw; rw [h]; rfl
theorem tw_t {p : Nat → Bool} {z : Str} {a c : Nat} {r : List Nat} (h : (ch z).drop a = c :: r) (hp : p c = true) : tw p z a = tw p z (a + 1) + 1 := by
  unfold tw; rw [h, drop_next h, List.takeWhile_cons, if_pos hp]; rfl
theorem tw_f {p : Nat → Bool} {z : Str} {a c : Nat} {r : List Nat} (h : (ch z).drop a = c :: r) (hp : p c = false) : tw p z a = 0 := by
  unfold tw; rw [h, List.takeWhile_cons, if_neg (by rw [hp]; decide)]; rfl
theorem tw_cut (p : Nat → Bool) (z : Str) (a : Nat) : cutS z (some (a : Int)) (some ((a + tw p z a : Nat) : Int)) = ⟨(((ch z).drop a).takeWhile p).toArray⟩ := by
  rw [cutS_nat, show a + tw p z a - a = tw p z a by omega]
  unfold tw
  rw [take_while_len]
section
variable (C : Cs) (z : Str) (hz : z.length ≤ 5000)
include hz
theorem test_w1 (a0 a s : Nat) : fb_QuestionReader_test_w1 C (E_QuestionReader_test (x_self := some (.loc 0)) (x_start := some (.d (.int a0))) (c0 := some (rdC C z a s))) = .nx (E_QuestionReader_test (x_self := some (.loc 0)) (x_start := some (.d (.int a0))) (c0 := some (rdC C z (a + tw isLet z a : Nat) s))) := by
  unfold fb_QuestionReader_test_w1
  refine while_i (S := Nat) (fun b => E_QuestionReader_test (x_self := some (.loc 0)) (x_start := some (.d (.int a0))) (c0 := some (rdC C z b s))) (fun b => b + tw isLet z b = a + tw isLet z a) (fun b => tw isLet z b)
    (fun r => r = .nx (E_QuestionReader_test (x_self := some (.loc 0)) (x_start := some (.d (.int a0))) (c0 := some (rdC C z (a + tw isLet z a : Nat) s)))) a rfl (by have := tw_le isLet z a; show tw isLet z a < 1000000; omega) ?_
  intro b hb
  have e0 := sign_ok C z (by omega) b s
  cases h : (ch z).drop b with
  | nil =>
    right; left
    rw [sgn_nil h] at e0
    rw [tw_nil h] at hb
    refine ⟨_, ?_, rfl⟩
    simp -implicitDefEqProofs [hasNo_if, lookup_if, e0]
    omega
  | cons c r =>
    rw [sgn_cons h] at e0
    have hi := letter_in c
    cases hp : isLet c with
    | true =>
      left
      have t1 := tw_t h hp
      refine ⟨b + 1, ?_, by omega, by omega⟩
      simp -implicitDefEqProofs [hasNo_if, lookup_if, e0, inB, hi, hp, fb_QuestionReader_test_w1b, lookup_if]
    | false =>
      right; left
      rw [tw_f h hp] at hb
      refine ⟨_, ?_, rfl⟩
      simp -implicitDefEqProofs [hasNo_if, lookup_if, e0, inB, hi, hp]
      omega
end
end Tp
end
section
set_option Elab.async false
set_option linter.all false
set_option maxRecDepth 100000
set_option maxHeartbeats 8000000
namespace Tp
open PySem L2 Dl
/-- a def's answer is the plain reader's -/
def Out {α : Type} (C : Cs) (z : Str) (f : α → D) (r : CR) : PR α → Prop
  | .ok v l a s => r = .ok (.d (f v)) [rdC C z a s] ∧ l = (ch z).drop a
  | .er p x => ∃ a s, r = .exn (xq C p x) [rdC C z a s]
theorem testP_if {l : List Nat} {a s : Nat} (h : ∀ c r, l = c :: r → c ≠ 42 ∧ c ≠ 35) : testP l a s = if 1 ≤ (l.takeWhile isLet).length ∧ (l.takeWhile isLet).length ≤ 12 then .ok ⟨(l.takeWhile isLet).toArray⟩ (l.drop (l.takeWhile isLet).length) (a + (l.takeWhile isLet).length) s else .er a .test := by
  unfold testP
  split
  · exact absurd rfl (h _ _ rfl).1
  · exact absurd rfl (h _ _ rfl).2
  · rfl
theorem str_comm (x y : Str) : (x == y) = (y == x) := by rw [Bool.eq_iff_iff, beq_iff_eq, beq_iff_eq]; exact eq_comm
@[simp] theorem inSeq2 (x a b : Str) : inSeq (.str x) [.str a, .str b] = some (x == a || x == b) := by
  rw [str_comm x a, str_comm x b, ← Bool.or_false (b == x)]
  rfl
section
variable (C : Cs) (z : Str) (hz : z.length ≤ 5000)
include hz
theorem test_ok (a s : Nat) : Out C z .str (F_QuestionReader_test C [.loc 0] [rdC C z a s]) (testP ((ch z).drop a) a s) := by
  have e0 := sign_ok C z (by omega) a s
  have hz' : z.length ≤ 16777216 := by omega
  have ef := fail_ok C z (a + tw isLet z a) s a "test"
  have ew := test_w1 C z hz a a s
  have ec := tw_cut isLet z a
  simp -implicitDefEqProofs at ew
  have star : (∃ c r, (ch z).drop a = c :: r ∧ (c = 42 ∨ c = 35)) ∨ ∀ c r, (ch z).drop a = c :: r → c ≠ 42 ∧ c ≠ 35 := by
    cases h : (ch z).drop a with
    | nil => right; intro c r e; cases e
    | cons c r =>
      by_cases h1 : c = 42
      · exact .inl ⟨c, r, rfl, .inl h1⟩
      · by_cases h2 : c = 35
        · exact .inl ⟨c, r, rfl, .inr h2⟩
        · exact .inr fun c' r' e => by cases e; exact ⟨h1, h2⟩
  rcases star with ⟨c, r, h, hc⟩ | hn
  · rw [sgn_cons h] at e0
    have hcut : cutS z (some (a : Int)) (some ((a : Int) + 1)) = ⟨#[c]⟩ := by rw [cut_sgn, sgn_cons h]
    rw [h]
    rcases hc with rfl | rfl
    · show _ = _ ∧ _ = _
      refine ⟨?_, (drop_next h).symm⟩
      simp -implicitDefEqProofs [F_QuestionReader_test, fb_QuestionReader_test, env0, hasNo_if, lookup_if, e0, sizeL, inB, hz', hcut]
    · show _ = _ ∧ _ = _
      refine ⟨?_, (drop_next h).symm⟩
      simp -implicitDefEqProofs [F_QuestionReader_test, fb_QuestionReader_test, env0, hasNo_if, lookup_if, e0, sizeL, inB, hz', hcut]
  · rw [testP_if hn]
    have e1 : ((sgn z a) == "*") = false ∧ ((sgn z a) == "#") = false := by
      cases h : (ch z).drop a with
      | nil => rw [sgn_nil h]; exact ⟨nil_star, nil_hash⟩
      | cons c r =>
        rw [sgn_cons h, one_star, one_hash]
        exact ⟨beq_false_of_ne (hn c r h).1, beq_false_of_ne (hn c r h).2⟩
    obtain ⟨e1, e2⟩ := e1
    have hk : (a : Int) + tw isLet z a - a = tw isLet z a := by omega
    have hc2 := ec
    rw [show ((a + tw isLet z a : Nat) : Int) = (a : Int) + tw isLet z a by omega] at hc2
    change Out C z .str _ (if 1 ≤ tw isLet z a ∧ tw isLet z a ≤ 12 then _ else _)
    by_cases h1 : 1 ≤ tw isLet z a
    · by_cases h2 : tw isLet z a ≤ 12
      · rw [if_pos ⟨h1, h2⟩]
        refine ⟨?_, List.drop_drop⟩
        have h1' : (1 : Int) ≤ tw isLet z a := by omega
        have h2' : (tw isLet z a : Int) ≤ 12 := by omega
        simp -implicitDefEqProofs [F_QuestionReader_test, fb_QuestionReader_test, env0, hasNo_if, lookup_if, e0, sizeL, inB, e1, e2, hz', ew, hk, h1', h2', hc2]
        rfl
      · rw [if_neg (by omega)]
        have h1' : (1 : Int) ≤ tw isLet z a := by omega
        have h2' : ¬ (tw isLet z a : Int) ≤ 12 := by omega
        refine ⟨a + tw isLet z a, s, ?_⟩
        simp -implicitDefEqProofs [F_QuestionReader_test, fb_QuestionReader_test, env0, hasNo_if, lookup_if, e0, sizeL, inB, e1, e2, hz', ew, hk, h1', h2', hc2]
        simp -implicitDefEqProofs at ef
        simp -implicitDefEqProofs [ef, Rsn.s]
    · rw [if_neg (by omega)]
      have h1' : ¬ (1 : Int) ≤ tw isLet z a := by omega
      refine ⟨a + tw isLet z a, s, ?_⟩
      simp -implicitDefEqProofs [F_QuestionReader_test, fb_QuestionReader_test, env0, hasNo_if, lookup_if, e0, sizeL, inB, e1, e2, hz', ew, hk, h1', hc2]
      simp -implicitDefEqProofs at ef
      simp -implicitDefEqProofs [ef, Rsn.s]
end
end Tp
end
section
set_option Elab.async false
set_option linter.all false
set_option maxRecDepth 100000
set_option maxHeartbeats 8000000
namespace Tp
open PySem L2 Dl
@[simp] theorem agK_exn {i : Nat} {g : D → D → Option D} {d : D} {x : Xn} {e : Dl.Env} : agK i g (some (.d d)) (.exn x e) = .exn x e := rfl
def oneP (start : Nat) (c : Nat) (r : List Nat) (a s : Nat) : PR Nat :=
  if c = 92 then (match r with
      | [] => .er start .string
      | d :: r2 => (match escOf d with
        | some x => .ok x r2 (a + 2) s
        | none => .er (a + 1) .sign))
    else if c = 10 ∨ isSgn c = false then .er a .sign
    else .ok c r (a + 1) s
theorem strP_cons (start c : Nat) (r : List Nat) (a s : Nat) (acc : List Nat) : strP start (c :: r) a s acc = if c = 34 then .ok acc (c :: r) a s else match oneP start c r a s with
    | .ok x l2 a2 s2 => strP start l2 a2 s2 (acc ++ [x])
    | .er p x => .er p x := by
  rw [strP.eq_def]
  unfold oneP
  by_cases h1 : c = 34
  · rw [if_pos h1]; exact if_pos h1
  · rw [if_neg h1]
    refine (if_neg h1).trans ?_
    by_cases h2 : c = 92
    · rw [if_pos h2]
      rw [if_pos h2]
      cases r with
      | nil => rfl
      | cons d r2 =>
        dsimp only
        cases escOf d <;> rfl
    · rw [if_neg h2, if_neg h2]
      by_cases h3 : c = 10 ∨ isSgn c = false
      · rw [if_pos h3, if_pos h3]
      · rw [if_neg h3, if_neg h3]
theorem one_eq {c d : Nat} {s : Str} (h : s = ⟨#[d]⟩) : ((⟨#[c]⟩ : Str) = s) = (c = d) := by
  rw [h]
  simp
theorem esc_look (d : Nat) : gt_ESCAPES.lookup (⟨#[d]⟩ : Str) = (escOf d).map fun x => (.str ⟨#[x]⟩ : D) := by
  unfold gt_ESCAPES escOf
  rw [lookup_if, lookup_if, lookup_if]
  have k1 : ("\"" : Str) = ⟨#[34]⟩ := by decide +kernel
  have k2 : ("\\" : Str) = ⟨#[92]⟩ := by decide +kernel
  have k3 : ("n" : Str) = ⟨#[110]⟩ := by decide +kernel
  have k4 : ("\n" : Str) = ⟨#[10]⟩ := by decide +kernel
  by_cases h1 : d = 34
  · rw [if_pos ((one_eq k1).mpr h1), if_pos h1, k1]; rfl
  · rw [if_neg (fun q => h1 ((one_eq k1).mp q)), if_neg h1]
    by_cases h2 : d = 92
    · rw [if_pos ((one_eq k2).mpr h2), if_pos h2, k2]; rfl
    · rw [if_neg (fun q => h2 ((one_eq k2).mp q)), if_neg h2]
      by_cases h3 : d = 110
      · rw [if_pos ((one_eq k3).mpr h3), if_pos h3, k4]; rfl
      · rw [if_neg (fun q => h3 ((one_eq k3).mp q)), if_neg h3]; rfl
theorem ix_sgn {z : Str} (hz : z.length ≤ 16777216) {a c : Nat} {r : List Nat} (h : (ch z).drop a = c :: r) : ixDD (.str z) (a : Int) = some (.str ⟨#[c]⟩) := by
  have hc : (ch z)[a]? = some c := by
    have := congrArg List.head? h
    rw [List.head?_drop] at this
    simpa using this
  have e : atI z.cps.toList (a : Int) = some c := by
    rw [Dl.atI_nat]
    exact hc
  show (if z.length ≤ sizeLine then _ else none) = _
  rw [if_pos (by rw [sizeL]; exact hz), e]
section
variable (C : Cs) (z : Str) (hz : z.length ≤ 5000)
include hz
theorem one_ok (start a s : Nat) {c : Nat} {r : List Nat} (h : (ch z).drop a = c :: r) : Out C z (fun x => .str ⟨#[x]⟩) (F_QuestionReader_one_sign C [.loc 0, .d (.int start)] [rdC C z a s]) (oneP start c r a s) := by
  have e0 := sign_ok C z (by omega) a s
  have e1 := sign_ok C z (by omega) (a + 1) s
  have hz' : z.length ≤ 16777216 := by omega
  rw [sgn_cons h] at e0
  have es := is_sign_ok C c
  have ef := fail_ok C z a s a "sign"
  have ef1 := fail_ok C z (a + 1) s (a + 1 : Nat) "sign"
  have ef2 := fail_ok C z (a + 1) s start "string"
  simp -implicitDefEqProofs at ef ef1 ef2 e1
  unfold oneP
  by_cases h2 : c = 92
  · rw [if_pos h2]
    subst h2
    cases r with
    | nil =>
      rw [sgn_nil (drop_next h)] at e1
      refine ⟨a + 1, s, ?_⟩
      simp -implicitDefEqProofs [F_QuestionReader_one_sign, fb_QuestionReader_one_sign, env0, hasNo_if, lookup_if, e0, e1, ef2, sizeL, hz', Rsn.s]
    | cons d r2 =>
      rw [sgn_cons (drop_next h)] at e1
      dsimp only
      have el := esc_look d
      cases hd : escOf d with
      | none =>
        rw [hd] at el
        refine ⟨a + 1, s, ?_⟩
        simp -implicitDefEqProofs [el, F_QuestionReader_one_sign, fb_QuestionReader_one_sign, env0, hasNo_if, lookup_if, e0, e1, ef1, sizeL, hz', Rsn.s]
      | some x =>
        rw [hd] at el
        have hx := ix_sgn hz' (drop_next h)
        rw [show ((a + 1 : Nat) : Int) = (a : Int) + 1 by omega] at hx
        have h12 : (a : Int) + 1 + 1 = a + 2 := by omega
        have h13 : (a : Int) + 2 - 1 = a + 1 := by omega
        refine ⟨?_, (drop_next (by exact drop_next h)).symm⟩
        simp -implicitDefEqProofs [el, hx, h12, h13, F_QuestionReader_one_sign, fb_QuestionReader_one_sign, env0, hasNo_if, lookup_if, e0, e1, ef1, sizeL, hz', Rsn.s]
  · rw [if_neg h2]
    by_cases h3 : c = 10 ∨ isSgn c = false
    · rw [if_pos h3]
      refine ⟨a, s, ?_⟩
      by_cases h4 : c = 10
      · simp -implicitDefEqProofs [F_QuestionReader_one_sign, fb_QuestionReader_one_sign, env0, hasNo_if, lookup_if, e0, e1, ef, sizeL, hz', Rsn.s, h2, h4]
      · have h5 : isSgn c = false := h3.resolve_left h4
        simp -implicitDefEqProofs [F_QuestionReader_one_sign, fb_QuestionReader_one_sign, env0, hasNo_if, lookup_if, e0, e1, es, ef, sizeL, hz', Rsn.s, h2, h4, h5]
    · rw [if_neg h3]
      refine ⟨?_, (drop_next h).symm⟩
      have h4 : ¬ c = 10 := fun e => h3 (.inl e)
      have h5 : isSgn c = true := by
        cases q : isSgn c with
        | true => rfl
        | false => exact absurd (.inr q) h3
      simp -implicitDefEqProofs [F_QuestionReader_one_sign, fb_QuestionReader_one_sign, env0, hasNo_if, lookup_if, e0, e1, es, ef, sizeL, hz', Rsn.s, h2, h4, h5]
/-- what the loop says -/
def StrZ (C : Cs) (z : Str) (start : Nat) (P : PR (List Nat)) (r : SR) : Prop := match P with
  | .ok acc l a s => r = .nx (E_QuestionReader_string (x_self := some (.loc 0)) (x_start := some (.d (.int start))) (x_found := some (.d (.str ⟨acc.toArray⟩))) (c0 := some (rdC C z a s))) ∧ l = (ch z).drop a ∧ acc.length ≤ z.length
  | .er p x => ∃ a s f, r = .exn (xq C p x) (E_QuestionReader_string (x_self := some (.loc 0)) (x_start := some (.d (.int start))) (x_found := f) (c0 := some (rdC C z a s)))
theorem oneP_len {start c : Nat} {r : List Nat} {a s x : Nat} {l : List Nat} {a2 s2 : Nat} (h : oneP start c r a s = .ok x l a2 s2) : l.length ≤ r.length ∧ a < a2 ∧ s2 = s := by
  unfold oneP at h
  split at h
  · split at h
    · cases h
    · split at h
      · cases h; exact ⟨by simp, by omega, rfl⟩
      · cases h
  · split at h
    · cases h
    · cases h; exact ⟨by simp, by omega, rfl⟩
theorem string_w1 (start a s : Nat) : StrZ C z start (strP start ((ch z).drop a) a s []) (fb_QuestionReader_string_w1 C (E_QuestionReader_string (x_self := some (.loc 0)) (x_start := some (.d (.int start))) (x_found := some (.d (.str ""))) (c0 := some (rdC C z a s)))) := by
  unfold fb_QuestionReader_string_w1
  rw [show ("" : Str) = ⟨(([] : List Nat)).toArray⟩ by decide +kernel]
  refine while_i (S := Nat × Nat × List Nat) (fun t => E_QuestionReader_string (x_self := some (.loc 0)) (x_start := some (.d (.int start))) (x_found := some (.d (.str ⟨t.2.2.toArray⟩))) (c0 := some (rdC C z t.1 t.2.1)))
    (fun t => strP start ((ch z).drop t.1) t.1 t.2.1 t.2.2 = strP start ((ch z).drop a) a s [] ∧ t.2.2.length + ((ch z).drop t.1).length ≤ z.length) (fun t => ((ch z).drop t.1).length) _ (a, s, []) ⟨rfl, ?_⟩ ?_ ?_
  · show 0 + ((ch z).drop a).length ≤ _
    rw [List.length_drop, ch_len]; omega
  · show ((ch z).drop a).length < 1000000
    rw [List.length_drop, ch_len]; omega
  rintro ⟨b, s, acc⟩ ⟨hP, hl⟩
  dsimp only at hP hl ⊢
  rw [← hP]
  have hz' : z.length ≤ 16777216 := by omega
  have e0 := sign_ok C z hz' b s
  have ef := fail_ok C z b s start "string"
  simp -implicitDefEqProofs at ef
  cases h : (ch z).drop b with
  | nil =>
    rw [sgn_nil h] at e0
    rw [h] at hP
    right; right; right
    refine ⟨xq C start .string, E_QuestionReader_string (x_self := some (.loc 0)) (x_start := some (.d (.int start))) (x_found := some (.d (.str ⟨acc.toArray⟩))) (c0 := some (rdC C z b s)), ?_, b, s, _, rfl⟩
    simp -implicitDefEqProofs [fb_QuestionReader_string_w1b, hasNo_if, lookup_if, e0, ef, sizeL, hz', Rsn.s]
  | cons c r =>
    rw [sgn_cons h] at e0
    rw [strP_cons]
    by_cases hq : c = 34
    · right; left
      rw [if_pos hq]
      refine ⟨_, ?_, rfl, h.symm, by omega⟩
      simp -implicitDefEqProofs [fb_QuestionReader_string_w1b, hasNo_if, lookup_if, e0, ef, sizeL, hz', hq]
    · rw [if_neg hq]
      have hqb : (c == 34) = false := beq_false_of_ne hq
      have eo := one_ok C z hz start b s h
      cases ho : oneP start c r b s with
      | er p x =>
        rw [ho] at eo
        obtain ⟨b', s', eo⟩ := eo
        right; right; right
        refine ⟨xq C p x, E_QuestionReader_string (x_self := some (.loc 0)) (x_start := some (.d (.int start))) (x_found := some (.d (.str ⟨acc.toArray⟩))) (c0 := some (rdC C z b' s')), ?_, b', s', _, rfl⟩
        simp -implicitDefEqProofs [fb_QuestionReader_string_w1b, hasNo_if, lookup_if, e0, ef, eo, sizeL, hz', hqb]
      | ok x l2 a2 s2 =>
        rw [ho] at eo
        obtain ⟨eo, hl2⟩ := eo
        left
        obtain ⟨k1, k2, k3⟩ := oneP_len z hz ho
        rw [h, List.length_cons] at hl
        have ap : (⟨acc.toArray⟩ : Str) ++ (⟨#[x]⟩ : Str) = ⟨(acc ++ [x]).toArray⟩ := by
          apply ch_inj; rw [ch_app]; simp [ch]
        have ln : (⟨acc.toArray⟩ : Str).length + (⟨#[x]⟩ : Str).length ≤ 16777216 := by
          show acc.toArray.size + 1 ≤ _
          rw [List.size_toArray]; omega
        refine ⟨(a2, s2, acc ++ [x]), ?_, ⟨?_, ?_⟩, ?_⟩
        · simp -implicitDefEqProofs [fb_QuestionReader_string_w1b, hasNo_if, lookup_if, e0, ef, eo, sizeL, hz', hqb, ap, ln]
        · dsimp only
          rw [← hl2]
        · dsimp only
          rw [← hl2, List.length_append]; simp; omega
        · dsimp only
          rw [← hl2]; simp; omega
theorem string_ok (a s : Nat) : Out C z .str (F_QuestionReader_string C [.loc 0] [rdC C z a s]) (stringP ((ch z).drop a) a s) := by
  have w := string_w1 C z hz a (a + 1) s
  rw [← List.drop_drop] at w
  unfold stringP
  cases hp : strP a (((ch z).drop a).drop 1) (a + 1) s [] with
  | er p x =>
    rw [hp] at w
    obtain ⟨b, s', f, w⟩ := w
    refine ⟨b, s', ?_⟩
    simp -implicitDefEqProofs at w
    simp -implicitDefEqProofs [F_QuestionReader_string, fb_QuestionReader_string, env0, hasNo_if, lookup_if, w]
  | ok acc l b s' =>
    rw [hp] at w
    obtain ⟨w, hl, hn⟩ := w
    have ef := fail_ok C z (b + 1) s' a "string"
    simp -implicitDefEqProofs at w ef
    have hlen : (⟨acc.toArray⟩ : Str).length = acc.length := List.size_toArray ..
    have hs : acc.length ≤ 16777216 := by omega
    dsimp only
    by_cases h1 : 1 ≤ acc.length
    · have h1' : (1 : Int) ≤ acc.length := by omega
      by_cases h2 : acc.length ≤ 40
      · have h2' : (acc.length : Int) ≤ 40 := by omega
        rw [if_pos ⟨h1, h2⟩]
        refine ⟨?_, by rw [hl, List.drop_drop]⟩
        simp -implicitDefEqProofs [F_QuestionReader_string, fb_QuestionReader_string, env0, hasNo_if, lookup_if, w, sizeL, hlen, hs, h1', h2', ef]
      · have h2' : ¬ (acc.length : Int) ≤ 40 := by omega
        rw [if_neg (by omega)]
        refine ⟨b + 1, s', ?_⟩
        simp -implicitDefEqProofs [F_QuestionReader_string, fb_QuestionReader_string, env0, hasNo_if, lookup_if, w, sizeL, hlen, hs, h1', h2', ef, Rsn.s]
    · have h1' : ¬ (1 : Int) ≤ acc.length := by omega
      rw [if_neg (by omega)]
      refine ⟨b + 1, s', ?_⟩
      simp -implicitDefEqProofs [F_QuestionReader_string, fb_QuestionReader_string, env0, hasNo_if, lookup_if, w, sizeL, hlen, hs, h1', ef, Rsn.s]
end
end Tp
end
section
set_option Elab.async false
set_option linter.all false
set_option maxRecDepth 100000
set_option maxHeartbeats 8000000
namespace Tp
open PySem L2 Dl
theorem tw_mem {p : Nat → Bool} : ∀ {l : List Nat} {d : Nat}, d ∈ l.takeWhile p → p d = true
  | [], d, h => by simp at h
  | c :: r, d, h => by
    rw [List.takeWhile_cons] at h
    split at h
    · rename_i hp
      rcases List.mem_cons.mp h with rfl | h
      · exact hp
      · exact tw_mem h
    · simp at h
/-- what questions within a question say -/
def Asks (C : Cs) (z : Str) (Fq : Fd) (q : Nat → List Nat → Nat → Nat → PR D) (depth : Nat) : Prop :=
  ∀ a s, s ≤ 12 → Out C z id (Fq [.loc 0, .d (.int depth)] [rdC C z a s]) (q depth ((ch z).drop a) a s) ∧ ∀ v l a' s', q depth ((ch z).drop a) a s = .ok v l a' s' → s' ≤ 12 ∧ a ≤ a'
theorem strP_s {start : Nat} : ∀ (n : Nat) (l : List Nat) (a s : Nat) (acc : List Nat) (v : List Nat) (l2 : List Nat) (a2 s2 : Nat), l.length ≤ n → strP start l a s acc = .ok v l2 a2 s2 → s2 = s ∧ a ≤ a2
  | n, [], a, s, acc, v, l2, a2, s2, hn, h => by rw [strP.eq_def] at h; cases h
  | 0, c :: r, a, s, acc, v, l2, a2, s2, hn, h => by simp at hn
  | n + 1, c :: r, a, s, acc, v, l2, a2, s2, hn, h => by
    rw [strP_cons] at h
    split at h
    · cases h; exact ⟨rfl, Nat.le_refl _⟩
    · cases ho : oneP start c r a s with
      | er p x => rw [ho] at h; cases h
      | ok x l3 a3 s3 =>
        rw [ho] at h
        obtain ⟨k1, k2, k3⟩ := oneP_len "" (by decide +kernel) ho
        rw [List.length_cons] at hn
        rw [← k3]
        have := strP_s n l3 a3 s3 _ v l2 a2 s2 (by omega) h
        exact ⟨this.1, by omega⟩
theorem stringP_s {l : List Nat} {a s : Nat} {v : Str} {l2 : List Nat} {a2 s2 : Nat} (h : stringP l a s = .ok v l2 a2 s2) : s2 = s ∧ a ≤ a2 := by
  unfold stringP at h
  split at h
  · rename_i hs
    split at h
    · cases h; have := strP_s _ _ _ _ _ _ _ _ _ (Nat.le_refl _) hs; exact ⟨this.1, by omega⟩
    · cases h
  · cases h
theorem testP_s {l : List Nat} {a s : Nat} {v : Str} {l2 : List Nat} {a2 s2 : Nat} (h : testP l a s = .ok v l2 a2 s2) : s2 = s ∧ a ≤ a2 := by
  unfold testP at h
  split at h
  · cases h; exact ⟨rfl, by omega⟩
  · cases h; exact ⟨rfl, by omega⟩
  · split at h
    · cases h; exact ⟨rfl, by omega⟩
    · cases h
def axisS (below : Bool) : Str := if below = true then "below" else "child"
@[simp] theorem nx_axis1 : (("child" : Str) == "below") = false := by decide +kernel
theorem axis_b (below : Bool) : (axisS below == "below") = below := by
  cases below
  · exact nx_axis1
  · exact beq_self_eq_true _
theorem filter_s {C : Cs} {z : Str} {Fq : Fd} {q : Nat → List Nat → Nat → Nat → PR D} {depth : Nat} (hq : Asks C z Fq q (depth + 1)) {below : Bool} {a s : Nat} (hs : s ≤ 12) {v : D} {l2 : List Nat} {a2 s2 : Nat} (h : filterP q below depth ((ch z).drop a) a s = .ok v l2 a2 s2) : s2 ≤ 12 ∧ a ≤ a2 := by
  have hq := (hq a s hs).2
  revert h
  cases hl : (ch z).drop a with
  | nil => intro h; cases h
  | cons c r =>
    rw [hl] at hq
    intro h
    unfold filterP at h
    dsimp only at h
    split at h
    · split at h
      · rename_i he; cases h; exact hq _ _ _ _ he
      · cases h
    · split at h
      · split at h
        · rename_i he; cases h; have := stringP_s he; exact ⟨by omega, this.2⟩
        · cases h
      · split at h
        · split at h
          · cases h
          · cases h; exact ⟨hs, by omega⟩
        · cases h
section
variable (C : Cs) (z : Str) (hz : z.length ≤ 5000) (Fq : Fd)
include hz
theorem filter_w1 (x1 x2 x3 x4 : Option W) (a s : Nat) : fb_QuestionReader_filter_w1 C Fq (E_QuestionReader_filter (x_self := some (.loc 0)) (x_axis := x1) (x_depth := x2) (x_sign := x3) (x_start := x4) (c0 := some (rdC C z a s))) = .nx (E_QuestionReader_filter (x_self := some (.loc 0)) (x_axis := x1) (x_depth := x2) (x_sign := x3) (x_start := x4) (c0 := some (rdC C z (a + tw isDig z a : Nat) s))) := by
  unfold fb_QuestionReader_filter_w1
  refine while_i (S := Nat) (fun b => E_QuestionReader_filter (x_self := some (.loc 0)) (x_axis := x1) (x_depth := x2) (x_sign := x3) (x_start := x4) (c0 := some (rdC C z b s))) (fun b => b + tw isDig z b = a + tw isDig z a) (fun b => tw isDig z b)
    (fun r => r = .nx (E_QuestionReader_filter (x_self := some (.loc 0)) (x_axis := x1) (x_depth := x2) (x_sign := x3) (x_start := x4) (c0 := some (rdC C z (a + tw isDig z a : Nat) s)))) a rfl (by have := tw_le isDig z a; show tw isDig z a < 1000000; omega) ?_
  intro b hb
  have e0 := sign_ok C z (by omega) b s
  cases h : (ch z).drop b with
  | nil =>
    right; left
    rw [sgn_nil h] at e0
    rw [tw_nil h] at hb
    refine ⟨_, ?_, rfl⟩
    simp -implicitDefEqProofs [hasNo_if, lookup_if, e0]
    omega
  | cons c r =>
    rw [sgn_cons h] at e0
    have hi := digit_in c
    cases hp : isDig c with
    | true =>
      left
      have t1 := tw_t h hp
      refine ⟨b + 1, ?_, by omega, by omega⟩
      simp -implicitDefEqProofs [hasNo_if, lookup_if, e0, inB, hi, hp, fb_QuestionReader_filter_w1b]
    | false =>
      right; left
      rw [tw_f h hp] at hb
      refine ⟨_, ?_, rfl⟩
      simp -implicitDefEqProofs [hasNo_if, lookup_if, e0, inB, hi, hp]
      omega
theorem filter_ok {q : Nat → List Nat → Nat → Nat → PR D} {depth : Nat} (hq : Asks C z Fq q (depth + 1)) (below : Bool) (a s : Nat) (hs : s ≤ 12) : Out C z id (F_QuestionReader_filter C Fq [.loc 0, .d (.str (axisS below)), .d (.int depth)] [rdC C z a s]) (filterP q below depth ((ch z).drop a) a s) := by
  have hq := (hq a s hs).1
  have hst := string_ok C z hz a s
  have hz' : z.length ≤ 16777216 := by omega
  have e0 := sign_ok C z hz' a s
  have ef := fail_ok C z a s a "filter"
  have ef2 := fail_ok C z (a + tw isDig z a) s a "number"
  have ew := filter_w1 C z hz Fq (some (.d (.str (axisS below)))) (some (.d (.int depth))) (some (.d (.str (sgn z a)))) (some (.d (.int a))) a s
  have ec := tw_cut isDig z a
  have hxb := axis_b below
  have hdp : ((depth : Int) + 1) = ((depth + 1 : Nat) : Int) := by omega
  rw [show ((a + tw isDig z a : Nat) : Int) = (a : Int) + tw isDig z a by omega] at ec
  simp -implicitDefEqProofs at ew ef ef2
  cases h : (ch z).drop a with
  | nil =>
    rw [sgn_nil h] at e0
    refine ⟨a, s, ?_⟩
    simp -implicitDefEqProofs [F_QuestionReader_filter, fb_QuestionReader_filter, env0, hasNo_if, lookup_if, e0, ef, Rsn.s]
  | cons c r =>
    rw [h] at hq hst ec
    rw [sgn_cons h] at e0
    unfold filterP
    dsimp only
    by_cases h1 : c = 47
    · rw [if_pos h1]
      cases hp : q (depth + 1) (c :: r) a s with
      | er p x =>
        rw [hp] at hq
        obtain ⟨b, s', hq⟩ := hq
        refine ⟨b, s', ?_⟩
        simp -implicitDefEqProofs at hq
        simp -implicitDefEqProofs [F_QuestionReader_filter, fb_QuestionReader_filter, env0, hasNo_if, lookup_if, e0, h1, hq]
      | ok v l2 a2 s2 =>
        rw [hp] at hq
        obtain ⟨hq, hl2⟩ := hq
        refine ⟨?_, hl2⟩
        simp -implicitDefEqProofs at hq
        simp -implicitDefEqProofs [F_QuestionReader_filter, fb_QuestionReader_filter, env0, hasNo_if, lookup_if, e0, h1, hq, sizeL]
    · rw [if_neg h1]
      have b1 : (c == 47) = false := beq_false_of_ne h1
      by_cases h2 : c = 34
      · rw [if_pos h2]
        cases hp : stringP (c :: r) a s with
        | er p x =>
          rw [hp] at hst
          obtain ⟨b, s', hst⟩ := hst
          refine ⟨b, s', ?_⟩
          simp -implicitDefEqProofs [F_QuestionReader_filter, fb_QuestionReader_filter, env0, hasNo_if, lookup_if, e0, h2, hst]
        | ok v l2 a2 s2 =>
          rw [hp] at hst
          obtain ⟨hst, hl2⟩ := hst
          refine ⟨?_, hl2⟩
          simp -implicitDefEqProofs [F_QuestionReader_filter, fb_QuestionReader_filter, env0, hasNo_if, lookup_if, e0, h2, hst, sizeL]
      · rw [if_neg h2]
        have b2 : (c == 34) = false := beq_false_of_ne h2
        have hi := digit1_in c
        by_cases h3 : 49 ≤ c ∧ c ≤ 57
        · rw [if_pos h3]
          have h31 := h3.1
          have h32 := h3.2
          rw [sgn_cons h] at ew
          have htw : (c :: r).takeWhile isDig = ((ch z).drop a).takeWhile isDig := by rw [h]
          have hlen : (⟨(List.takeWhile isDig (c :: r)).toArray⟩ : Str).length = tw isDig z a := by
            show (List.takeWhile isDig (c :: r)).toArray.size = _
            rw [List.size_toArray, htw]; rfl
          have htl : tw isDig z a = (List.takeWhile isDig (c :: r)).length := by rw [htw]; rfl
          have hts : tw isDig z a ≤ 16777216 := by have := tw_le isDig z a; omega
          have fin : (r' : List Nat) → r' = List.drop (tw isDig z a) (c :: r) → r' = (ch z).drop (a + tw isDig z a) := fun r' e => by rw [e, ← h, List.drop_drop]
          cases hb : below with
          | true =>
            rw [hb] at ew hxb
            rw [if_pos (.inl rfl)]
            refine ⟨a + tw isDig z a, s, ?_⟩
            simp -implicitDefEqProofs [F_QuestionReader_filter, fb_QuestionReader_filter, env0, hasNo_if, lookup_if, e0, b1, b2, hi, h31, h32, notInB, inB, ew, hz', ec, ef2, hxb, sizeL, Rsn.s]
          | false =>
            rw [hb] at ew hxb
            by_cases h4 : 4 < (List.takeWhile isDig (c :: r)).length
            · rw [if_pos (.inr (.inl h4))]
              have h4' : (4 : Int) < tw isDig z a := by omega
              refine ⟨a + tw isDig z a, s, ?_⟩
              simp -implicitDefEqProofs [F_QuestionReader_filter, fb_QuestionReader_filter, env0, hasNo_if, lookup_if, e0, b1, b2, hi, h31, h32, notInB, inB, ew, hz', ec, ef2, hxb, sizeL, Rsn.s, hlen, hts, h4']
            · have h4' : ¬ (4 : Int) < tw isDig z a := by omega
              have hint : intS (.str ⟨(List.takeWhile isDig (c :: r)).toArray⟩) = some (.int (NumText.digitsVal (List.takeWhile isDig (c :: r)) : Nat)) := by
                have := intText_digits (x := ⟨(List.takeWhile isDig (c :: r)).toArray⟩) (fun d hd => by
                  have := tw_mem (p := isDig) (by simpa using hd)
                  unfold isDig at this
                  simpa using this) (by
                    simp only [List.takeWhile_cons]
                    have : isDig c = true := by unfold isDig; simp; omega
                    rw [if_pos this]
                    simp) (by rw [hlen]; omega)
                show (if (⟨(List.takeWhile isDig (c :: r)).toArray⟩ : Str).length ≤ 640 then _ else _) = _
                rw [if_pos (by rw [hlen]; omega), this]
              by_cases h5 : 5000 < NumText.digitsVal (List.takeWhile isDig (c :: r))
              · rw [if_pos (.inr (.inr h5))]
                have h5' : (5000 : Int) < (NumText.digitsVal (List.takeWhile isDig (c :: r)) : Nat) := by omega
                refine ⟨a + tw isDig z a, s, ?_⟩
                simp -implicitDefEqProofs [F_QuestionReader_filter, fb_QuestionReader_filter, env0, hasNo_if, lookup_if, e0, b1, b2, hi, h31, h32, notInB, inB, ew, hz', ec, ef2, hxb, sizeL, Rsn.s, hlen, hts, h4', hint, h5']
              · rw [if_neg (by rintro (x | x | x) <;> first | omega | cases x)]
                have h5' : ¬ (5000 : Int) < (NumText.digitsVal (List.takeWhile isDig (c :: r)) : Nat) := by omega
                refine ⟨?_, by rw [← htl]; exact fin _ rfl⟩
                simp -implicitDefEqProofs [F_QuestionReader_filter, fb_QuestionReader_filter, env0, hasNo_if, lookup_if, e0, b1, b2, hi, h31, h32, notInB, inB, ew, hz', ec, ef2, hxb, sizeL, Rsn.s, hlen, hts, h4', hint, h5', ← htl]
        · rw [if_neg h3]
          have hi2 : strIn ⟨#[c]⟩ "123456789" = false := by
            rw [hi, ← Bool.not_eq_true, Bool.and_eq_true, decide_eq_true_iff, decide_eq_true_iff]
            exact h3
          refine ⟨a, s, ?_⟩
          simp -implicitDefEqProofs [F_QuestionReader_filter, fb_QuestionReader_filter, env0, hasNo_if, lookup_if, e0, b1, b2, hi2, notInB, inB, hz', ef, Rsn.s]
end
end Tp
end
section
set_option Elab.async false
set_option linter.all false
set_option maxRecDepth 100000
set_option maxHeartbeats 8000000
namespace Tp
open PySem L2 Dl
abbrev Est (C : Cs) (z : Str) (x1 x2 x3 : Option W) (acc : List D) (a s : Nat) : Dl.Env := E_QuestionReader_step (x_self := some (.loc 0)) (x_depth := x1) (x_axis := x2) (x_test := x3) (x_filters := some (.loc 1)) (c0 := some (rdC C z a s)) (c1 := some (.lst acc))
def FilZ (C : Cs) (z : Str) (x1 x2 x3 : Option W) (P : PR (List D)) (r : SR) : Prop := match P with
  | .ok acc l a s => r = .nx (Est C z x1 x2 x3 acc a s) ∧ l = (ch z).drop a ∧ s ≤ 12 ∧ acc.length ≤ z.length
  | .er p x => ∃ a s acc, r = .exn (xq C p x) (Est C z x1 x2 x3 acc a s)
theorem drop_len (z : Str) (a : Nat) : ((ch z).drop a).length = z.length - a := by rw [List.length_drop, ch_len]
@[simp] theorem meK2_exn {g : W → List W → Ev} {w : W} {x : Xn} {e : Dl.Env} : meK2 true g w (.exn x e) = .exn x e := rfl
theorem filtersP_cons {q : Nat → List Nat → Nat → Nat → PR D} {below : Bool} {depth f c : Nat} {r : List Nat} {a s : Nat} {acc : List D} : filtersP q below depth (f + 1) (c :: r) a s acc = if c = 91 then (match filterP q below depth r (a + 1) s with
        | .ok v l2 a2 s2 => (match l2 with
          | [] => .er a2 .close
          | d :: r2 => if d = 93 then filtersP q below depth f r2 (a2 + 1) s2 (acc ++ [v]) else .er a2 .close)
        | .er p r => .er p r)
      else .ok acc (c :: r) a s := rfl
section
variable (C : Cs) (z : Str) (hz : z.length ≤ 5000) (Fq : Fd)
include hz
theorem step_w1 {q : Nat → List Nat → Nat → Nat → PR D} {depth : Nat} (hq : Asks C z Fq q (depth + 1)) (below : Bool) (x3 : Option W) (a s : Nat) (hs : s ≤ 12) :
    FilZ C z (some (.d (.int depth))) (some (.d (.str (axisS below)))) x3 (filtersP q below depth (((ch z).drop a).length + 1) ((ch z).drop a) a s []) (fb_QuestionReader_step_w1 C Fq (Est C z (some (.d (.int depth))) (some (.d (.str (axisS below)))) x3 [] a s)) := by
  unfold fb_QuestionReader_step_w1
  refine while_i (S := Nat × Nat × List D × Nat) (fun t => Est C z (some (.d (.int depth))) (some (.d (.str (axisS below)))) x3 t.2.2.1 t.1 t.2.1)
    (fun t => filtersP q below depth t.2.2.2 ((ch z).drop t.1) t.1 t.2.1 t.2.2.1 = filtersP q below depth (((ch z).drop a).length + 1) ((ch z).drop a) a s [] ∧ ((ch z).drop t.1).length < t.2.2.2 ∧ t.2.2.1.length + ((ch z).drop t.1).length ≤ z.length ∧ t.2.1 ≤ 12) (fun t => ((ch z).drop t.1).length) _ (a, s, [], ((ch z).drop a).length + 1) ⟨rfl, by show ((ch z).drop a).length < ((ch z).drop a).length + 1; omega, by show 0 + ((ch z).drop a).length ≤ _; rw [drop_len]; omega, hs⟩ (by show ((ch z).drop a).length < 1000000; rw [drop_len]; omega) ?_
  rintro ⟨b, s, acc, f⟩ ⟨hP, hf, hl, hs⟩
  dsimp only at hP hf hl hs ⊢
  rw [← hP]
  have hz' : z.length ≤ 16777216 := by omega
  have e0 := sign_ok C z hz' b s
  obtain ⟨f, rfl⟩ : ∃ g, f = g + 1 := ⟨f - 1, by omega⟩
  cases h : (ch z).drop b with
  | nil =>
    rw [sgn_nil h] at e0
    right; left
    refine ⟨_, ?_, rfl, h.symm, hs, by omega⟩
    simp -implicitDefEqProofs [fb_QuestionReader_step_w1b, hasNo_if, lookup_if, e0, sizeL, hz']
  | cons c r =>
    rw [sgn_cons h] at e0
    rw [filtersP_cons]
    by_cases h1 : c = 91
    · rw [if_pos h1]
      have hr := drop_next h
      rw [h, List.length_cons] at hl hf
      have eo := filter_ok C z hz Fq hq below (b + 1) s hs
      rw [hr] at eo
      cases hp : filterP q below depth r (b + 1) s with
      | er p x =>
        rw [hp] at eo
        obtain ⟨b', s', eo⟩ := eo
        simp -implicitDefEqProofs at eo
        right; right; right
        refine ⟨xq C p x, Est C z (some (.d (.int depth))) (some (.d (.str (axisS below)))) x3 acc b' s', ?_, b', s', _, rfl⟩
        simp -implicitDefEqProofs [fb_QuestionReader_step_w1b, hasNo_if, lookup_if, e0, eo, sizeL, hz', h1]
      | ok v l2 a2 s2 =>
        rw [hp] at eo
        obtain ⟨eo, hl2⟩ := eo
        rw [← hr] at hp
        obtain ⟨hs2, ha2⟩ := filter_s hq hs hp
        simp -implicitDefEqProofs at eo
        have e2 := sign_ok C z hz' a2 s2
        have ef := fail_ok C z a2 s2 a2 "close"
        simp -implicitDefEqProofs at ef
        have hacc : acc.length < 16777216 := by omega
        have hrl : r.length = z.length - (b + 1) := by rw [← hr, drop_len]
        have hdl := drop_len z (a2 + 1)
        dsimp only
        cases hc : l2 with
        | nil =>
          rw [hc] at hl2
          rw [sgn_nil hl2.symm] at e2
          right; right; right
          refine ⟨xq C a2 .close, Est C z (some (.d (.int depth))) (some (.d (.str (axisS below)))) x3 (acc ++ [v]) a2 s2, ?_, a2, s2, _, rfl⟩
          simp -implicitDefEqProofs [fb_QuestionReader_step_w1b, hasNo_if, lookup_if, e0, e2, ef, eo, sizeL, hz', h1, hacc, Rsn.s]
        | cons d r2 =>
          rw [hc] at hl2
          rw [sgn_cons hl2.symm] at e2
          dsimp only
          by_cases h2 : d = 93
          · rw [if_pos h2]
            have hr2 := drop_next hl2.symm
            left
            refine ⟨(a2 + 1, s2, acc ++ [v], f), ?_, ⟨?_, ?_, ?_, hs2⟩, ?_⟩
            · simp -implicitDefEqProofs [fb_QuestionReader_step_w1b, hasNo_if, lookup_if, e0, e2, ef, eo, sizeL, hz', h1, hacc, h2]
            · dsimp only
              rw [hr2]
            · dsimp only
              omega
            · dsimp only
              rw [List.length_append, List.length_singleton]
              omega
            · dsimp only
              rw [List.length_cons]
              omega
          · rw [if_neg h2]
            have h2b : (d == 93) = false := beq_false_of_ne h2
            right; right; right
            refine ⟨xq C a2 .close, Est C z (some (.d (.int depth))) (some (.d (.str (axisS below)))) x3 (acc ++ [v]) a2 s2, ?_, a2, s2, _, rfl⟩
            simp -implicitDefEqProofs [fb_QuestionReader_step_w1b, hasNo_if, lookup_if, e0, e2, ef, eo, sizeL, hz', h1, hacc, Rsn.s, h2b]
    · rw [if_neg h1]
      have h1b : (c == 91) = false := beq_false_of_ne h1
      right; left
      refine ⟨_, ?_, rfl, h.symm, hs, by omega⟩
      simp -implicitDefEqProofs [fb_QuestionReader_step_w1b, hasNo_if, lookup_if, e0, sizeL, hz', h1b]
theorem filtersP_a {q : Nat → List Nat → Nat → Nat → PR D} {depth : Nat} (hq : Asks C z Fq q (depth + 1)) {below : Bool} : ∀ (f : Nat) (b s : Nat) (acc v : List D) (l2 : List Nat) (a2 s2 : Nat), s ≤ 12 → filtersP q below depth f ((ch z).drop b) b s acc = .ok v l2 a2 s2 → b ≤ a2
  | 0, b, s, acc, v, l2, a2, s2, hs, h => by rw [filtersP.eq_def] at h; cases h
  | f + 1, b, s, acc, v, l2, a2, s2, hs, h => by
    cases hd : (ch z).drop b with
    | nil => rw [hd] at h; cases h; exact Nat.le_refl _
    | cons c r =>
      rw [hd, filtersP_cons] at h
      split at h
      · split at h
        · rename_i v' l3 a3 s3 hp
          rw [← drop_next hd] at hp
          have ha := filter_s hq hs hp
          have eo := (filter_ok C z hz Fq hq below (b + 1) s hs)
          rw [hp] at eo
          have hl2 := eo.2
          cases l3 with
          | nil => cases h
          | cons d r3 =>
            dsimp only at h
            split at h
            · rw [← drop_next hl2.symm] at h
              have := filtersP_a hq f _ _ _ _ _ _ _ ha.1 h
              omega
            · cases h
        · cases h
      · cases h; exact Nat.le_refl _
theorem stepP_s {q : Nat → List Nat → Nat → Nat → PR D} {depth : Nat} (hq : Asks C z Fq q (depth + 1)) {a s : Nat} (hs : s ≤ 12) {v : D} {l2 : List Nat} {a2 s2 : Nat} (h : stepP q depth ((ch z).drop a) a s = .ok v l2 a2 s2) : a ≤ a2 ∧ s2 ≤ 12 := by
  unfold stepP at h
  generalize hb : axisOf ((ch z).drop a) = b at h
  have e : (if b = true then ((ch z).drop a).drop 1 else (ch z).drop a) = (ch z).drop (if b = true then a + 1 else a) := by
    cases b
    · rfl
    · exact List.drop_drop
  rw [e] at h
  generalize ha' : (if b = true then a + 1 else a) = a' at h
  have hle : a ≤ a' := by rw [← ha']; split <;> omega
  split at h
  · rename_i t l3 a3 s3 ht
    have t1 := testP_s ht
    have t2 := test_ok C z hz a' s
    rw [ht] at t2
    rw [t2.2] at h
    split at h
    · rename_i hf
      cases h
      have w := step_w1 C z hz Fq hq b none a3 s3 (by omega)
      rw [hf] at w
      have := filtersP_a C z hz Fq hq _ _ _ _ _ _ _ _ (by omega) hf
      exact ⟨by omega, w.2.2.1⟩
    · cases h
  · cases h
theorem step_ok {q : Nat → List Nat → Nat → Nat → PR D} {depth : Nat} (hq : Asks C z Fq q (depth + 1)) (a s : Nat) (hs : s ≤ 12) : Out C z id (F_QuestionReader_step C Fq [.loc 0, .d (.int depth)] [rdC C z a s]) (stepP q depth ((ch z).drop (a + 1)) (a + 1) s) := by
  have hz' : z.length ≤ 16777216 := by omega
  unfold stepP
  generalize hb : axisOf ((ch z).drop (a + 1)) = b
  have e : (if b = true then ((ch z).drop (a + 1)).drop 1 else (ch z).drop (a + 1)) = (ch z).drop (if b = true then a + 1 + 1 else a + 1) := by
    cases b
    · rfl
    · exact List.drop_drop
  rw [e]
  have e0 := sign_ok C z hz' (a + 1) s
  have es : (sgn z (a + 1) == "/") = b := by
    rw [← hb]
    cases h : (ch z).drop (a + 1) with
    | nil => rw [sgn_nil h]; rfl
    | cons c r => rw [sgn_cons h, one_slash]; rfl
  have et := test_ok C z hz (if b = true then a + 1 + 1 else a + 1) s
  cases ht : testP ((ch z).drop (if b = true then a + 1 + 1 else a + 1)) (if b = true then a + 1 + 1 else a + 1) s with
  | er p x =>
    rw [ht] at et
    obtain ⟨b', s', et⟩ := et
    refine ⟨b', s', ?_⟩
    simp -implicitDefEqProofs at e0
    cases b with
    | true =>
      simp -implicitDefEqProofs at et
      simp -implicitDefEqProofs [F_QuestionReader_step, fb_QuestionReader_step, env0, hasNo_if, lookup_if, e0, es, et]
    | false =>
      simp -implicitDefEqProofs at et
      simp -implicitDefEqProofs [F_QuestionReader_step, fb_QuestionReader_step, env0, hasNo_if, lookup_if, e0, es, et]
  | ok t l2 a2 s2 =>
    rw [ht] at et
    obtain ⟨et, hl2⟩ := et
    obtain ⟨hs2, _⟩ := testP_s ht
    have ew := step_w1 C z hz Fq hq b (some (.d (.str t))) a2 s2 (by omega)
    rw [← hl2] at ew
    dsimp only
    cases hf : filtersP q b depth (l2.length + 1) l2 a2 s2 [] with
    | er p x =>
      rw [hf] at ew
      obtain ⟨b', s', acc, ew⟩ := ew
      refine ⟨b', s', ?_⟩
      simp -implicitDefEqProofs at e0
      cases b with
      | true =>
        simp -implicitDefEqProofs [axisS] at et ew
        simp -implicitDefEqProofs [F_QuestionReader_step, fb_QuestionReader_step, env0, hasNo_if, lookup_if, e0, es, et, ew, sizeL]
      | false =>
        simp -implicitDefEqProofs [axisS] at et ew
        simp -implicitDefEqProofs [F_QuestionReader_step, fb_QuestionReader_step, env0, hasNo_if, lookup_if, e0, es, et, ew, sizeL]
    | ok acc l3 a3 s3 =>
      rw [hf] at ew
      obtain ⟨ew, hl3, _, hacc⟩ := ew
      refine ⟨?_, hl3⟩
      simp -implicitDefEqProofs at e0
      cases b with
      | true =>
        simp -implicitDefEqProofs [axisS] at et ew
        simp -implicitDefEqProofs [F_QuestionReader_step, fb_QuestionReader_step, env0, hasNo_if, lookup_if, e0, es, et, ew, sizeL]
      | false =>
        simp -implicitDefEqProofs [axisS] at et ew
        simp -implicitDefEqProofs [F_QuestionReader_step, fb_QuestionReader_step, env0, hasNo_if, lookup_if, e0, es, et, ew, sizeL]
end
end Tp
end
section
set_option Elab.async false
set_option linter.all false
set_option maxRecDepth 100000
set_option maxHeartbeats 8000000
namespace Tp
open PySem L2 Dl
abbrev Equ (C : Cs) (z : Str) (x1 : Option W) (acc : List D) (a s : Nat) : Dl.Env := E_QuestionReader_question (x_self := some (.loc 0)) (x_depth := x1) (x_found := some (.loc 1)) (c0 := some (rdC C z a s)) (c1 := some (.lst acc))
def StpZ (C : Cs) (z : Str) (x1 : Option W) (b : Nat) (P : PR (List D)) (r : SR) : Prop := match P with
  | .ok acc l a s => r = .nx (Equ C z x1 acc a s) ∧ l = (ch z).drop a ∧ s ≤ 12 ∧ b ≤ a ∧ acc.length ≤ z.length
  | .er p x => ∃ a s acc, r = .exn (xq C p x) (Equ C z x1 acc a s)
theorem stepsP_cons {q : Nat → List Nat → Nat → Nat → PR D} {depth f c : Nat} {r : List Nat} {a s : Nat} {acc : List D} : stepsP q depth (f + 1) (c :: r) a s acc = if c = 47 then (if s = 12 then .er a .steps else (match stepP q depth r (a + 1) (s + 1) with
        | .ok v l2 a2 s2 => stepsP q depth f l2 a2 s2 (acc ++ [v])
        | .er p x => .er p x))
      else .ok acc (c :: r) a s := rfl
theorem questionP_cons {n depth c : Nat} {r : List Nat} {a s : Nat} : questionP (n + 1) depth (c :: r) a s = if c = 47 then (if s < 12 ∧ 3 < depth then .er a .deep else (match stepsP (questionP n) depth ((c :: r).length + 1) (c :: r) a s [] with
        | .ok v l2 a2 s2 => .ok (.lst v) l2 a2 s2
        | .er p x => .er p x))
      else .er a .step := rfl
section
variable (C : Cs) (z : Str) (hz : z.length ≤ 5000) (Fq : Fd)
include hz
theorem question_w1 {q : Nat → List Nat → Nat → Nat → PR D} {depth : Nat} (hq : depth ≤ 3 → Asks C z Fq q (depth + 1)) (a s : Nat) (hs : s ≤ 12) (hd : depth ≤ 3 ∨ s = 12) :
    StpZ C z (some (.d (.int depth))) a (stepsP q depth (((ch z).drop a).length + 1) ((ch z).drop a) a s []) (fb_QuestionReader_question_w1 C Fq (Equ C z (some (.d (.int depth))) [] a s)) := by
  unfold fb_QuestionReader_question_w1
  refine while_i (S := Nat × Nat × List D × Nat) (fun t => Equ C z (some (.d (.int depth))) t.2.2.1 t.1 t.2.1)
    (fun t => stepsP q depth t.2.2.2 ((ch z).drop t.1) t.1 t.2.1 t.2.2.1 = stepsP q depth (((ch z).drop a).length + 1) ((ch z).drop a) a s [] ∧ ((ch z).drop t.1).length < t.2.2.2 ∧ t.2.2.1.length + ((ch z).drop t.1).length ≤ z.length ∧ t.2.1 ≤ 12 ∧ (depth ≤ 3 ∨ t.2.1 = 12) ∧ a ≤ t.1) (fun t => ((ch z).drop t.1).length) _ (a, s, [], ((ch z).drop a).length + 1) ⟨rfl, by show ((ch z).drop a).length < ((ch z).drop a).length + 1; omega, by show 0 + ((ch z).drop a).length ≤ _; rw [drop_len]; omega, hs, hd, Nat.le_refl _⟩ (by show ((ch z).drop a).length < 1000000; rw [drop_len]; omega) ?_
  rintro ⟨b, s, acc, f⟩ ⟨hP, hf, hl, hs, hd, hab⟩
  dsimp only at hP hf hl hs hd hab ⊢
  rw [← hP]
  have hz' : z.length ≤ 16777216 := by omega
  have e0 := sign_ok C z hz' b s
  obtain ⟨f, rfl⟩ : ∃ g, f = g + 1 := ⟨f - 1, by omega⟩
  cases h : (ch z).drop b with
  | nil =>
    rw [sgn_nil h] at e0
    right; left
    refine ⟨_, ?_, rfl, h.symm, hs, hab, by omega⟩
    simp -implicitDefEqProofs [fb_QuestionReader_question_w1b, hasNo_if, lookup_if, e0, sizeL, hz']
  | cons c r =>
    rw [sgn_cons h] at e0
    rw [stepsP_cons]
    by_cases h1 : c = 47
    · rw [if_pos h1]
      have hr := drop_next h
      rw [h, List.length_cons] at hl hf
      by_cases h2 : s = 12
      · rw [if_pos h2]
        subst h2
        have ef := fail_ok C z b 12 b "steps"
        simp -implicitDefEqProofs at ef e0
        right; right; right
        refine ⟨xq C b .steps, Equ C z (some (.d (.int depth))) acc b 12, ?_, b, 12, _, rfl⟩
        simp -implicitDefEqProofs [fb_QuestionReader_question_w1b, hasNo_if, lookup_if, e0, ef, sizeL, hz', h1, Rsn.s]
      · rw [if_neg h2]
        have hd3 : depth ≤ 3 := hd.resolve_right h2
        have h2' : ¬ (s : Int) = 12 := by omega
        have h2b : ((s : Int) == 12) = false := beq_false_of_ne h2'
        have eo := step_ok C z hz Fq (hq hd3) b (s + 1) (by omega)
        rw [hr] at eo
        cases hp : stepP q depth r (b + 1) (s + 1) with
        | er p x =>
          rw [hp] at eo
          obtain ⟨b', s', eo⟩ := eo
          simp -implicitDefEqProofs at eo
          right; right; right
          refine ⟨xq C p x, Equ C z (some (.d (.int depth))) acc b' s', ?_, b', s', _, rfl⟩
          simp -implicitDefEqProofs [fb_QuestionReader_question_w1b, hasNo_if, lookup_if, e0, eo, sizeL, hz', h1, h2', h2b]
        | ok v l2 a2 s2 =>
          rw [hp] at eo
          obtain ⟨eo, hl2⟩ := eo
          rw [← hr] at hp
          obtain ⟨ha2, hs2⟩ := stepP_s C z hz Fq (hq hd3) (by omega) hp
          simp -implicitDefEqProofs at eo
          have hacc : acc.length < 16777216 := by omega
          have hrl : r.length = z.length - (b + 1) := by rw [← hr, drop_len]
          have hdl := drop_len z a2
          left
          refine ⟨(a2, s2, acc ++ [v], f), ?_, ⟨?_, ?_, ?_, hs2, .inl hd3, ?_⟩, ?_⟩
          · simp -implicitDefEqProofs [fb_QuestionReader_question_w1b, hasNo_if, lookup_if, e0, eo, sizeL, hz', h1, h2', h2b, hacc]
          · dsimp only
            rw [hl2]
          · dsimp only
            omega
          · dsimp only
            rw [List.length_append, List.length_singleton]
            omega
          · dsimp only
            omega
          · dsimp only
            rw [List.length_cons]
            omega
    · rw [if_neg h1]
      have h1b : (c == 47) = false := beq_false_of_ne h1
      right; left
      refine ⟨_, ?_, rfl, h.symm, hs, hab, by omega⟩
      simp -implicitDefEqProofs [fb_QuestionReader_question_w1b, hasNo_if, lookup_if, e0, sizeL, hz', h1b]
end
theorem question_ok (C : Cs) (z : Str) (hz : z.length ≤ 5000) : ∀ (n depth : Nat), 1 ≤ n → 5 ≤ n + depth → Asks C z (F_QuestionReader_question C n) (questionP n) depth
  | 0, depth, h, _ => by omega
  | n + 1, depth, _, hnd => by
    have hq : depth ≤ 3 → Asks C z (F_QuestionReader_question C n) (questionP n) (depth + 1) := fun hd => question_ok C z hz n (depth + 1) (by omega) (by omega)
    intro a s hs
    have hz' : z.length ≤ 16777216 := by omega
    have e0 := sign_ok C z hz' a s
    unfold F_QuestionReader_question
    cases h : (ch z).drop a with
    | nil =>
      rw [sgn_nil h] at e0
      have ef := fail_ok C z a s a "step"
      simp -implicitDefEqProofs at ef
      refine ⟨⟨a, s, ?_⟩, fun v l a' s' e => by cases e⟩
      simp -implicitDefEqProofs [fb_QuestionReader_question, env0, hasNo_if, lookup_if, e0, ef, Rsn.s]
    | cons c r =>
      rw [sgn_cons h] at e0
      rw [questionP_cons]
      by_cases h1 : c = 47
      · rw [if_pos h1]
        by_cases h2 : s < 12 ∧ 3 < depth
        · rw [if_pos h2]
          have h21 : (s : Int) < 12 := by omega
          have h22 : (3 : Int) < depth := by omega
          have ef := fail_ok C z a s a "deep"
          simp -implicitDefEqProofs at ef
          refine ⟨⟨a, s, ?_⟩, fun v l a' s' e => by cases e⟩
          simp -implicitDefEqProofs [fb_QuestionReader_question, env0, hasNo_if, lookup_if, e0, ef, h1, h21, h22, Rsn.s]
        · rw [if_neg h2]
          have w := question_w1 C z hz (F_QuestionReader_question C n) hq a s hs (by omega)
          rw [h] at w
          have b2 : (s : Int) < 12 → ¬ (3 : Int) < depth := by omega
          cases hp : stepsP (questionP n) depth ((c :: r).length + 1) (c :: r) a s [] with
          | er p x =>
            rw [hp] at w
            obtain ⟨b', s', acc, w⟩ := w
            simp -implicitDefEqProofs [Equ] at w
            refine ⟨⟨b', s', ?_⟩, fun v l a' s' e => by cases e⟩
            by_cases h21 : (s : Int) < 12
            · have h22 := b2 h21
              simp -implicitDefEqProofs [fb_QuestionReader_question, env0, hasNo_if, lookup_if, e0, h1, h21, h22, w, sizeL]
            · simp -implicitDefEqProofs [fb_QuestionReader_question, env0, hasNo_if, lookup_if, e0, h1, h21, w, sizeL]
          | ok v l2 a2 s2 =>
            rw [hp] at w
            obtain ⟨w, hl2, hs2, ha2, hv⟩ := w
            simp -implicitDefEqProofs [Equ] at w
            refine ⟨⟨?_, hl2⟩, fun v l a' s' e => by cases e; exact ⟨hs2, ha2⟩⟩
            by_cases h21 : (s : Int) < 12
            · have h22 := b2 h21
              simp -implicitDefEqProofs [fb_QuestionReader_question, env0, hasNo_if, lookup_if, e0, h1, h21, h22, w, sizeL]
            · simp -implicitDefEqProofs [fb_QuestionReader_question, env0, hasNo_if, lookup_if, e0, h1, h21, w, sizeL]
      · rw [if_neg h1]
        have h1b : (c == 47) = false := beq_false_of_ne h1
        have ef := fail_ok C z a s a "step"
        simp -implicitDefEqProofs at ef
        refine ⟨⟨a, s, ?_⟩, fun v l a' s' e => by cases e⟩
        simp -implicitDefEqProofs [fb_QuestionReader_question, env0, hasNo_if, lookup_if, e0, h1b, ef, Rsn.s]
theorem read_question_ok (C : Cs) (z : Str) (hz : z.length ≤ 5000) : F_read_question C [.d (.str z)] [] = match readP (ch z) with
    | .inr v => .ok (.d v) []
    | .inl (p, x) => .exn (xq C p x) [] := by
  have hz' : z.length ≤ 16777216 := by omega
  have q := (question_ok C z hz 6 1 (by omega) (by omega) 0 0 (by omega)).1
  unfold readP
  rw [List.drop_zero] at q
  cases hp : questionP 6 1 (ch z) 0 0 with
  | er p x =>
    rw [hp] at q
    obtain ⟨b, s, q⟩ := q
    simp -implicitDefEqProofs at q
    dsimp only
    simp -implicitDefEqProofs [F_read_question, fb_read_question, F_QuestionReader_init, fb_QuestionReader_init, env0, hasNo_if, lookup_if, q, sizeL]
  | ok v l a s =>
    rw [hp] at q
    obtain ⟨q, hl⟩ := q
    simp -implicitDefEqProofs at q
    have dl := drop_len z a
    rw [← hl] at dl
    have ef := fail_ok C z a s a "end"
    simp -implicitDefEqProofs at ef
    cases l with
    | nil =>
      have ha : ¬ (a : Int) < z.length := by rw [List.length_nil] at dl; omega
      dsimp only
      simp -implicitDefEqProofs [F_read_question, fb_read_question, F_QuestionReader_init, fb_QuestionReader_init, env0, hasNo_if, lookup_if, q, sizeL, ha, hz']
    | cons c r =>
      have ha : (a : Int) < z.length := by rw [List.length_cons] at dl; omega
      dsimp only
      simp -implicitDefEqProofs [F_read_question, fb_read_question, F_QuestionReader_init, fb_QuestionReader_init, env0, hasNo_if, lookup_if, q, sizeL, ha, hz', ef, Rsn.s]
end Tp
end
section
set_option Elab.async false
set_option linter.all false
set_option maxRecDepth 100000
set_option maxHeartbeats 8000000
namespace Tp
open PySem L2 Dl
/-! questions as trees; their texts; what is proper -/
def mkS (l : List Nat) : Str := ⟨l.toArray⟩
theorem mkS_app (a b : List Nat) : mkS a ++ mkS b = mkS (a ++ b) := by
  apply ch_inj; rw [ch_app]; simp [ch, mkS]
theorem mkS_len (a : List Nat) : (mkS a).length = a.length := by show a.toArray.size = _; simp
theorem mkS_ch (a : List Nat) : ch (mkS a) = a := ch_mk a
mutual
inductive Qn where
  | nil
  | cons (b : Bool) (t : List Nat) (fs : Fs) (r : Qn)
inductive Fs where
  | nil
  | place (n : Nat) (r : Fs)
  | holds (s : List Nat) (r : Fs)
  | has (q : Qn) (r : Fs)
end
mutual
def Qn.ds : Qn → List D
  | .nil => []
  | .cons b t fs r => .tup [.str (axisS b), .str (mkS t), .lst fs.ds] :: r.ds
def Fs.ds : Fs → List D
  | .nil => []
  | .place n r => .tup [.str "place", .int (n : Nat)] :: r.ds
  | .holds s r => .tup [.str "holds", .str (mkS s)] :: r.ds
  | .has q r => .tup [.str "has", .lst q.ds] :: r.ds
end
def testOk (t : List Nat) : Bool := t == [42] || t == [35] || (decide (1 ≤ t.length) && decide (t.length ≤ 12) && t.all isLet)
def strgOk (s : List Nat) : Bool := decide (1 ≤ s.length) && decide (s.length ≤ 40) && s.all isSgn
def Qn.isN : Qn → Bool | .nil => true | .cons _ _ _ _ => false
mutual
def Qn.ok (d : Nat) : Qn → Bool
  | .nil => true
  | .cons b t fs r => testOk t && fs.ok b d && r.ok d
def Fs.ok (b : Bool) (d : Nat) : Fs → Bool
  | .nil => true
  | .place n r => !b && decide (1 ≤ n) && decide (n ≤ 5000) && r.ok b d
  | .holds s r => strgOk s && r.ok b d
  | .has q r => decide (d + 1 ≤ 3) && !q.isN && q.ok (d + 1) && r.ok b d
end
mutual
def Qn.cnt : Qn → Nat
  | .nil => 0
  | .cons _ _ fs r => 1 + fs.cnt + r.cnt
def Fs.cnt : Fs → Nat
  | .nil => 0
  | .place _ r => r.cnt
  | .holds _ r => r.cnt
  | .has q r => q.cnt + r.cnt
end
mutual
def Qn.dp : Qn → Nat
  | .nil => 1
  | .cons _ _ fs r => max fs.dp r.dp
def Fs.dp : Fs → Nat
  | .nil => 1
  | .place _ r => r.dp
  | .holds _ r => r.dp
  | .has q r => max (q.dp + 1) r.dp
end
def dec (n : Nat) : List Nat := if n < 10 then [48 + n] else if n < 100 then [48 + n / 10, 48 + n % 10] else if n < 1000 then [48 + n / 100, 48 + n / 10 % 10, 48 + n % 10] else [48 + n / 1000, 48 + n / 100 % 10, 48 + n / 10 % 10, 48 + n % 10]
def esc (c : Nat) : List Nat := if c = 34 then [92, 34] else if c = 92 then [92, 92] else if c = 10 then [92, 110] else [c]
def quo (s : List Nat) : List Nat := 34 :: (s.flatMap esc ++ [34])
mutual
def wq : Qn → List Nat
  | .nil => []
  | .cons b t fs r => (if b = true then [47, 47] else [47]) ++ (t ++ (wf fs ++ wq r))
def wf : Fs → List Nat
  | .nil => []
  | .place n r => 91 :: (dec n ++ 93 :: wf r)
  | .holds s r => 91 :: (quo s ++ 93 :: wf r)
  | .has q r => 91 :: (wq q ++ 93 :: wf r)
end
/-! numbers -/
theorem dec_str : (List.range 5001).all (fun n => (toString (n : Int) : Str) == mkS (dec n)) = true := by decide +kernel
theorem dec_val {n : Nat} (h : n ≤ 9999) : NumText.digitsVal (dec n) = n := by
  unfold dec
  split
  · simp [NumText.digitsVal]
  · split
    · simp [NumText.digitsVal]; omega
    · split
      · simp [NumText.digitsVal]; omega
      · simp [NumText.digitsVal]; omega
theorem dec_dig {n : Nat} (h : n ≤ 9999) : ∀ c ∈ dec n, isDig c = true := by
  intro c hc
  have : 48 ≤ c ∧ c ≤ 57 := by
    unfold dec at hc
    split at hc
    · simp at hc; omega
    · split at hc
      · simp at hc; omega
      · split at hc
        · simp at hc; omega
        · simp at hc; omega
  unfold isDig
  simp; omega
theorem dec_len (n : Nat) : (dec n).length ≤ 4 := by
  unfold dec
  split
  · simp
  · split
    · simp
    · split <;> simp
theorem dec_head {n : Nat} (h1 : 1 ≤ n) (h : n ≤ 9999) : ∃ c r, dec n = c :: r ∧ 49 ≤ c ∧ c ≤ 57 := by
  unfold dec
  split
  · exact ⟨_, _, rfl, by omega, by omega⟩
  · split
    · exact ⟨_, _, rfl, by omega, by omega⟩
    · split
      · exact ⟨_, _, rfl, by omega, by omega⟩
      · exact ⟨_, _, rfl, by omega, by omega⟩
theorem dig_iff (c : Nat) : isDig c = true ↔ 48 ≤ c ∧ c ≤ 57 := by unfold isDig; simp
theorem dec_inv {c : Nat} {r : List Nat} (h1 : 49 ≤ c) (h : ∀ x ∈ c :: r, isDig x = true) (hl : (c :: r).length ≤ 4) : dec (NumText.digitsVal (c :: r)) = c :: r ∧ 1 ≤ NumText.digitsVal (c :: r) := by
  have hc := (dig_iff c).mp (h c (by simp))
  match r, h, hl with
  | [], h, hl =>
    have e : NumText.digitsVal [c] = c - 48 := by simp [NumText.digitsVal]
    rw [e]
    refine ⟨?_, by omega⟩
    unfold dec
    rw [if_pos (by omega)]
    congr 1; omega
  | [x], h, hl =>
    have hx := (dig_iff x).mp (h x (by simp))
    have e : NumText.digitsVal [c, x] = (c - 48) * 10 + (x - 48) := by simp [NumText.digitsVal]
    rw [e]
    refine ⟨?_, by omega⟩
    unfold dec
    rw [if_neg (by omega), if_pos (by omega)]
    congr 1
    · omega
    · congr 1; omega
  | [x, y], h, hl =>
    have hx := (dig_iff x).mp (h x (by simp))
    have hy := (dig_iff y).mp (h y (by simp))
    have e : NumText.digitsVal [c, x, y] = ((c - 48) * 10 + (x - 48)) * 10 + (y - 48) := by simp [NumText.digitsVal]
    rw [e]
    refine ⟨?_, by omega⟩
    unfold dec
    rw [if_neg (by omega), if_neg (by omega), if_pos (by omega)]
    congr 1
    · omega
    · congr 1
      · omega
      · congr 1; omega
  | [x, y, z], h, hl =>
    have hx := (dig_iff x).mp (h x (by simp))
    have hy := (dig_iff y).mp (h y (by simp))
    have hz := (dig_iff z).mp (h z (by simp))
    have e : NumText.digitsVal [c, x, y, z] = (((c - 48) * 10 + (x - 48)) * 10 + (y - 48)) * 10 + (z - 48) := by simp [NumText.digitsVal]
    rw [e]
    refine ⟨?_, by omega⟩
    unfold dec
    rw [if_neg (by omega), if_neg (by omega), if_neg (by omega)]
    congr 1
    · omega
    · congr 1
      · omega
      · congr 1
        · omega
        · congr 1; omega
  | x :: y :: z :: w :: r, h, hl => simp at hl
end Tp
end
section
set_option Elab.async false
set_option linter.all false
set_option maxRecDepth 100000
set_option maxHeartbeats 8000000
namespace Tp
open PySem L2 Dl
/-! what is written is read -/
theorem takeWhile_app {p : Nat → Bool} : ∀ {t rest : List Nat}, t.all p = true → (∀ c r, rest = c :: r → p c = false) → (t ++ rest).takeWhile p = t
  | [], rest, _, h => by
    cases rest with
    | nil => rfl
    | cons c r => rw [List.nil_append, List.takeWhile_cons, if_neg (by rw [h c r rfl]; decide)]
  | c :: t, rest, ht, h => by
    rw [List.all_cons, Bool.and_eq_true] at ht
    rw [List.cons_append, List.takeWhile_cons, if_pos ht.1, takeWhile_app ht.2 h]
theorem drop_app {t rest : List Nat} : (t ++ rest).drop t.length = rest := List.drop_left
theorem isLet_ne {c : Nat} (h : isLet c = true) : c ≠ 42 ∧ c ≠ 35 ∧ c ≠ 47 := by
  unfold isLet at h
  simp at h
  omega
theorem test_parse {t rest : List Nat} (ht : testOk t = true) (hr : ∀ c r, rest = c :: r → isLet c = false) (a s : Nat) : ∃ a', testP (t ++ rest) a s = .ok (mkS t) rest a' s := by
  unfold testOk at ht
  rw [Bool.or_eq_true, Bool.or_eq_true, beq_iff_eq, beq_iff_eq, Bool.and_eq_true, Bool.and_eq_true, decide_eq_true_iff, decide_eq_true_iff] at ht
  rcases ht with (rfl | rfl) | ⟨⟨h1, h2⟩, h3⟩
  · exact ⟨_, rfl⟩
  · exact ⟨_, rfl⟩
  · refine ⟨a + t.length, ?_⟩
    rw [testP_if fun c r e => ?_, takeWhile_app h3 hr, if_pos ⟨h1, h2⟩, drop_app]
    · rfl
    · cases t with
      | nil => simp at h1
      | cons x t =>
        rw [List.cons_append] at e
        cases e
        rw [List.all_cons, Bool.and_eq_true] at h3
        exact ⟨(isLet_ne h3.1).1, (isLet_ne h3.1).2.1⟩
theorem test_head {t : List Nat} (ht : testOk t = true) : ∃ c r, t = c :: r ∧ c ≠ 47 := by
  unfold testOk at ht
  rw [Bool.or_eq_true, Bool.or_eq_true, beq_iff_eq, beq_iff_eq, Bool.and_eq_true, Bool.and_eq_true, decide_eq_true_iff, decide_eq_true_iff] at ht
  rcases ht with (rfl | rfl) | ⟨⟨h1, h2⟩, h3⟩
  · exact ⟨_, _, rfl, by decide⟩
  · exact ⟨_, _, rfl, by decide⟩
  · cases t with
    | nil => simp at h1
    | cons x t =>
      rw [List.all_cons, Bool.and_eq_true] at h3
      exact ⟨x, t, rfl, (isLet_ne h3.1).2.2⟩
theorem esc_parse {c : Nat} (h : isSgn c = true) (start : Nat) (rest : List Nat) (a s : Nat) (acc : List Nat) : ∃ a', strP start (esc c ++ rest) a s acc = strP start rest a' s (acc ++ [c]) := by
  unfold esc
  split
  · rename_i h1
    subst h1
    exact ⟨a + 2, by rw [List.cons_append, strP_cons]; rfl⟩
  · split
    · rename_i h2
      subst h2
      exact ⟨a + 2, by rw [List.cons_append, strP_cons]; rfl⟩
    · split
      · rename_i h3
        subst h3
        exact ⟨a + 2, by rw [List.cons_append, strP_cons]; rfl⟩
      · rename_i h1 h2 h3
        refine ⟨a + 1, ?_⟩
        rw [List.cons_append, List.nil_append, strP_cons, if_neg h1]
        have : oneP start c rest a s = .ok c rest (a + 1) s := by
          unfold oneP
          rw [if_neg h2, if_neg (fun z => by rcases z with z | z <;> first | exact h3 z | (rw [h] at z; cases z))]
        rw [this]
theorem str_parse : ∀ (s : List Nat) (s0 : Nat) (rest : List Nat) (a st : Nat) (acc : List Nat), s.all isSgn = true → ∃ a', strP s0 (s.flatMap esc ++ 34 :: rest) a st acc = .ok (acc ++ s) (34 :: rest) a' st
  | [], s0, rest, a, st, acc, _ => ⟨a, by
    rw [List.flatMap_nil, List.nil_append, strP_cons, if_pos rfl, List.append_nil]⟩
  | c :: s, s0, rest, a, st, acc, h => by
    rw [List.all_cons, Bool.and_eq_true] at h
    obtain ⟨a1, e1⟩ := esc_parse h.1 s0 (s.flatMap esc ++ 34 :: rest) a st acc
    obtain ⟨a2, e2⟩ := str_parse s s0 rest a1 st (acc ++ [c]) h.2
    refine ⟨a2, ?_⟩
    rw [List.flatMap_cons, List.append_assoc, e1, e2, List.append_assoc]
    rfl
theorem string_parse {s : List Nat} (h : strgOk s = true) (rest : List Nat) (a st : Nat) : ∃ a', stringP (quo s ++ rest) a st = .ok (mkS s) rest a' st := by
  unfold strgOk at h
  rw [Bool.and_eq_true, Bool.and_eq_true, decide_eq_true_iff, decide_eq_true_iff] at h
  obtain ⟨a', e⟩ := str_parse s a rest (a + 1) st [] h.2
  refine ⟨a' + 1, ?_⟩
  unfold stringP quo
  rw [List.cons_append, List.drop_succ_cons, List.drop_zero, List.append_assoc]
  change (match strP a (s.flatMap esc ++ 34 :: rest) (a + 1) st [] with | .ok acc l2 a2 s2 => _ | .er p r => _) = _
  rw [e, List.nil_append]
  exact if_pos h.1
/-- what may stand behind the filters -/
def sepF (l : List Nat) : Prop := ∀ c r, l = c :: r → c = 47 ∨ c = 93
def sepS (l : List Nat) : Prop := ∀ c r, l = c :: r → c = 93
theorem wq_head : ∀ (q : Qn) (rest : List Nat), sepS rest → sepF (wq q ++ rest)
  | .nil, rest, h, c, r, e => by
    rw [wq, List.nil_append] at e
    exact .inr (h c r e)
  | .cons b t fs q, rest, h, c, r, e => by
    rw [wq] at e
    cases b
    · cases e; exact .inl rfl
    · cases e; exact .inl rfl
theorem wf_head : ∀ (fs : Fs) (rest : List Nat), sepF rest → ∀ c r, wf fs ++ rest = c :: r → c = 91 ∨ c = 47 ∨ c = 93
  | .nil, rest, h, c, r, e => by rw [wf, List.nil_append] at e; exact .inr (h c r e)
  | .place n fs, rest, h, c, r, e => by rw [wf] at e; cases e; exact .inl rfl
  | .holds n fs, rest, h, c, r, e => by rw [wf] at e; cases e; exact .inl rfl
  | .has n fs, rest, h, c, r, e => by rw [wf] at e; cases e; exact .inl rfl
theorem place_parse (q : Nat → List Nat → Nat → Nat → PR D) {n : Nat} (h1 : 1 ≤ n) (h2 : n ≤ 5000) (d : Nat) (rest : List Nat) (a s : Nat) : ∃ a', filterP q false d (dec n ++ 93 :: rest) a s = .ok (.tup [.str "place", .int (n : Nat)]) (93 :: rest) a' s := by
  obtain ⟨c, r, e, h3, h4⟩ := dec_head h1 (by omega)
  have ht : (dec n ++ 93 :: rest).takeWhile isDig = dec n := takeWhile_app (by rw [List.all_eq_true]; exact dec_dig (by omega)) fun c r e => by cases e; rfl
  have hl := dec_len n
  have hv := dec_val (n := n) (by omega)
  have hd : (dec n ++ 93 :: rest).drop (dec n).length = 93 :: rest := drop_app
  have eL : dec n ++ 93 :: rest = c :: (r ++ 93 :: rest) := by rw [e]; rfl
  refine ⟨a + (dec n).length, ?_⟩
  rw [eL] at ht hd ⊢
  unfold filterP
  dsimp only
  rw [if_neg (by omega), if_neg (by omega), if_pos ⟨h3, h4⟩, ht, hd, hv, if_neg (by rintro (x | x | x) <;> first | omega | cases x)]
theorem question_of_steps {m d : Nat} {l : List Nat} {a s : Nat} {v : List D} {rest : List Nat} {a' s' : Nat} (hl : ∃ r, l = 47 :: r) (hd : d ≤ 3) (h : stepsP (questionP m) d (l.length + 1) l a s [] = .ok v rest a' s') : questionP (m + 1) d l a s = .ok (.lst v) rest a' s' := by
  obtain ⟨r, rfl⟩ := hl
  rw [questionP_cons, if_pos rfl, if_neg (by omega), h]
theorem filtersP_done {q : Nat → List Nat → Nat → Nat → PR D} {b : Bool} {d f : Nat} {l : List Nat} {a s : Nat} {acc : List D} (h : sepF l) : filtersP q b d (f + 1) l a s acc = .ok acc l a s := by
  cases l with
  | nil => rfl
  | cons c r =>
    rw [filtersP_cons, if_neg]
    have := h c r rfl
    omega
theorem stepsP_done {q : Nat → List Nat → Nat → Nat → PR D} {d f : Nat} {l : List Nat} {a s : Nat} {acc : List D} (h : sepS l) : stepsP q d (f + 1) l a s acc = .ok acc l a s := by
  cases l with
  | nil => rfl
  | cons c r =>
    rw [stepsP_cons, if_neg]
    have := h c r rfl
    omega
mutual
theorem parse_q : ∀ (q : Qn) (m d f a s : Nat) (rest : List Nat) (acc : List D), 4 ≤ m + d → q.ok d = true → s + q.cnt ≤ 12 → (wq q ++ rest).length < f → sepS rest → ∃ a', stepsP (questionP m) d f (wq q ++ rest) a s acc = .ok (acc ++ q.ds) rest a' (s + q.cnt)
  | .nil, m, d, f, a, s, rest, acc, hm, hok, hs, hf, hr => by
    obtain ⟨f, rfl⟩ : ∃ g, f = g + 1 := ⟨f - 1, by omega⟩
    refine ⟨a, ?_⟩
    rw [wq, List.nil_append, stepsP_done hr, Qn.ds, List.append_nil, Qn.cnt, Nat.add_zero]
  | .cons b t fs r, m, d, f, a, s, rest, acc, hm, hok, hs, hf, hr => by
    obtain ⟨f, rfl⟩ : ∃ g, f = g + 1 := ⟨f - 1, by omega⟩
    rw [Qn.ok, Bool.and_eq_true, Bool.and_eq_true] at hok
    obtain ⟨⟨o1, o2⟩, o3⟩ := hok
    rw [Qn.cnt] at hs
    have hr2 := wq_head r rest hr
    obtain ⟨x, t', ex, hx⟩ := test_head o1
    obtain ⟨a1, e1⟩ := test_parse o1 (rest := wf fs ++ (wq r ++ rest)) (fun c r' e => by
      have := wf_head fs (wq r ++ rest) hr2 c r' e
      unfold isLet
      rcases this with rfl | rfl | rfl <;> rfl) (if b = true then a + 1 + 1 else a + 1) (s + 1)
    obtain ⟨a2, e2⟩ := parse_f fs b m d ((wf fs ++ (wq r ++ rest)).length + 1) a1 (s + 1) (wq r ++ rest) [] hm o2 (by omega) (by omega) hr2
    have hlen : (wq (.cons b t fs r) ++ rest).length = (if b = true then 2 else 1) + t.length + (wf fs ++ (wq r ++ rest)).length := by
      rw [wq]
      cases b <;> simp <;> omega
    rw [hlen] at hf
    obtain ⟨a3, e3⟩ := parse_q r m d f a2 (s + 1 + fs.cnt) rest (acc ++ [.tup [.str (axisS b), .str (mkS t), .lst fs.ds]]) hm o3 (by omega) (by
      have : (wq r ++ rest).length ≤ (wf fs ++ (wq r ++ rest)).length := by simp
      split at hf <;> omega) hr
    refine ⟨a3, ?_⟩
    have hstep : stepP (questionP m) d ((if b = true then [47] else []) ++ (t ++ (wf fs ++ (wq r ++ rest)))) (a + 1) (s + 1) = .ok (.tup [.str (axisS b), .str (mkS t), .lst fs.ds]) (wq r ++ rest) a2 (s + 1 + fs.cnt) := by
      have hax : axisOf ((if b = true then [47] else []) ++ (t ++ (wf fs ++ (wq r ++ rest)))) = b := by
        cases b
        · rw [ex]
          show (x == 47) = false
          exact beq_false_of_ne hx
        · rfl
      unfold stepP
      rw [hax]
      have hdrop : (if b = true then ((if b = true then [47] else []) ++ (t ++ (wf fs ++ (wq r ++ rest)))).drop 1 else (if b = true then [47] else []) ++ (t ++ (wf fs ++ (wq r ++ rest)))) = t ++ (wf fs ++ (wq r ++ rest)) := by
        cases b <;> rfl
      rw [hdrop, e1]
      dsimp only
      rw [e2, List.nil_append]
      rfl
    have hl : wq (.cons b t fs r) ++ rest = 47 :: ((if b = true then [47] else []) ++ (t ++ (wf fs ++ (wq r ++ rest)))) := by
      rw [wq]
      cases b <;> simp
    rw [hl, stepsP_cons, if_pos rfl, if_neg (by omega), hstep]
    dsimp only
    rw [e3, Qn.ds, Qn.cnt, List.append_assoc, List.singleton_append]
    congr 1
    omega
theorem parse_f : ∀ (fs : Fs) (b : Bool) (m d f a s : Nat) (rest : List Nat) (acc : List D), 4 ≤ m + d → fs.ok b d = true → s + fs.cnt ≤ 12 → (wf fs ++ rest).length < f → sepF rest → ∃ a', filtersP (questionP m) b d f (wf fs ++ rest) a s acc = .ok (acc ++ fs.ds) rest a' (s + fs.cnt)
  | .nil, b, m, d, f, a, s, rest, acc, hm, hok, hs, hf, hr => by
    obtain ⟨f, rfl⟩ : ∃ g, f = g + 1 := ⟨f - 1, by omega⟩
    refine ⟨a, ?_⟩
    rw [wf, List.nil_append, filtersP_done hr, Fs.ds, List.append_nil, Fs.cnt, Nat.add_zero]
  | .place n r, b, m, d, f, a, s, rest, acc, hm, hok, hs, hf, hr => by
    obtain ⟨f, rfl⟩ : ∃ g, f = g + 1 := ⟨f - 1, by omega⟩
    rw [Fs.ok, Bool.and_eq_true, Bool.and_eq_true, Bool.and_eq_true, decide_eq_true_iff, decide_eq_true_iff] at hok
    obtain ⟨⟨⟨o1, o2⟩, o3⟩, o4⟩ := hok
    have hb : b = false := by simpa using o1
    subst hb
    rw [Fs.cnt] at hs
    obtain ⟨a1, e1⟩ := place_parse (questionP m) o2 o3 d (wf r ++ rest) (a + 1) s
    have hl : wf (.place n r) ++ rest = 91 :: (dec n ++ 93 :: (wf r ++ rest)) := by rw [wf]; simp
    rw [hl] at hf ⊢
    obtain ⟨a2, e2⟩ := parse_f r false m d f (a1 + 1) s rest (acc ++ [.tup [.str "place", .int (n : Nat)]]) hm o4 (by omega) (by simp at hf ⊢; omega) hr
    refine ⟨a2, ?_⟩
    rw [filtersP_cons, if_pos rfl, e1]
    dsimp only
    rw [if_pos rfl, e2, Fs.ds, Fs.cnt, List.append_assoc, List.singleton_append]
  | .holds w r, b, m, d, f, a, s, rest, acc, hm, hok, hs, hf, hr => by
    obtain ⟨f, rfl⟩ : ∃ g, f = g + 1 := ⟨f - 1, by omega⟩
    rw [Fs.ok, Bool.and_eq_true] at hok
    obtain ⟨o1, o4⟩ := hok
    rw [Fs.cnt] at hs
    obtain ⟨a1, e1⟩ := string_parse o1 (93 :: (wf r ++ rest)) (a + 1) s
    have hl : wf (.holds w r) ++ rest = 91 :: (quo w ++ 93 :: (wf r ++ rest)) := by rw [wf]; simp
    rw [hl] at hf ⊢
    obtain ⟨a2, e2⟩ := parse_f r b m d f (a1 + 1) s rest (acc ++ [.tup [.str "holds", .str (mkS w)]]) hm o4 (by omega) (by simp at hf ⊢; omega) hr
    refine ⟨a2, ?_⟩
    have e3 : filterP (questionP m) b d (quo w ++ 93 :: (wf r ++ rest)) (a + 1) s = .ok (.tup [.str "holds", .str (mkS w)]) (93 :: (wf r ++ rest)) a1 s := by
      unfold quo at e1 ⊢
      rw [List.cons_append] at e1 ⊢
      unfold filterP
      dsimp only
      rw [if_neg (by decide), if_pos rfl, e1]
    rw [filtersP_cons, if_pos rfl, e3]
    dsimp only
    rw [if_pos rfl, e2, Fs.ds, Fs.cnt, List.append_assoc, List.singleton_append]
  | .has q r, b, m, d, f, a, s, rest, acc, hm, hok, hs, hf, hr => by
    obtain ⟨f, rfl⟩ : ∃ g, f = g + 1 := ⟨f - 1, by omega⟩
    rw [Fs.ok, Bool.and_eq_true, Bool.and_eq_true, Bool.and_eq_true, decide_eq_true_iff] at hok
    obtain ⟨⟨⟨o1, o2⟩, o3⟩, o4⟩ := hok
    rw [Fs.cnt] at hs
    obtain ⟨m, rfl⟩ : ∃ g, m = g + 1 := ⟨m - 1, by omega⟩
    have hl : wf (.has q r) ++ rest = 91 :: (wq q ++ 93 :: (wf r ++ rest)) := by rw [wf]; simp
    rw [hl] at hf ⊢
    obtain ⟨a1, e1⟩ := parse_q q m (d + 1) ((wq q ++ 93 :: (wf r ++ rest)).length + 1) (a + 1) s (93 :: (wf r ++ rest)) [] (by omega) o3 (by omega) (by omega) (fun c r' e => by cases e; rfl)
    rw [List.nil_append] at e1
    obtain ⟨z, ez⟩ : ∃ z, wq q ++ 93 :: (wf r ++ rest) = 47 :: z := by
      cases q with
      | nil => simp [Qn.isN] at o2
      | cons b2 t2 f2 q2 =>
        rw [wq]
        cases b2
        · exact ⟨_, rfl⟩
        · exact ⟨_, rfl⟩
    have e0 := question_of_steps (m := m) (d := d + 1) ⟨z, ez⟩ o1 e1
    obtain ⟨a2, e2⟩ := parse_f r b (m + 1) d f (a1 + 1) (s + q.cnt) rest (acc ++ [.tup [.str "has", .lst q.ds]]) hm o4 (by omega) (by simp at hf ⊢; omega) hr
    refine ⟨a2, ?_⟩
    have e3 : filterP (questionP (m + 1)) b d (wq q ++ 93 :: (wf r ++ rest)) (a + 1) s = .ok (.tup [.str "has", .lst q.ds]) (93 :: (wf r ++ rest)) a1 (s + q.cnt) := by
      rw [ez] at e0 ⊢
      unfold filterP
      dsimp only
      rw [if_pos rfl, e0]
    rw [filtersP_cons, if_pos rfl, e3]
    dsimp only
    rw [if_pos rfl, e2, Fs.ds, Fs.cnt, List.append_assoc, List.singleton_append]
    congr 1
    omega
end
theorem read_write {q : Qn} (h1 : q.isN = false) (h2 : q.ok 1 = true) (h3 : q.cnt ≤ 12) : readP (wq q) = .inr (.lst q.ds) := by
  obtain ⟨a, e⟩ := parse_q q 5 1 ((wq q).length + 1) 0 0 [] [] (by omega) h2 (by omega) (by simp) (fun c r e => by cases e)
  rw [List.append_nil, List.nil_append] at e
  unfold readP
  rw [question_of_steps (m := 5) (d := 1) ?_ (by omega) e]
  cases q with
  | nil => cases h1
  | cons b2 t2 f2 q2 =>
    rw [wq]
    cases b2
    · exact ⟨_, rfl⟩
    · exact ⟨_, rfl⟩
end Tp
end
section
set_option Elab.async false
set_option linter.all false
set_option maxRecDepth 100000
set_option maxHeartbeats 8000000
namespace Tp
open PySem L2 Dl
/-! what is read is written so -/
theorem tw_split {p : Nat → Bool} (l : List Nat) : l.takeWhile p ++ l.drop (l.takeWhile p).length = l := by
  conv => rhs; rw [← List.take_append_drop (l.takeWhile p).length l]
  rw [take_while_len]
theorem tw_all {p : Nat → Bool} (l : List Nat) : (l.takeWhile p).all p = true := by
  rw [List.all_eq_true]
  intro x hx
  exact tw_mem hx
theorem test_print {l : List Nat} {a s : Nat} {v : Str} {l2 : List Nat} {a2 s2 : Nat} (h : testP l a s = .ok v l2 a2 s2) : ∃ t, v = mkS t ∧ testOk t = true ∧ l = t ++ l2 ∧ s2 = s := by
  unfold testP at h
  split at h
  · cases h; exact ⟨[42], rfl, rfl, rfl, rfl⟩
  · cases h; exact ⟨[35], rfl, rfl, rfl, rfl⟩
  · split at h
    · rename_i hh
      cases h
      refine ⟨_, rfl, ?_, (tw_split l).symm, rfl⟩
      unfold testOk
      rw [decide_eq_true hh.1, decide_eq_true hh.2, tw_all]
      simp
    · cases h
theorem one_print {s0 c : Nat} {r : List Nat} {a s x : Nat} {l : List Nat} {a2 s2 : Nat} (hc : c ≠ 34) (h : oneP s0 c r a s = .ok x l a2 s2) : isSgn x = true ∧ c :: r = esc x ++ l ∧ l.length < (c :: r).length := by
  unfold oneP at h
  split at h
  · rename_i h1
    subst h1
    cases r with
    | nil => cases h
    | cons d r2 =>
      dsimp only at h
      unfold escOf at h
      by_cases e1 : d = 34
      · rw [if_pos e1] at h; cases h; subst e1; exact ⟨rfl, rfl, by simp; omega⟩
      · rw [if_neg e1] at h
        by_cases e2 : d = 92
        · rw [if_pos e2] at h; cases h; subst e2; exact ⟨rfl, rfl, by simp; omega⟩
        · rw [if_neg e2] at h
          by_cases e3 : d = 110
          · rw [if_pos e3] at h; cases h; subst e3; exact ⟨rfl, rfl, by simp; omega⟩
          · rw [if_neg e3] at h; cases h
  · rename_i h1
    split at h
    · cases h
    · rename_i h2
      cases h
      have h3 : c ≠ 10 := fun e => h2 (.inl e)
      have h4 : isSgn c = true := by
        cases q : isSgn c with
        | true => rfl
        | false => exact absurd (.inr q) h2
      refine ⟨h4, ?_, by simp⟩
      unfold esc
      rw [if_neg hc, if_neg h1, if_neg h3]
      rfl
theorem str_print : ∀ (n : Nat) (l : List Nat) (s0 a s : Nat) (acc v l2 : List Nat) (a2 s2 : Nat), l.length ≤ n → strP s0 l a s acc = .ok v l2 a2 s2 → ∃ w, v = acc ++ w ∧ w.all isSgn = true ∧ l = w.flatMap esc ++ l2 ∧ ∃ r, l2 = 34 :: r
  | n, [], s0, a, s, acc, v, l2, a2, s2, hn, h => by rw [strP.eq_def] at h; cases h
  | 0, c :: r, s0, a, s, acc, v, l2, a2, s2, hn, h => by simp at hn
  | n + 1, c :: r, s0, a, s, acc, v, l2, a2, s2, hn, h => by
    rw [strP_cons] at h
    by_cases hc : c = 34
    · rw [if_pos hc] at h
      cases h
      exact ⟨[], by simp, rfl, rfl, r, by rw [hc]⟩
    · rw [if_neg hc] at h
      cases ho : oneP s0 c r a s with
      | er p x => rw [ho] at h; cases h
      | ok x l3 a3 s3 =>
        rw [ho] at h
        obtain ⟨h1, h2, h3⟩ := one_print hc ho
        rw [List.length_cons] at hn h3
        obtain ⟨w, e1, e2, e3, e4⟩ := str_print n l3 s0 a3 s3 (acc ++ [x]) v l2 a2 s2 (by omega) h
        refine ⟨x :: w, by rw [e1]; simp, by rw [List.all_cons, h1, e2]; rfl, ?_, e4⟩
        rw [h2, e3, List.flatMap_cons, List.append_assoc]
theorem string_print {r : List Nat} {a s : Nat} {v : Str} {l2 : List Nat} {a2 s2 : Nat} (h : stringP (34 :: r) a s = .ok v l2 a2 s2) : ∃ w, v = mkS w ∧ strgOk w = true ∧ 34 :: r = quo w ++ l2 ∧ s2 = s := by
  have hs := (stringP_s h).1
  unfold stringP at h
  rw [List.drop_succ_cons, List.drop_zero] at h
  cases ho : strP a r (a + 1) s [] with
  | er p x => rw [ho] at h; cases h
  | ok acc l3 a3 s3 =>
    rw [ho] at h
    dsimp only at h
    split at h
    · rename_i hh
      cases h
      obtain ⟨w, e1, e2, e3, r3, e4⟩ := str_print _ r a (a + 1) s [] acc l3 a3 _ (Nat.le_refl _) ho
      rw [List.nil_append] at e1
      subst e1
      refine ⟨acc, rfl, ?_, ?_, hs⟩
      · unfold strgOk
        rw [decide_eq_true hh.1, decide_eq_true hh.2, e2]
        rfl
      · unfold quo
        rw [e3, e4]
        simp
    · cases h
/-- what questions within say, read backwards -/
def Back_ (q : Nat → List Nat → Nat → Nat → PR D) : Prop := ∀ d l a s v l' a' s', s ≤ 12 → q d l a s = .ok v l' a' s' → ∃ x : Qn, v = .lst x.ds ∧ l = wq x ++ l' ∧ x.isN = false ∧ x.ok d = true ∧ d ≤ 3 ∧ s' = s + x.cnt ∧ s' ≤ 12
theorem filter_print {q : Nat → List Nat → Nat → Nat → PR D} (hq : Back_ q) {b : Bool} {d : Nat} {l : List Nat} {a s : Nat} {v : D} {l' : List Nat} {a' s' : Nat} (hs : s ≤ 12) (h : filterP q b d l a s = .ok v l' a' s') :
    ∃ g : Fs → Fs, ∃ w, l = w ++ l' ∧ s ≤ s' ∧ s' ≤ 12 ∧ ∀ r, (g r).ds = v :: r.ds ∧ wf (g r) = 91 :: (w ++ 93 :: wf r) ∧ (g r).ok b d = r.ok b d ∧ (g r).cnt = (s' - s) + r.cnt := by
  cases l with
  | nil => cases h
  | cons c r =>
    unfold filterP at h
    dsimp only at h
    by_cases h1 : c = 47
    · rw [if_pos h1] at h
      cases ho : q (d + 1) (c :: r) a s with
      | er p x => rw [ho] at h; cases h
      | ok v2 l2 a2 s2 =>
        rw [ho] at h
        cases h
        obtain ⟨x, e1, e2, e3, e4, e5, e6, e7⟩ := hq _ _ _ _ _ _ _ _ hs ho
        refine ⟨fun r => .has x r, wq x, e2, by omega, e7, fun r => ⟨?_, ?_, ?_, ?_⟩⟩
        · rw [Fs.ds, e1]
        · rw [wf]
        · rw [Fs.ok, e3, e4, decide_eq_true e5]
          simp
        · rw [Fs.cnt]; omega
    · rw [if_neg h1] at h
      by_cases h2 : c = 34
      · rw [if_pos h2] at h
        subst h2
        cases ho : stringP (34 :: r) a s with
        | er p x => rw [ho] at h; cases h
        | ok v2 l2 a2 s2 =>
          rw [ho] at h
          cases h
          obtain ⟨w, e1, e2, e3, e4⟩ := string_print ho
          refine ⟨fun r => .holds w r, quo w, e3, by omega, by omega, fun r => ⟨?_, ?_, ?_, ?_⟩⟩
          · rw [Fs.ds, e1]
          · rw [wf]
          · rw [Fs.ok, e2]; simp
          · rw [Fs.cnt]; omega
      · rw [if_neg h2] at h
        by_cases h3 : 49 ≤ c ∧ c ≤ 57
        · rw [if_pos h3] at h
          split at h
          · cases h
          · rename_i hh
            cases h
            have hb : b = false := by
              cases b with
              | false => rfl
              | true => exact absurd (.inl rfl) hh
            subst hb
            have hc : isDig c = true := (dig_iff c).mpr (by omega)
            have ht : (c :: r).takeWhile isDig = c :: r.takeWhile isDig := by rw [List.takeWhile_cons, if_pos hc]
            have hl : ¬ 4 < ((c :: r).takeWhile isDig).length := fun z => hh (.inr (.inl z))
            have hv : ¬ 5000 < NumText.digitsVal ((c :: r).takeWhile isDig) := fun z => hh (.inr (.inr z))
            have hall : ∀ x ∈ c :: r.takeWhile isDig, isDig x = true := by
              rw [← ht]
              exact fun x hx => tw_mem hx
            have hsp := tw_split (p := isDig) (c :: r)
            rw [ht] at hl hv hsp ⊢
            obtain ⟨d1, d2⟩ := dec_inv h3.1 hall (by omega)
            refine ⟨fun z => .place (NumText.digitsVal (c :: r.takeWhile isDig)) z, dec (NumText.digitsVal (c :: r.takeWhile isDig)), ?_, Nat.le_refl _, hs, fun z => ⟨?_, ?_, ?_, ?_⟩⟩
            · rw [d1]; exact hsp.symm
            · rw [Fs.ds]
            · rw [wf]
            · rw [Fs.ok, decide_eq_true d2, decide_eq_true (show NumText.digitsVal (c :: r.takeWhile isDig) ≤ 5000 by omega)]
              simp
            · rw [Fs.cnt]; omega
        · rw [if_neg h3] at h; cases h
theorem filters_print {q : Nat → List Nat → Nat → Nat → PR D} (hq : Back_ q) {b : Bool} {d : Nat} : ∀ (f : Nat) (l : List Nat) (a s : Nat) (acc v : List D) (l' : List Nat) (a' s' : Nat), s ≤ 12 → filtersP q b d f l a s acc = .ok v l' a' s' → ∃ x : Fs, v = acc ++ x.ds ∧ l = wf x ++ l' ∧ x.ok b d = true ∧ s' = s + x.cnt ∧ s' ≤ 12
  | 0, l, a, s, acc, v, l', a', s', hs, h => by rw [filtersP.eq_def] at h; cases h
  | f + 1, [], a, s, acc, v, l', a', s', hs, h => by
    cases h
    exact ⟨.nil, by rw [Fs.ds, List.append_nil], by rw [wf]; rfl, by rw [Fs.ok], by rw [Fs.cnt]; rfl, hs⟩
  | f + 1, c :: r, a, s, acc, v, l', a', s', hs, h => by
    rw [filtersP_cons] at h
    by_cases h1 : c = 91
    · rw [if_pos h1] at h
      cases ho : filterP q b d r (a + 1) s with
      | er p x => rw [ho] at h; cases h
      | ok v2 l2 a2 s2 =>
        rw [ho] at h
        dsimp only at h
        obtain ⟨g, w, e1, e2, e3, e4⟩ := filter_print hq hs ho
        cases l2 with
        | nil => cases h
        | cons x r2 =>
          dsimp only at h
          by_cases h2 : x = 93
          · rw [if_pos h2] at h
            obtain ⟨y, k1, k2, k3, k4, k5⟩ := filters_print hq f r2 (a2 + 1) s2 (acc ++ [v2]) v l' a' s' e3 h
            obtain ⟨g1, g2, g3, g4⟩ := e4 y
            refine ⟨g y, ?_, ?_, by rw [g3, k3], by rw [g4]; omega, k5⟩
            · rw [k1, g1]; simp
            · rw [g2, h1, e1, h2, k2]; simp
          · rw [if_neg h2] at h; cases h
    · rw [if_neg h1] at h
      cases h
      exact ⟨.nil, by rw [Fs.ds, List.append_nil], by rw [wf]; rfl, by rw [Fs.ok], by rw [Fs.cnt]; rfl, hs⟩
theorem step_print {q : Nat → List Nat → Nat → Nat → PR D} (hq : Back_ q) {d : Nat} {l : List Nat} {a s : Nat} {v : D} {l' : List Nat} {a' s' : Nat} (hs : s ≤ 12) (h : stepP q d l a s = .ok v l' a' s') :
    ∃ b t fs, v = .tup [.str (axisS b), .str (mkS t), .lst (Fs.ds fs)] ∧ 47 :: l = (if b = true then [47, 47] else [47]) ++ (t ++ (wf fs ++ l')) ∧ testOk t = true ∧ fs.ok b d = true ∧ s' = s + fs.cnt ∧ s' ≤ 12 := by
  unfold stepP at h
  cases ho : testP (if axisOf l = true then l.drop 1 else l) (if axisOf l = true then a + 1 else a) s with
  | er p x => rw [ho] at h; cases h
  | ok t l2 a2 s2 =>
    rw [ho] at h
    dsimp only at h
    obtain ⟨t, rfl, e2, e3, e4⟩ := test_print ho
    rw [e4] at h
    cases hf : filtersP q (axisOf l) d (l2.length + 1) l2 a2 s [] with
    | er p x => rw [hf] at h; cases h
    | ok fs l3 a3 s3 =>
      rw [hf] at h
      cases h
      obtain ⟨y, k1, k2, k3, k4, k5⟩ := filters_print hq _ _ _ _ _ _ _ _ _ hs hf
      rw [List.nil_append] at k1
      subst k1
      refine ⟨axisOf l, t, y, rfl, ?_, e2, k3, k4, k5⟩
      rw [← k2, ← e3]
      cases hb : axisOf l with
      | false => rfl
      | true =>
        cases l with
        | nil => cases hb
        | cons x r =>
          have : x = 47 := by simpa [axisOf] using hb
          subst this
          rfl
theorem steps_print {q : Nat → List Nat → Nat → Nat → PR D} (hq : Back_ q) {d : Nat} : ∀ (f : Nat) (l : List Nat) (a s : Nat) (acc v : List D) (l' : List Nat) (a' s' : Nat), s ≤ 12 → stepsP q d f l a s acc = .ok v l' a' s' → ∃ x : Qn, v = acc ++ x.ds ∧ l = wq x ++ l' ∧ x.ok d = true ∧ s' = s + x.cnt ∧ s' ≤ 12 ∧ (∀ r, l' ≠ 47 :: r)
  | 0, l, a, s, acc, v, l', a', s', hs, h => by rw [stepsP.eq_def] at h; cases h
  | f + 1, [], a, s, acc, v, l', a', s', hs, h => by
    cases h
    exact ⟨.nil, by rw [Qn.ds, List.append_nil], by rw [wq]; rfl, by rw [Qn.ok], by rw [Qn.cnt]; rfl, hs, fun r e => by cases e⟩
  | f + 1, c :: r, a, s, acc, v, l', a', s', hs, h => by
    rw [stepsP_cons] at h
    by_cases h1 : c = 47
    · rw [if_pos h1] at h
      by_cases h2 : s = 12
      · rw [if_pos h2] at h; cases h
      · rw [if_neg h2] at h
        cases ho : stepP q d r (a + 1) (s + 1) with
        | er p x => rw [ho] at h; cases h
        | ok v2 l2 a2 s2 =>
          rw [ho] at h
          dsimp only at h
          obtain ⟨b, t, fs, e1, e2, e3, e4, e5, e6⟩ := step_print hq (by omega) ho
          obtain ⟨y, k1, k2, k3, k4, k5, k6⟩ := steps_print hq f l2 a2 s2 (acc ++ [v2]) v l' a' s' e6 h
          refine ⟨.cons b t fs y, ?_, ?_, ?_, ?_, k5, k6⟩
          · rw [k1, Qn.ds, e1]; simp
          · rw [h1, e2, k2, wq]; simp
          · rw [Qn.ok, e3, e4, k3]; rfl
          · rw [Qn.cnt]; omega
    · rw [if_neg h1] at h
      cases h
      exact ⟨.nil, by rw [Qn.ds, List.append_nil], by rw [wq]; rfl, by rw [Qn.ok], by rw [Qn.cnt]; rfl, hs, fun r e => by cases e; exact h1 rfl⟩
theorem question_print : ∀ n, Back_ (questionP n)
  | 0, d, l, a, s, v, l', a', s', hs, h => by cases h
  | n + 1, d, l, a, s, v, l', a', s', hs, h => by
    cases l with
    | nil => cases h
    | cons c r =>
      rw [questionP_cons] at h
      by_cases h1 : c = 47
      · rw [if_pos h1] at h
        subst h1
        by_cases h2 : s < 12 ∧ 3 < d
        · rw [if_pos h2] at h; cases h
        · rw [if_neg h2] at h
          cases ho : stepsP (questionP n) d ((47 :: r).length + 1) (47 :: r) a s [] with
          | er p x => rw [ho] at h; cases h
          | ok v2 l2 a2 s2 =>
            rw [ho] at h
            cases h
            obtain ⟨y, k1, k2, k3, k4, k5, k6⟩ := steps_print (question_print n) _ _ _ _ _ _ _ _ _ hs ho
            rw [List.nil_append] at k1
            subst k1
            have hy : y.isN = false := by
              cases y with
              | nil => rw [wq] at k2; exact absurd k2.symm (k6 r)
              | cons _ _ _ _ => rfl
            refine ⟨y, rfl, k2, hy, k3, ?_, k4, k5⟩
            have hc : 1 ≤ y.cnt := by
              cases y with
              | nil => cases hy
              | cons _ _ _ _ => rw [Qn.cnt]; omega
            omega
      · rw [if_neg h1] at h; cases h
theorem write_read {l : List Nat} {v : D} (h : readP l = .inr v) : ∃ q : Qn, v = .lst q.ds ∧ l = wq q ∧ q.isN = false ∧ q.ok 1 = true ∧ q.cnt ≤ 12 := by
  unfold readP at h
  cases ho : questionP 6 1 l 0 0 with
  | er p x => rw [ho] at h; cases h
  | ok v2 l2 a2 s2 =>
    rw [ho] at h
    cases l2 with
    | cons _ _ => cases h
    | nil =>
      cases h
      obtain ⟨y, k1, k2, k3, k4, k5, k6, k7⟩ := question_print 6 _ _ _ _ _ _ _ _ (by omega) ho
      exact ⟨y, k1, by rw [k2, List.append_nil], k3, k4, by omega⟩
/-! places of errors -/
def PosR {α : Type} (n : Nat) : PR α → Prop
  | .ok _ l a _ => a + l.length = n
  | .er p _ => p ≤ n
theorem test_pos (l : List Nat) (a s : Nat) : PosR (a + l.length) (testP l a s) := by
  unfold testP
  split
  · show _ + 1 + _ = _; simp; omega
  · show _ + 1 + _ = _; simp; omega
  · split
    · show _ + _ + (List.drop _ _).length = _
      rw [List.length_drop]
      have := (List.takeWhile_sublist isLet (l := l)).length_le
      omega
    · show a ≤ _; omega
theorem one_pos (s0 c : Nat) (r : List Nat) (a s : Nat) (h : s0 ≤ a) : PosR (a + 1 + r.length) (oneP s0 c r a s) := by
  unfold oneP
  split
  · split
    · show s0 ≤ _; omega
    · split
      · show _ + 2 + _ = _; simp; omega
      · show a + 1 ≤ _; omega
  · split
    · show a ≤ _; omega
    · rfl
theorem str_pos : ∀ (n : Nat) (l : List Nat) (s0 a s : Nat) (acc : List Nat), l.length ≤ n → s0 ≤ a → PosR (a + l.length) (strP s0 l a s acc)
  | n, [], s0, a, s, acc, hn, h => by rw [strP.eq_def]; show s0 ≤ _; omega
  | 0, c :: r, s0, a, s, acc, hn, h => by simp at hn
  | n + 1, c :: r, s0, a, s, acc, hn, h => by
    rw [strP_cons]
    split
    · rfl
    · rename_i hc
      have ho := one_pos s0 c r a s h
      cases hq : oneP s0 c r a s with
      | er p x => rw [hq] at ho; show p ≤ _; have : p ≤ a + 1 + r.length := ho; simp; omega
      | ok x l3 a3 s3 =>
        rw [hq] at ho
        have ho : a3 + l3.length = a + 1 + r.length := ho
        obtain ⟨_, _, h3⟩ := one_print hc hq
        have hl := (oneP_len "" (by decide +kernel) hq).2.1
        rw [List.length_cons] at hn h3 ⊢
        have := str_pos n l3 s0 a3 s3 (acc ++ [x]) (by omega) (by omega)
        rw [show a + (r.length + 1) = a3 + l3.length by omega]
        exact this
theorem string_pos (r : List Nat) (a s : Nat) : PosR (a + (34 :: r).length) (stringP (34 :: r) a s) := by
  unfold stringP
  rw [List.drop_succ_cons, List.drop_zero]
  have h := str_pos _ r a (a + 1) s [] (Nat.le_refl _) (by omega)
  cases ho : strP a r (a + 1) s [] with
  | er p x => rw [ho] at h; show p ≤ _; have : p ≤ a + 1 + r.length := h; simp; omega
  | ok acc l3 a3 s3 =>
    rw [ho] at h
    have h : a3 + l3.length = a + 1 + r.length := h
    obtain ⟨w, e1, e2, e3, r3, e4⟩ := str_print _ r a (a + 1) s [] acc l3 a3 s3 (Nat.le_refl _) ho
    subst e4
    dsimp only
    split
    · show a3 + 1 + (List.drop 1 (34 :: r3)).length = _
      simp at h ⊢; omega
    · show a ≤ _; omega
def PosQ (q : Nat → List Nat → Nat → Nat → PR D) : Prop := ∀ d l a s, PosR (a + l.length) (q d l a s)
theorem filter_pos {q : Nat → List Nat → Nat → Nat → PR D} (hq : PosQ q) (b : Bool) (d : Nat) (l : List Nat) (a s : Nat) : PosR (a + l.length) (filterP q b d l a s) := by
  cases l with
  | nil => exact Nat.le_refl _
  | cons c r =>
    unfold filterP
    dsimp only
    split
    · have h := hq (d + 1) (c :: r) a s
      cases ho : q (d + 1) (c :: r) a s with
      | er p x => rw [ho] at h; exact h
      | ok v2 l2 a2 s2 => rw [ho] at h; exact h
    · split
      · rename_i h2
        subst h2
        have h := string_pos r a s
        cases ho : stringP (34 :: r) a s with
        | er p x => rw [ho] at h; exact h
        | ok v2 l2 a2 s2 => rw [ho] at h; exact h
      · split
        · split
          · show a ≤ _; omega
          · show a + _ + (List.drop _ _).length = _
            rw [List.length_drop]
            have := (List.takeWhile_sublist isDig (l := c :: r)).length_le
            omega
        · show a ≤ _; omega
theorem filters_pos {q : Nat → List Nat → Nat → Nat → PR D} (hq : PosQ q) (b : Bool) (d : Nat) : ∀ (f : Nat) (l : List Nat) (a s : Nat) (acc : List D), PosR (a + l.length) (filtersP q b d f l a s acc)
  | 0, l, a, s, acc => Nat.zero_le _
  | f + 1, [], a, s, acc => rfl
  | f + 1, c :: r, a, s, acc => by
    rw [filtersP_cons]
    split
    · have h := filter_pos hq b d r (a + 1) s
      cases ho : filterP q b d r (a + 1) s with
      | er p x => rw [ho] at h; show p ≤ _; have : p ≤ a + 1 + r.length := h; simp; omega
      | ok v2 l2 a2 s2 =>
        rw [ho] at h
        have h : a2 + l2.length = a + 1 + r.length := h
        cases l2 with
        | nil => show a2 ≤ _; simp at h ⊢; omega
        | cons x r2 =>
          dsimp only
          split
          · have := filters_pos hq b d f r2 (a2 + 1) s2 (acc ++ [v2])
            rw [List.length_cons] at h ⊢
            rw [show a + (r.length + 1) = a2 + 1 + r2.length by omega]
            exact this
          · show a2 ≤ _; simp at h ⊢; omega
    · rfl
theorem step_pos {q : Nat → List Nat → Nat → Nat → PR D} (hq : PosQ q) (d : Nat) (l : List Nat) (a s : Nat) : PosR (a + l.length) (stepP q d l a s) := by
  unfold stepP
  have hl : (if axisOf l = true then a + 1 else a) + (if axisOf l = true then l.drop 1 else l).length = a + l.length := by
    cases hb : axisOf l with
    | false => rfl
    | true =>
      cases l with
      | nil => cases hb
      | cons x r => simp; omega
  have h := test_pos (if axisOf l = true then l.drop 1 else l) (if axisOf l = true then a + 1 else a) s
  rw [hl] at h
  cases ho : testP (if axisOf l = true then l.drop 1 else l) (if axisOf l = true then a + 1 else a) s with
  | er p x => rw [ho] at h; exact h
  | ok t l2 a2 s2 =>
    rw [ho] at h
    have h : a2 + l2.length = a + l.length := h
    have h2 := filters_pos hq (axisOf l) d (l2.length + 1) l2 a2 s2 []
    rw [h] at h2
    dsimp only
    cases hf : filtersP q (axisOf l) d (l2.length + 1) l2 a2 s2 [] with
    | er p x => rw [hf] at h2; exact h2
    | ok fs l3 a3 s3 => rw [hf] at h2; exact h2
theorem steps_pos {q : Nat → List Nat → Nat → Nat → PR D} (hq : PosQ q) (d : Nat) : ∀ (f : Nat) (l : List Nat) (a s : Nat) (acc : List D), PosR (a + l.length) (stepsP q d f l a s acc)
  | 0, l, a, s, acc => Nat.zero_le _
  | f + 1, [], a, s, acc => rfl
  | f + 1, c :: r, a, s, acc => by
    rw [stepsP_cons]
    split
    · split
      · show a ≤ _; omega
      · have h := step_pos hq d r (a + 1) (s + 1)
        cases ho : stepP q d r (a + 1) (s + 1) with
        | er p x => rw [ho] at h; show p ≤ _; have : p ≤ a + 1 + r.length := h; simp; omega
        | ok v2 l2 a2 s2 =>
          rw [ho] at h
          have h : a2 + l2.length = a + 1 + r.length := h
          have := steps_pos hq d f l2 a2 s2 (acc ++ [v2])
          rw [List.length_cons]
          rw [show a + (r.length + 1) = a2 + l2.length by omega]
          exact this
    · rfl
theorem question_pos : ∀ n, PosQ (questionP n)
  | 0, d, l, a, s => Nat.zero_le _
  | n + 1, d, [], a, s => Nat.le_refl _
  | n + 1, d, c :: r, a, s => by
    rw [questionP_cons]
    split
    · split
      · show a ≤ _; omega
      · have h := steps_pos (question_pos n) d ((c :: r).length + 1) (c :: r) a s []
        cases ho : stepsP (questionP n) d ((c :: r).length + 1) (c :: r) a s [] with
        | er p x => rw [ho] at h; exact h
        | ok v2 l2 a2 s2 => rw [ho] at h; exact h
    · show a ≤ _; omega
theorem read_pos {l : List Nat} {p : Nat} {x : Rsn} (h : readP l = .inl (p, x)) : p ≤ l.length := by
  unfold readP at h
  have hp := question_pos 6 1 l 0 0
  rw [Nat.zero_add] at hp
  cases ho : questionP 6 1 l 0 0 with
  | er p x => rw [ho] at h hp; cases h; exact hp
  | ok v2 l2 a2 s2 =>
    rw [ho] at h hp
    have hp : a2 + l2.length = l.length := hp
    cases l2 with
    | cons _ _ => cases h; omega
    | nil => cases h
end Tp
end
section
set_option Elab.async false
set_option linter.all false
set_option maxRecDepth 100000
set_option maxHeartbeats 8000000
namespace Tp
open PySem L2 Dl
/-! a for over a list, item by item -/
section
variable {it : Dl.Env → Rs Itr} {g : Tg} {fg : List Nat} {body : Sv} {items : List D} {chk : Dl.Env → Prop} {d : D} {ds : List D} {e e0 e1 e' : Dl.Env} {w : W}
theorem sFor_eq (hit : it e0 = .ok ⟨items, chk⟩ e1) : sFor it g fg body e0 = forD g chk body fg items e1 := by
  unfold sFor
  rw [hit]
  rfl
theorem forD_nil (h : chk e) : forD g chk body fg [] e = .nx e := by
  unfold forD
  rw [if_pos h]
theorem forD_nx (h : chk e) (ht : turn g body fg d e = .nx e') : forD g chk body fg (d :: ds) e = forD g chk body fg ds e' := by
  obtain ⟨e1, e2, q1, q2, q3⟩ := turn_nx ht
  conv => lhs; unfold forD
  rw [if_pos h]
  simp only [q1]
  rcases q2 with q2 | q2 <;>
  · simp only [q2]
    rw [q3]
theorem forD_rt (h : chk e) (ht : turn g body fg d e = .rt w e') : forD g chk body fg (d :: ds) e = .rt w e' := by
  conv => lhs; unfold forD
  rw [if_pos h]
  unfold turn turnO at ht
  cases hg : g d e with
  | none => rw [hg] at ht; cases ht
  | some e1 =>
    rw [hg] at ht
    dsimp only at ht ⊢
    cases hb : body e1 with
    | rt w2 e2 => rw [hb] at ht; cases ht; rfl
    | _ => rw [hb] at ht; cases ht
end
theorem all_map2 {α : Type} (p : α → Bool) (l : List α) : ((l.map p).all id) = l.all p := by
  rw [List.all_map]; rfl
theorem is_name_q (C : Cs) {w : Str} (hl : w.length ≤ 16777216) : F_is_name_questions C [.d (.str w)] [] = .ok (.d (.bl (decide (1 ≤ w.length) && decide (w.length ≤ 12) && (ch w).all isLet))) [] := by
  by_cases h1 : 1 ≤ w.length
  · by_cases h2 : w.length ≤ 12
    · obtain ⟨bs, c1, hbs⟩ : ∃ bs : List Bool, fb_is_name_questions_c1 C (E_is_name_questions (x_text := some (.d (.str w)))) = .ok (.d (.lst (bs.map .bl))) (E_is_name_questions (x_text := some (.d (.str w)))) ∧ bs.all id = (ch w).all isLet := by
        refine ⟨(ch w).map isLet, ?_, all_map2 _ _⟩
        unfold fb_is_name_questions_c1
        rw [comp_m (n := 100) (items := strL w) (chk := fun _ => True) (((ch w).map isLet).map .bl) (e1 := E_is_name_questions (x_text := some (.d (.str w)))) (by simp -implicitDefEqProofs [E_is_name_questions]) (by simp [Env.open]) (by rw [strL_len]; omega) (by rw [sizeL]; omega) rfl (by rw [List.length_map, List.length_map, ch_len, strL_len]) (fun i d y acc hd hy ha => ⟨trivial, by
          obtain ⟨c, hc, rfl⟩ := strL_at hd
          rw [List.getElem?_map, List.getElem?_map, hc] at hy
          cases hy
          have hs : acc.length < 16777216 := by omega
          have hi := letter_in c
          simp -implicitDefEqProofs [E_is_name_questions, sizeL, hs, inB, hi]⟩) (fun _ => trivial)]
        simp -implicitDefEqProofs
      simp -implicitDefEqProofs [E_is_name_questions] at c1
      have h1' : (1 : Int) ≤ w.length := by omega
      have h2' : (w.length : Int) ≤ 12 := by omega
      simp -implicitDefEqProofs [F_is_name_questions, fb_is_name_questions, env0, sizeL, hl, h1', h2', h1, h2, c1, hbs]
    · have h1' : (1 : Int) ≤ w.length := by omega
      have h2' : ¬ (w.length : Int) ≤ 12 := by omega
      simp -implicitDefEqProofs [F_is_name_questions, fb_is_name_questions, env0, sizeL, hl, h1', h2', h1, h2]
  · have h1' : ¬ (1 : Int) ≤ w.length := by omega
    simp -implicitDefEqProofs [F_is_name_questions, fb_is_name_questions, env0, sizeL, hl, h1', h1]
/-! has_form -/
def form (d : Nat) (q : Qn) : Bool := decide (d ≤ 3) && !q.isN && q.ok d
def Fs.bs (b : Bool) (d : Nat) : Fs → List Bool
  | .nil => []
  | .place n r => (!b && (decide (1 ≤ n) && decide (n ≤ 5000))) :: r.bs b d
  | .holds s r => strgOk s :: r.bs b d
  | .has q r => form (d + 1) q :: r.bs b d
theorem Fs.ok_bs (b : Bool) (d : Nat) : ∀ fs : Fs, fs.ok b d = (fs.bs b d).all id
  | .nil => by rw [Fs.ok, Fs.bs]; rfl
  | .place n r => by rw [Fs.ok, Fs.bs, List.all_cons, Fs.ok_bs b d r, ← Bool.and_assoc]; rfl
  | .holds s r => by rw [Fs.ok, Fs.bs, List.all_cons, Fs.ok_bs b d r]; rfl
  | .has q r => by rw [Fs.ok, Fs.bs, List.all_cons, Fs.ok_bs b d r]; rfl
theorem Fs.bs_len (b : Bool) (d : Nat) : ∀ fs : Fs, (fs.bs b d).length = fs.ds.length
  | .nil => by rw [Fs.bs, Fs.ds]; rfl
  | .place n r => by rw [Fs.bs, Fs.ds, List.length_cons, List.length_cons, Fs.bs_len b d r]
  | .holds n r => by rw [Fs.bs, Fs.ds, List.length_cons, List.length_cons, Fs.bs_len b d r]
  | .has n r => by rw [Fs.bs, Fs.ds, List.length_cons, List.length_cons, Fs.bs_len b d r]
theorem Fs.ds_len : ∀ fs : Fs, fs.ds.length ≤ (wf fs).length
  | .nil => by rw [Fs.ds, wf]; exact Nat.le_refl _
  | .place n r => by rw [Fs.ds, wf]; have := Fs.ds_len r; simp; omega
  | .holds n r => by rw [Fs.ds, wf]; have := Fs.ds_len r; simp; omega
  | .has n r => by rw [Fs.ds, wf]; have := Fs.ds_len r; simp; omega
theorem Qn.ds_len : ∀ q : Qn, q.ds.length ≤ (wq q).length
  | .nil => by rw [Qn.ds, wq]; exact Nat.le_refl _
  | .cons b t fs r => by
    rw [Qn.ds, wq]
    have := Qn.ds_len r
    cases b <;> simp <;> omega
theorem quo_len (s : List Nat) : s.length + 2 ≤ (quo s).length := by
  have h : s.length ≤ (s.flatMap esc).length := by
    induction s with
    | nil => simp
    | cons c s ih =>
      rw [List.flatMap_cons, List.length_append, List.length_cons]
      have : 1 ≤ (esc c).length := by unfold esc; (repeat' split) <;> simp
      omega
  unfold quo
  rw [List.length_cons, List.length_append, List.length_singleton]
  omega
theorem str_sign (C : Cs) {s : List Nat} (n : Nat) (h : 1 ≤ s.length ∧ s.length ≤ 40) (x0 : Option W) (d1 d2 : D) (F : Fd) (k : Str) (hx0 : x0 = some (.d (.tup [.str k, .str (mkS s)]))) :
    ∃ bs : List Bool, fb_is_filter_c1 C F (E_is_filter (x_row := x0) (x_axis := some (.d d1)) (x_depth := some (.d d2))) = .ok (.d (.lst (bs.map .bl))) (E_is_filter (x_row := x0) (x_axis := some (.d d1)) (x_depth := some (.d d2))) ∧ bs.all id = s.all isSgn := by
  subst hx0
  refine ⟨s.map isSgn, ?_, all_map2 _ _⟩
  unfold fb_is_filter_c1
  rw [comp_m (n := 100) (items := strL (mkS s)) (chk := fun _ => True) ((s.map isSgn).map .bl) (e1 := E_is_filter (x_row := some (.d (.tup [.str k, .str (mkS s)]))) (x_axis := some (.d d1)) (x_depth := some (.d d2))) (by simp -implicitDefEqProofs [E_is_filter, ixDD]) (by simp [Env.open]) (by rw [strL_len, mkS_len]; omega) (by rw [sizeL]; omega) rfl (by rw [List.length_map, List.length_map, strL_len, mkS_len]) (fun i d y acc hd hy ha => ⟨trivial, by
    obtain ⟨c, hc, rfl⟩ := strL_at hd
    rw [mkS_ch] at hc
    rw [List.getElem?_map, List.getElem?_map, hc] at hy
    cases hy
    have hs : acc.length < 16777216 := by omega
    simp -implicitDefEqProofs [E_is_filter, sizeL, hs, is_sign_ok C c]⟩) (fun _ => trivial)]
  simp -implicitDefEqProofs
theorem axis_c (b : Bool) : (axisS b == "child") = !b := by cases b <;> decide +kernel
@[simp] theorem nk1 : (("holds" : Str) == "place") = false := by decide +kernel
@[simp] theorem nk2 : (("holds" : Str) == "has") = false := by decide +kernel
@[simp] theorem nk3 : (("has" : Str) == "place") = false := by decide +kernel
@[simp] theorem nk4 : (("place" : Str) == "has") = false := by decide +kernel
@[simp] theorem nk5 : (("place" : Str) == "holds") = false := by decide +kernel
@[simp] theorem nk6 : (("has" : Str) == "holds") = false := by decide +kernel
theorem filt_place (C : Cs) (F : Fd) (b : Bool) (d : Int) (n : Nat) : F_is_filter C F [.d (.tup [.str "place", .int (n : Nat)]), .d (.str (axisS b)), .d (.int d)] [] = .ok (.d (.bl (!b && (decide (1 ≤ n) && decide (n ≤ 5000))))) [] := by
  have hc := axis_c b
  cases b with
  | true =>
    simp -implicitDefEqProofs at hc
    simp -implicitDefEqProofs [F_is_filter, fb_is_filter, env0, ixDD, hc]
  | false =>
    simp -implicitDefEqProofs at hc
    by_cases h1 : 1 ≤ n
    · by_cases h2 : n ≤ 5000
      · have h1' : (1 : Int) ≤ n := by omega
        have h2' : (n : Int) ≤ 5000 := by omega
        simp -implicitDefEqProofs [F_is_filter, fb_is_filter, env0, ixDD, hc, h1, h2, h1', h2']
      · have h1' : (1 : Int) ≤ n := by omega
        have h2' : ¬ (n : Int) ≤ 5000 := by omega
        simp -implicitDefEqProofs [F_is_filter, fb_is_filter, env0, ixDD, hc, h1, h2, h1', h2']
    · have h1' : ¬ (1 : Int) ≤ n := by omega
      simp -implicitDefEqProofs [F_is_filter, fb_is_filter, env0, ixDD, hc, h1, h1']
theorem filt_holds (C : Cs) (F : Fd) (b : Bool) (d : Int) (s : List Nat) (hl : s.length ≤ 16777216) : F_is_filter C F [.d (.tup [.str "holds", .str (mkS s)]), .d (.str (axisS b)), .d (.int d)] [] = .ok (.d (.bl (strgOk s))) [] := by
  have ml := mkS_len s
  unfold strgOk
  by_cases h1 : 1 ≤ s.length
  · by_cases h2 : s.length ≤ 40
    · have h1' : (1 : Int) ≤ s.length := by omega
      have h2' : (s.length : Int) ≤ 40 := by omega
      obtain ⟨bs, e, hbs⟩ := str_sign C 0 ⟨h1, h2⟩ (some (.d (.tup [.str "holds", .str (mkS s)]))) (.str (axisS b)) (.int d) F "holds" rfl
      simp -implicitDefEqProofs [E_is_filter] at e
      simp -implicitDefEqProofs [F_is_filter, fb_is_filter, env0, ixDD, ml, sizeL, hl, h1, h2, h1', h2', e, hbs]
    · have h1' : (1 : Int) ≤ s.length := by omega
      have h2' : ¬ (s.length : Int) ≤ 40 := by omega
      simp -implicitDefEqProofs [F_is_filter, fb_is_filter, env0, ixDD, ml, sizeL, hl, h1, h2, h1', h2']
  · have h1' : ¬ (1 : Int) ≤ s.length := by omega
    simp -implicitDefEqProofs [F_is_filter, fb_is_filter, env0, ixDD, ml, sizeL, hl, h1, h1']
theorem filt_has (C : Cs) (F : Fd) (b : Bool) (d : Int) (q : List D) (k : Bool) (h : F [.d (.lst q), .d (.int (d + 1))] [] = .ok (.d (.bl k)) []) : F_is_filter C F [.d (.tup [.str "has", .lst q]), .d (.str (axisS b)), .d (.int d)] [] = .ok (.d (.bl k)) [] := by
  simp -implicitDefEqProofs [F_is_filter, fb_is_filter, env0, ixDD, h]
@[simp] abbrev Ehf (Q : D) (d : Int) (x2 x3 x4 : Option W := none) : Dl.Env := E_has_form (x_question := some (.d Q)) (x_depth := some (.d (.int d))) (x_axis := x2) (x_test := x3) (x_filters := x4)
/-- the comprehension of a step's filters -/
theorem form_c1 (C : Cs) (F : Fd) (Q : D) (d : Int) (ax : Str) (d3 : D) (xs : List D) (bs : List Bool) (hn : xs.length ≤ 5000) (hl : bs.length = xs.length)
    (h : ∀ (i : Nat) (x : D) (k : Bool), xs[i]? = some x → bs[i]? = some k → F_is_filter C F [.d x, .d (.str ax), .d (.int d)] [] = .ok (.d (.bl k)) []) :
    fb_has_form_c1 C F (Ehf Q d (some (.d (.str ax))) (some (.d d3)) (some (.d (.lst xs)))) = .ok (.d (.lst (bs.map .bl))) (Ehf Q d (some (.d (.str ax))) (some (.d d3)) (some (.d (.lst xs)))) := by
  unfold fb_has_form_c1
  rw [comp_m (n := 5000) (items := xs) (chk := fun _ => True) (bs.map .bl) (e1 := Ehf Q d (some (.d (.str ax))) (some (.d d3)) (some (.d (.lst xs)))) (by simp -implicitDefEqProofs [Ehf, E_has_form]) (by simp [Env.open]) hn (by rw [sizeL]; omega) rfl (by rw [List.length_map, hl]) (fun i x y acc hd hy ha => ⟨trivial, by
    rw [List.getElem?_map] at hy
    cases hk : bs[i]? with
    | none => rw [hk] at hy; cases hy
    | some k =>
      rw [hk] at hy
      cases hy
      have hf := h i x k hd hk
      have hs : acc.length < 16777216 := by omega
      simp -implicitDefEqProofs [Ehf, E_has_form, sizeL, hs, hf]⟩) (fun _ => trivial)]
  simp -implicitDefEqProofs
theorem test_in (t : List Nat) : (mkS t == "*") = (t == [42]) ∧ (mkS t == "#") = (t == [35]) := by
  constructor
  · rw [Bool.eq_iff_iff, beq_iff_eq, beq_iff_eq, show ("*" : Str) = mkS [42] by decide +kernel]
    exact ⟨fun h => by have := congrArg ch h; rwa [mkS_ch, mkS_ch] at this, fun h => by rw [h]⟩
  · rw [Bool.eq_iff_iff, beq_iff_eq, beq_iff_eq, show ("#" : Str) = mkS [35] by decide +kernel]
    exact ⟨fun h => by have := congrArg ch h; rwa [mkS_ch, mkS_ch] at this, fun h => by rw [h]⟩
theorem axis_in (b : Bool) : (axisS b == "child" || axisS b == "below") = true := by cases b <;> decide +kernel
/-- a turn over a step -/
theorem form_turn (C : Cs) (F : Fd) (Q : D) (d : Int) (b : Bool) (t : List Nat) (xs : List D) (bs : List Bool) (ht : t.length ≤ 5000) (hn : xs.length ≤ 5000) (hl : bs.length = xs.length)
    (h : ∀ (i : Nat) (x : D) (k : Bool), xs[i]? = some x → bs[i]? = some k → F_is_filter C F [.d x, .d (.str (axisS b)), .d (.int d)] [] = .ok (.d (.bl k)) []) :
    if (testOk t && bs.all id) = true then turn (tgTup [(tgName 2), (tgName 3), (tgName 4)]) (fb_has_form_l1b C F) [2, 3, 4, 5] (.tup [.str (axisS b), .str (mkS t), .lst xs]) (Ehf Q d) = .nx (Ehf Q d)
    else ∃ x2 x3 x4, turn (tgTup [(tgName 2), (tgName 3), (tgName 4)]) (fb_has_form_l1b C F) [2, 3, 4, 5] (.tup [.str (axisS b), .str (mkS t), .lst xs]) (Ehf Q d) = .rt (.d (.bl false)) (Ehf Q d x2 x3 x4) := by
  have c1 := form_c1 C F Q d (axisS b) (.str (mkS t)) xs bs hn hl h
  have ml := mkS_len t
  have nm := is_name_q C (w := mkS t) (by rw [ml]; omega)
  rw [mkS_ch, ml] at nm
  obtain ⟨t1, t2⟩ := test_in t
  have ai := axis_in b
  simp -implicitDefEqProofs [Ehf, E_has_form] at c1
  unfold testOk
  generalize (decide (1 ≤ t.length) && decide (t.length ≤ 12) && t.all isLet) = nmb at nm ⊢
  generalize hA : bs.all id = A
  by_cases hst : (t == [42] || t == [35]) = true
  · rw [hst, Bool.true_or, Bool.true_and]
    have t3 : (mkS t == "*" || mkS t == "#") = true := by rw [t1, t2]; exact hst
    cases A with
    | true =>
      rw [if_pos rfl]
      simp -implicitDefEqProofs [Ehf, E_has_form, fb_has_form_l1b, notInB, inB, sizeL, ai, t3, c1, hA]
    | false =>
      rw [if_neg (by decide)]
      refine ⟨some (.d (.str (axisS b))), some (.d (.str (mkS t))), some (.d (.lst xs)), ?_⟩
      simp -implicitDefEqProofs [Ehf, E_has_form, fb_has_form_l1b, notInB, inB, sizeL, ai, t3, c1, hA]
  · have hst : (t == [42] || t == [35]) = false := by simpa using hst
    rw [hst, Bool.false_or]
    have t3 : (mkS t == "*" || mkS t == "#") = false := by rw [t1, t2]; exact hst
    cases nmb with
    | false =>
      rw [Bool.false_and, if_neg (by decide)]
      refine ⟨some (.d (.str (axisS b))), some (.d (.str (mkS t))), some (.d (.lst xs)), ?_⟩
      simp -implicitDefEqProofs [Ehf, E_has_form, fb_has_form_l1b, notInB, inB, sizeL, ai, t3, c1, hA, nm]
    | true =>
      rw [Bool.true_and]
      cases A with
      | true =>
        rw [if_pos rfl]
        simp -implicitDefEqProofs [Ehf, E_has_form, fb_has_form_l1b, notInB, inB, sizeL, ai, t3, c1, hA, nm]
      | false =>
        rw [if_neg (by decide)]
        refine ⟨some (.d (.str (axisS b))), some (.d (.str (mkS t))), some (.d (.lst xs)), ?_⟩
        simp -implicitDefEqProofs [Ehf, E_has_form, fb_has_form_l1b, notInB, inB, sizeL, ai, t3, c1, hA, nm]
  end Tp
end
section
set_option Elab.async false
set_option linter.all false
set_option maxRecDepth 100000
set_option maxHeartbeats 8000000
namespace Tp
open PySem L2 Dl
noncomputable abbrev hfD (C : Cs) (F : Fd) (xs : List D) (e : Dl.Env) : SR := forD (tgTup [(tgName 2), (tgName 3), (tgName 4)]) (fun _ => True) (fb_has_form_l1b C F) [2, 3, 4, 5] xs e
def HfR (C : Cs) (F : Fd) (Q : D) (d : Nat) (q : Qn) (rest : List D) : Prop :=
  if q.ok d = true then hfD C F (q.ds ++ rest) (Ehf Q d) = hfD C F rest (Ehf Q d)
  else ∃ x2 x3 x4, hfD C F (q.ds ++ rest) (Ehf Q d) = .rt (.d (.bl false)) (Ehf Q d x2 x3 x4)
theorem isN_ds (q : Qn) : q.isN = q.ds.isEmpty := by cases q <;> rw [Qn.ds] <;> rfl
theorem has_form_of (C : Cs) (n d : Nat) (xs : List D) (hl : xs.length ≤ 5000) (k : Bool) (h : d ≤ 3 → xs ≠ [] → if k = true then hfD C (F_has_form C n) xs (Ehf (.lst xs) d) = .nx (Ehf (.lst xs) d) else ∃ x2 x3 x4, hfD C (F_has_form C n) xs (Ehf (.lst xs) d) = .rt (.d (.bl false)) (Ehf (.lst xs) d x2 x3 x4)) :
    F_has_form C (n + 1) [.d (.lst xs), .d (.int d)] [] = .ok (.d (.bl (decide (d ≤ 3) && !xs.isEmpty && k))) [] := by
  have hs : xs.length ≤ 16777216 := by omega
  unfold F_has_form
  cases xs with
  | nil =>
    simp -implicitDefEqProofs [fb_has_form, env0, sizeL]
  | cons x r =>
    have hp : ¬ ((r.length : Int) + 1 = 0) := by omega
    have hb : ((r.length : Int) + 1 == 0) = false := beq_false_of_ne hp
    simp -implicitDefEqProofs at hs
    by_cases hd : d ≤ 3
    · have hd' : ¬ (3 : Int) < d := by omega
      have h := h hd (by simp)
      have e0 : fb_has_form_l1 C (F_has_form C n) (Ehf (.lst (x :: r)) d) = hfD C (F_has_form C n) (x :: r) (Ehf (.lst (x :: r)) d) := by
        unfold fb_has_form_l1
        exact sFor_eq (by simp -implicitDefEqProofs [Ehf, E_has_form])
      cases k with
      | true =>
        rw [if_pos rfl] at h
        rw [h] at e0
        simp -implicitDefEqProofs [Ehf, E_has_form] at e0
        simp -implicitDefEqProofs [fb_has_form, env0, sizeL, hs, hb, hd', hd, e0]
      | false =>
        rw [if_neg (by decide)] at h
        obtain ⟨x2, x3, x4, h⟩ := h
        rw [h] at e0
        simp -implicitDefEqProofs [Ehf, E_has_form] at e0
        simp -implicitDefEqProofs [fb_has_form, env0, sizeL, hs, hb, hd', hd, e0]
    · have hd' : (3 : Int) < d := by omega
      simp -implicitDefEqProofs [fb_has_form, env0, sizeL, hs, hb, hd', hd]
mutual
theorem form_q (C : Cs) : ∀ (q : Qn) (n d : Nat) (Q : D) (rest : List D), 4 ≤ n + d → d ≤ 3 → (wq q).length ≤ 5000 → HfR C (F_has_form C n) Q d q rest
  | .nil, n, d, Q, rest, hn, hd, hl => by
    unfold HfR
    rw [if_pos (by rw [Qn.ok]), Qn.ds]
    rfl
  | .cons b t fs r, n, d, Q, rest, hn, hd, hl => by
    have hlen : t.length + (wf fs).length + (wq r).length ≤ 5000 := by
      rw [wq] at hl
      simp at hl
      omega
    have hf := form_f C fs b n d hn hd (by omega)
    have hr := form_q C r n d Q rest hn hd (by omega)
    have ht := form_turn C (F_has_form C n) Q (d : Nat) b t fs.ds (fs.bs b d) (by omega) (by have := Fs.ds_len fs; omega) (Fs.bs_len b d fs) hf
    unfold HfR at hr ⊢
    rw [Qn.ok, Fs.ok_bs, Qn.ds]
    by_cases h1 : (testOk t && (fs.bs b d).all id) = true
    · rw [if_pos h1] at ht
      rw [h1, Bool.true_and]
      have e : hfD C (F_has_form C n) ((.tup [.str (axisS b), .str (mkS t), .lst fs.ds] :: r.ds) ++ rest) (Ehf Q d) = hfD C (F_has_form C n) (r.ds ++ rest) (Ehf Q d) := forD_nx trivial ht
      rw [e]
      exact hr
    · rw [if_neg h1] at ht
      rw [if_neg (by rw [Bool.and_eq_true]; exact fun z => h1 z.1)]
      obtain ⟨x2, x3, x4, ht⟩ := ht
      exact ⟨x2, x3, x4, forD_rt trivial ht⟩
theorem form_f (C : Cs) : ∀ (fs : Fs) (b : Bool) (n d : Nat), 4 ≤ n + d → d ≤ 3 → (wf fs).length ≤ 5000 → ∀ (i : Nat) (x : D) (k : Bool), fs.ds[i]? = some x → (fs.bs b d)[i]? = some k → F_is_filter C (F_has_form C n) [.d x, .d (.str (axisS b)), .d (.int (d : Nat))] [] = .ok (.d (.bl k)) []
  | .nil, b, n, d, hn, hd, hl, i, x, k, h1, h2 => by rw [Fs.ds] at h1; simp at h1
  | .place m r, b, n, d, hn, hd, hl, i, x, k, h1, h2 => by
    rw [Fs.ds] at h1
    rw [Fs.bs] at h2
    cases i with
    | zero => cases h1; cases h2; exact filt_place C _ b d m
    | succ i => exact form_f C r b n d hn hd (by rw [wf] at hl; simp at hl; omega) i x k (by simpa using h1) (by simpa using h2)
  | .holds s r, b, n, d, hn, hd, hl, i, x, k, h1, h2 => by
    rw [Fs.ds] at h1
    rw [Fs.bs] at h2
    have hq := quo_len s
    have hl' : s.length ≤ 5000 ∧ (wf r).length ≤ 5000 := by rw [wf] at hl; simp at hl; omega
    cases i with
    | zero => cases h1; cases h2; exact filt_holds C _ b d s (by omega)
    | succ i => exact form_f C r b n d hn hd hl'.2 i x k (by simpa using h1) (by simpa using h2)
  | .has q r, b, n, d, hn, hd, hl, i, x, k, h1, h2 => by
    rw [Fs.ds] at h1
    rw [Fs.bs] at h2
    have hl' : (wq q).length ≤ 5000 ∧ (wf r).length ≤ 5000 := by rw [wf] at hl; simp at hl; omega
    cases i with
    | zero =>
      cases h1; cases h2
      obtain ⟨n, rfl⟩ : ∃ g, n = g + 1 := ⟨n - 1, by omega⟩
      refine filt_has C _ b d q.ds _ ?_
      have := has_form_of C n (d + 1) q.ds (by have := Qn.ds_len q; omega) (q.ok (d + 1)) (fun hd1 _ => by
        have := form_q C q n (d + 1) (.lst q.ds) [] (by omega) hd1 hl'.1
        unfold HfR at this
        rw [List.append_nil] at this
        have e : hfD C (F_has_form C n) [] (Ehf (.lst q.ds) ((d + 1 : Nat) : Int)) = .nx (Ehf (.lst q.ds) ((d + 1 : Nat) : Int)) := forD_nil trivial
        rw [e] at this
        exact this)
      unfold form
      rw [isN_ds]
      exact this
    | succ i => exact form_f C r b n d hn hd hl'.2 i x k (by simpa using h1) (by simpa using h2)
end
theorem has_form_ok (C : Cs) (q : Qn) (n d : Nat) (hn : 4 ≤ n + d) (hl : (wq q).length ≤ 5000) : F_has_form C (n + 1) [.d (.lst q.ds), .d (.int d)] [] = .ok (.d (.bl (form d q))) [] := by
  have := has_form_of C n d q.ds (by have := Qn.ds_len q; omega) (q.ok d) (fun hd1 _ => by
    have := form_q C q n d (.lst q.ds) [] (by omega) hd1 hl
    unfold HfR at this
    rw [List.append_nil] at this
    have e : hfD C (F_has_form C n) [] (Ehf (.lst q.ds) (d : Int)) = .nx (Ehf (.lst q.ds) (d : Int)) := forD_nil trivial
    rw [e] at this
    exact this)
  unfold form
  rw [isN_ds]
  exact this
/-! step_count -/
@[simp] abbrev Esc (Q : D) (c : Int) (x2 x3 x4 x5 : Option W := none) : Dl.Env := E_step_count (x_question := some (.d Q)) (x_count := some (.d (.int c))) (x_axis := x2) (x_test := x3) (x_filters := x4) (x_row := x5)
noncomputable abbrev scD (C : Cs) (F : Fd) (xs : List D) (e : Dl.Env) : SR := forD (tgTup [(tgName 2), (tgName 3), (tgName 4)]) (fun _ => True) (fb_step_count_l1b C F) [2, 3, 4, 5] xs e
noncomputable abbrev scF (C : Cs) (F : Fd) (xs : List D) (e : Dl.Env) : SR := forD (tgName 5) (fun _ => True) (fb_step_count_l2b C F) [5] xs e
def Qn.top : Qn → Nat | .nil => 0 | .cons _ _ _ r => 1 + r.top
theorem Qn.top_len : ∀ q : Qn, q.ds.length = q.top
  | .nil => by rw [Qn.ds, Qn.top]; rfl
  | .cons b t fs r => by rw [Qn.ds, Qn.top, List.length_cons, Qn.top_len r]; omega
/-- steps of questions within -/
def Qn.ins : Qn → Nat | .nil => 0 | .cons _ _ fs r => fs.cnt + r.ins
theorem Qn.cnt_top : ∀ q : Qn, q.cnt = q.top + q.ins
  | .nil => by rw [Qn.cnt, Qn.top, Qn.ins]
  | .cons b t fs r => by rw [Qn.cnt, Qn.top, Qn.ins, Qn.cnt_top r]; omega
theorem count_of (C : Cs) (q : Qn) (n : Nat) (hl : (wq q).length ≤ 5000) (h : ∀ (c : Int), scD C (F_step_count C n) q.ds (Esc (.lst q.ds) c) = .nx (Esc (.lst q.ds) (c + q.ins))) : F_step_count C (n + 1) [.d (.lst q.ds)] [] = .ok (.d (.int (q.cnt : Nat))) [] := by
  have h1 := Qn.ds_len q
  have hs : q.ds.length ≤ 16777216 := by omega
  have e0 : fb_step_count_l1 C (F_step_count C n) (Esc (.lst q.ds) q.ds.length) = .nx (Esc (.lst q.ds) (q.ds.length + q.ins)) := by
    unfold fb_step_count_l1
    rw [sFor_eq (items := q.ds) (chk := fun _ => True) (e1 := Esc (.lst q.ds) q.ds.length) (by simp -implicitDefEqProofs [Esc, E_step_count])]
    exact h _
  have e1 : (q.ds.length : Int) + q.ins = (q.cnt : Nat) := by rw [Qn.top_len, Qn.cnt_top]; omega
  rw [e1] at e0
  unfold F_step_count
  simp -implicitDefEqProofs [Esc, E_step_count] at e0
  simp -implicitDefEqProofs [fb_step_count, env0, sizeL, hs, e0]
mutual
theorem count_q (C : Cs) : ∀ (q : Qn) (n : Nat) (Q : D) (c : Int), q.dp ≤ n + 1 → (wq q).length ≤ 5000 → scD C (F_step_count C n) q.ds (Esc Q c) = .nx (Esc Q (c + q.ins))
  | .nil, n, Q, c, hn, hl => by
    rw [Qn.ds, Qn.ins]
    have : scD C (F_step_count C n) [] (Esc Q c) = .nx (Esc Q c) := forD_nil trivial
    rw [this]
    simp
  | .cons b t fs r, n, Q, c, hn, hl => by
    have hlen : t.length + (wf fs).length + (wq r).length ≤ 5000 := by
      rw [wq] at hl
      simp at hl
      omega
    rw [Qn.dp] at hn
    have hf := count_f C fs n Q c (.str (axisS b)) (.str (mkS t)) fs.ds (by omega) (by omega)
    have hr := count_q C r n Q (c + fs.cnt) (by omega) (by omega)
    have ht : turn (tgTup [(tgName 2), (tgName 3), (tgName 4)]) (fb_step_count_l1b C (F_step_count C n)) [2, 3, 4, 5] (.tup [.str (axisS b), .str (mkS t), .lst fs.ds]) (Esc Q c) = .nx (Esc Q (c + fs.cnt)) := by
      have e0 : fb_step_count_l2 C (F_step_count C n) (Esc Q c (some (.d (.str (axisS b)))) (some (.d (.str (mkS t)))) (some (.d (.lst fs.ds)))) = .nx (Esc Q (c + fs.cnt) (some (.d (.str (axisS b)))) (some (.d (.str (mkS t)))) (some (.d (.lst fs.ds)))) := by
        unfold fb_step_count_l2
        rw [sFor_eq (items := fs.ds) (chk := fun _ => True) (e1 := Esc Q c (some (.d (.str (axisS b)))) (some (.d (.str (mkS t)))) (some (.d (.lst fs.ds)))) (by simp -implicitDefEqProofs [Esc, E_step_count])]
        exact hf
      simp -implicitDefEqProofs [Esc, E_step_count] at e0
      simp -implicitDefEqProofs [Esc, E_step_count, fb_step_count_l1b, e0]
    rw [Qn.ds, Qn.ins]
    have e := forD_nx (ds := r.ds) (chk := fun _ => True) trivial ht
    have e : scD C (F_step_count C n) (.tup [.str (axisS b), .str (mkS t), .lst fs.ds] :: r.ds) (Esc Q c) = scD C (F_step_count C n) r.ds (Esc Q (c + fs.cnt)) := e
    rw [e, hr]
    rw [show c + fs.cnt + r.ins = c + ((fs.cnt + r.ins : Nat) : Int) by omega]
theorem count_f (C : Cs) : ∀ (fs : Fs) (n : Nat) (Q : D) (c : Int) (d2 d3 : D) (xs : List D), fs.dp ≤ n + 1 → (wf fs).length ≤ 5000 → scF C (F_step_count C n) fs.ds (Esc Q c (some (.d d2)) (some (.d d3)) (some (.d (.lst xs)))) = .nx (Esc Q (c + fs.cnt) (some (.d d2)) (some (.d d3)) (some (.d (.lst xs))))
  | .nil, n, Q, c, d2, d3, xs, hn, hl => by
    rw [Fs.ds, Fs.cnt]
    have : scF C (F_step_count C n) [] (Esc Q c (some (.d d2)) (some (.d d3)) (some (.d (.lst xs)))) = .nx (Esc Q c (some (.d d2)) (some (.d d3)) (some (.d (.lst xs)))) := forD_nil trivial
    rw [this]
    simp
  | .place m r, n, Q, c, d2, d3, xs, hn, hl => by
    rw [Fs.dp] at hn
    have hr := count_f C r n Q c d2 d3 xs hn (by rw [wf] at hl; simp at hl; omega)
    rw [Fs.ds, Fs.cnt, ← hr]
    exact forD_nx trivial (by simp -implicitDefEqProofs [Esc, E_step_count, fb_step_count_l2b, ixDD])
  | .holds m r, n, Q, c, d2, d3, xs, hn, hl => by
    rw [Fs.dp] at hn
    have hr := count_f C r n Q c d2 d3 xs hn (by rw [wf] at hl; simp at hl; omega)
    rw [Fs.ds, Fs.cnt, ← hr]
    exact forD_nx trivial (by simp -implicitDefEqProofs [Esc, E_step_count, fb_step_count_l2b, ixDD])
  | .has q r, n, Q, c, d2, d3, xs, hn, hl => by
    rw [Fs.dp] at hn
    have hl' : (wq q).length ≤ 5000 ∧ (wf r).length ≤ 5000 := by rw [wf] at hl; simp at hl; omega
    have hr := count_f C r n Q (c + q.cnt) d2 d3 xs (by omega) hl'.2
    have hdp : 1 ≤ q.dp := by
      have : ∀ x : Qn, 1 ≤ x.dp := fun x => Qn.rec (motive_1 := fun x => 1 ≤ x.dp) (motive_2 := fun x => 1 ≤ x.dp) (by rw [Qn.dp]; omega) (fun _ _ _ _ h1 h2 => by rw [Qn.dp]; omega) (by rw [Fs.dp]; omega) (fun _ _ h => by rw [Fs.dp]; omega) (fun _ _ h => by rw [Fs.dp]; omega) (fun _ _ h1 h2 => by rw [Fs.dp]; omega) x
      exact this q
    obtain ⟨n, rfl⟩ : ∃ g, n = g + 1 := ⟨n - 1, by omega⟩
    have hq := count_of C q n hl'.1 (fun c => count_q C q n (.lst q.ds) c (by omega) hl'.1)
    rw [Fs.ds, Fs.cnt]
    have e : scF C (F_step_count C (n + 1)) (.tup [.str "has", .lst q.ds] :: r.ds) (Esc Q c (some (.d d2)) (some (.d d3)) (some (.d (.lst xs)))) = scF C (F_step_count C (n + 1)) r.ds (Esc Q (c + q.cnt) (some (.d d2)) (some (.d d3)) (some (.d (.lst xs)))) := forD_nx trivial (by simp -implicitDefEqProofs [Esc, E_step_count, fb_step_count_l2b, ixDD, hq])
    rw [e, hr, show c + q.cnt + r.cnt = c + ((q.cnt + r.cnt : Nat) : Int) by omega]
end
theorem step_count_ok (C : Cs) (q : Qn) (n : Nat) (hn : q.dp ≤ n + 1) (hl : (wq q).length ≤ 5000) : F_step_count C (n + 1) [.d (.lst q.ds)] [] = .ok (.d (.int (q.cnt : Nat))) [] := count_of C q n hl fun c => count_q C q n (.lst q.ds) c hn hl
theorem is_proper_ok (C : Cs) (q : Qn) (hn : q.dp ≤ 5) (hl : (wq q).length ≤ 5000) : F_is_proper C [.d (.lst q.ds)] [] = .ok (.d (.bl (form 1 q && decide (q.cnt ≤ 12)))) [] := by
  have h1 := has_form_ok C q 4 1 (by omega) hl
  have h2 := step_count_ok C q 4 hn hl
  simp -implicitDefEqProofs at h1
  cases hf : form 1 q with
  | false =>
    rw [hf] at h1
    simp -implicitDefEqProofs [F_is_proper, fb_is_proper, env0, h1]
  | true =>
    rw [hf] at h1
    by_cases h3 : q.cnt ≤ 12
    · have h3' : (q.cnt : Int) ≤ 12 := by omega
      simp -implicitDefEqProofs [F_is_proper, fb_is_proper, env0, h1, h2, h3, h3']
    · have h3' : ¬ (q.cnt : Int) ≤ 12 := by omega
      simp -implicitDefEqProofs [F_is_proper, fb_is_proper, env0, h1, h2, h3, h3']
end Tp
end
section
set_option Elab.async false
set_option linter.all false
set_option maxRecDepth 100000
set_option maxHeartbeats 8000000
namespace Tp
open PySem L2 Dl
/-! replacing one sign -/
def rep1 (c : Nat) (z : List Nat) (x : Nat) : List Nat := if x = c then z else [x]
theorem replL_one (c : Nat) (z : List Nat) : ∀ l : List Nat, StrLaws.replL [c] z l = l.flatMap (rep1 c z)
  | [] => StrLaws.replL_nil
  | x :: r => by
    rw [List.flatMap_cons]
    unfold rep1
    by_cases h : x = c
    · rw [if_pos h, StrLaws.replL_hit (by simp) (by rw [h]; rfl)]
      have := replL_one c z r
      unfold rep1 at this
      rw [← this]
      rfl
    · rw [if_neg h, StrLaws.replL_miss (by
        intro q
        have q : [x] = [c] := q
        cases q
        exact h rfl)]
      have := replL_one c z r
      unfold rep1 at this
      rw [← this]
      rfl
theorem repl_mk {c : Nat} {y zz : Str} {s zl : List Nat} (hy : y = mkS [c]) (hz : zz = mkS zl) : Txt.replace (mkS s) y zz = mkS (s.flatMap (rep1 c zl)) := by
  subst hy hz
  apply ch_inj
  have h := StrLaws.replace_list (x := mkS s) (y := mkS [c]) (z := mkS zl) (by rw [mkS_len]; simp)
  show (Txt.replace (mkS s) (mkS [c]) (mkS zl)).cps.toList = _
  rw [h, mkS_ch]
  have e1 : (mkS [c]).cps.toList = [c] := mkS_ch [c]
  have e2 : (mkS zl).cps.toList = zl := mkS_ch zl
  have e3 : (mkS s).cps.toList = s := mkS_ch s
  rw [e1, e2, e3, replL_one]
theorem rep1_len (c a b : Nat) (s : List Nat) : (s.flatMap (rep1 c [a, b])).length ≤ 2 * s.length := by
  induction s with
  | nil => simp
  | cons x s ih =>
    rw [List.flatMap_cons, List.length_append, List.length_cons]
    have : (rep1 c [a, b] x).length ≤ 2 := by unfold rep1; split <;> simp
    omega
theorem esc_three (s : List Nat) : ((s.flatMap (rep1 92 [92, 92])).flatMap (rep1 34 [92, 34])).flatMap (rep1 10 [92, 110]) = s.flatMap esc := by
  induction s with
  | nil => rfl
  | cons c s ih =>
    rw [List.flatMap_cons, List.flatMap_append, List.flatMap_append, ih, List.flatMap_cons]
    congr 1
    unfold esc
    by_cases h1 : c = 34
    · subst h1; rfl
    · by_cases h2 : c = 92
      · subst h2; rfl
      · by_cases h3 : c = 10
        · subst h3; rfl
        · rw [if_neg h1, if_neg h2, if_neg h3]
          simp [rep1, h1, h2, h3]
theorem written_string_ok (C : Cs) (s : List Nat) (hl : s.length ≤ 5000) : F_written_string C [.d (.str (mkS s))] [] = .ok (.d (.str (mkS (quo s)))) [] := by
  have r1 := repl_mk (s := s) (show ("\\" : Str) = mkS [92] by decide +kernel) (show ("\\\\" : Str) = mkS [92, 92] by decide +kernel)
  have r2 := repl_mk (s := s.flatMap (rep1 92 [92, 92])) (show ("\"" : Str) = mkS [34] by decide +kernel) (show ("\\\"" : Str) = mkS [92, 34] by decide +kernel)
  have r3 := repl_mk (s := (s.flatMap (rep1 92 [92, 92])).flatMap (rep1 34 [92, 34])) (show ("\n" : Str) = mkS [10] by decide +kernel) (show ("\\n" : Str) = mkS [92, 110] by decide +kernel)
  rw [esc_three] at r3
  have l1 := rep1_len 92 92 92 s
  have l2 := rep1_len 34 92 34 (s.flatMap (rep1 92 [92, 92]))
  have l3 := rep1_len 10 92 110 ((s.flatMap (rep1 92 [92, 92])).flatMap (rep1 34 [92, 34]))
  rw [esc_three] at l3
  generalize s.flatMap (rep1 92 [92, 92]) = t1 at *
  generalize t1.flatMap (rep1 34 [92, 34]) = t2 at *
  have m0 := mkS_len s
  have m1 := mkS_len t1
  have m2 := mkS_len t2
  have m3 := mkS_len (s.flatMap esc)
  have z1 : ("\\\\" : Str).length = 2 := by decide +kernel
  have z2 : ("\\\"" : Str).length = 2 := by decide +kernel
  have z3 : ("\\n" : Str).length = 2 := by decide +kernel
  have a1 : ("\"" : Str) ++ mkS (s.flatMap esc) = mkS (34 :: s.flatMap esc) := by rw [show ("\"" : Str) = mkS [34] by decide +kernel, mkS_app]; rfl
  have a2 : mkS (34 :: s.flatMap esc) ++ ("\"" : Str) = mkS (quo s) := by rw [show ("\"" : Str) = mkS [34] by decide +kernel, mkS_app]; rfl
  have b1 := mkS_len (34 :: s.flatMap esc)
  have b2 := mkS_len (quo s)
  have b3 : (quo s).length = (s.flatMap esc).length + 2 := by unfold quo; rw [List.length_cons, List.length_append, List.length_singleton]
  rw [List.length_cons] at b1
  generalize s.flatMap esc = w at *
  have k1 : s.length + (s.length + 1) * 2 ≤ 16777216 := by omega
  have k2 : t1.length + (t1.length + 1) * 2 ≤ 16777216 := by omega
  have k3 : t2.length + (t2.length + 1) * 2 ≤ 16777216 := by omega
  have k4 : w.length ≤ 16777216 := by omega
  have k5 : w.length + 1 ≤ 16777216 := by omega
  have k6 : (quo s).length ≤ 16777216 := by omega
  simp -implicitDefEqProofs [F_written_string, fb_written_string, env0, sizeL, r1, r2, r3, m0, m1, m2, m3, z1, z2, z3, k1, k2, k3, a1, a2, b1, b2, k4, k5, k6]
/-! quoted by the law -/
def qtab : List (Key × D) := [(Sum.inr "\"", (.str "\\\"" : D)), (Sum.inr "\\", (.str "\\\\" : D)), (Sum.inr "\n", (.str "\\n" : D))]
theorem qtab_get (c : Nat) : get2D qtab (.str ⟨#[c]⟩) (.str ⟨#[c]⟩) = some (.str (mkS (esc c))) := by
  have k1 : ("\"" : Str) = ⟨#[34]⟩ := by decide +kernel
  have k2 : ("\\" : Str) = ⟨#[92]⟩ := by decide +kernel
  have k3 : ("\n" : Str) = ⟨#[10]⟩ := by decide +kernel
  have e1 : ("\\\"" : Str) = mkS [92, 34] := by decide +kernel
  have e2 : ("\\\\" : Str) = mkS [92, 92] := by decide +kernel
  have e3 : ("\\n" : Str) = mkS [92, 110] := by decide +kernel
  have inj : ∀ {a b : Nat}, ((Sum.inr (⟨#[a]⟩ : Str) : Key) = Sum.inr ⟨#[b]⟩) ↔ a = b := fun {a b} => by simp
  have key : lkp qtab (Sum.inr (⟨#[c]⟩ : Str)) = if c = 34 then some (.str (mkS [92, 34])) else if c = 92 then some (.str (mkS [92, 92])) else if c = 10 then some (.str (mkS [92, 110])) else none := by
    unfold qtab
    rw [lkp, lkp, lkp, lkp, k1, k2, k3, e1, e2, e3]
    by_cases h1 : c = 34
    · rw [if_pos (inj.mpr h1.symm), if_pos h1]
    · rw [if_neg (fun z => h1 (inj.mp z).symm), if_neg h1]
      by_cases h2 : c = 92
      · rw [if_pos (inj.mpr h2.symm), if_pos h2]
      · rw [if_neg (fun z => h2 (inj.mp z).symm), if_neg h2]
        by_cases h3 : c = 10
        · rw [if_pos (inj.mpr h3.symm), if_pos h3]
        · rw [if_neg (fun z => h3 (inj.mp z).symm), if_neg h3]
  have hg : getD qtab (.str ⟨#[c]⟩) = some (lkp qtab (Sum.inr (⟨#[c]⟩ : Str))) := rfl
  unfold get2D
  rw [hg, key]
  unfold esc
  by_cases h1 : c = 34
  · rw [if_pos h1, if_pos h1]
  · rw [if_neg h1, if_neg h1]
    by_cases h2 : c = 92
    · rw [if_pos h2, if_pos h2]
    · rw [if_neg h2, if_neg h2]
      by_cases h3 : c = 10
      · rw [if_pos h3, if_pos h3]
      · rw [if_neg h3, if_neg h3]; rfl
@[simp] abbrev Eqt (S : D) (w : List Nat) : Dl.Env := E_law_quoted (x_string_here := some (.d S)) (x_text := some (.d (.str (mkS w))))
theorem esc_len (c : Nat) : 1 ≤ (esc c).length ∧ (esc c).length ≤ 2 := by unfold esc; (repeat' split) <;> simp
theorem quoted_for (C : Cs) (S : D) : ∀ (s w : List Nat), w.length + 2 * s.length ≤ 100000 → forD (tgName 2) (fun _ => True) (fb_law_quoted_l1b C) [2] (s.map fun c => .str ⟨#[c]⟩) (Eqt S w) = .nx (Eqt S (w ++ s.flatMap esc))
  | [], w, h => by
    rw [List.flatMap_nil, List.append_nil]
    exact forD_nil trivial
  | c :: s, w, h => by
    rw [List.length_cons] at h
    have hl := esc_len c
    have ih := quoted_for C S s (w ++ esc c) (by rw [List.length_append]; omega)
    have hg := qtab_get c
    unfold qtab at hg
    have hll : w.length + (esc c).length ≤ 16777216 := by omega
    have m1 := mkS_len w
    have m2 := mkS_len (esc c)
    have ap := mkS_app w (esc c)
    rw [List.map_cons, List.flatMap_cons, ← List.append_assoc, ← ih]
    exact forD_nx trivial (by simp -implicitDefEqProofs [Eqt, E_law_quoted, fb_law_quoted_l1b, hg, sizeL, m1, m2, hll, ap])
theorem quoted_ok (C : Cs) (s : List Nat) (hl : s.length ≤ 5000) : F_law_quoted C [.d (.str (mkS s))] [] = .ok (.d (.str (mkS (quo s)))) [] := by
  have e0 : fb_law_quoted_l1 C (Eqt (.str (mkS s)) []) = .nx (Eqt (.str (mkS s)) (s.flatMap esc)) := by
    unfold fb_law_quoted_l1
    have hit : (iS (eVar 0)) (Eqt (.str (mkS s)) []) = .ok ⟨s.map fun c => .str ⟨#[c]⟩, fun _ => True⟩ (Eqt (.str (mkS s)) []) := by
      have : strL (mkS s) = s.map fun c => (.str ⟨#[c]⟩ : D) := by
        unfold strL
        have : (mkS s).cps.toList = s := mkS_ch s
        rw [this]
      rw [← this]
      simp -implicitDefEqProofs [Eqt, E_law_quoted]
    rw [sFor_eq hit]
    have := quoted_for C (.str (mkS s)) s [] (by simp; omega)
    rw [List.nil_append] at this
    exact this
  have em : mkS [] = ("" : Str) := by decide +kernel
  have hx : (s.flatMap esc).length ≤ 10000 := by
    have : ∀ s : List Nat, (s.flatMap esc).length ≤ 2 * s.length := fun s => by
      induction s with
      | nil => simp
      | cons c s ih => rw [List.flatMap_cons, List.length_append, List.length_cons]; have := esc_len c; omega
    have := this s
    omega
  have m3 := mkS_len (s.flatMap esc)
  have a1 : ("\"" : Str) ++ mkS (s.flatMap esc) = mkS (34 :: s.flatMap esc) := by rw [show ("\"" : Str) = mkS [34] by decide +kernel, mkS_app]; rfl
  have a2 : mkS (34 :: s.flatMap esc) ++ ("\"" : Str) = mkS (quo s) := by rw [show ("\"" : Str) = mkS [34] by decide +kernel, mkS_app]; rfl
  have b1 := mkS_len (34 :: s.flatMap esc)
  rw [List.length_cons] at b1
  have q1 : ("\"" : Str).length = 1 := by decide +kernel
  generalize s.flatMap esc = w at *
  have k4 : 1 + w.length ≤ 16777216 := by omega
  have k5 : w.length + 1 + 1 ≤ 16777216 := by omega
  simp -implicitDefEqProofs [Eqt, E_law_quoted, em] at e0
  simp -implicitDefEqProofs [F_law_quoted, fb_law_quoted, env0, sizeL, e0, m3, a1, a2, b1, q1, k4, k5]
end Tp
end
section
set_option Elab.async false
set_option linter.all false
set_option maxRecDepth 100000
set_option maxHeartbeats 8000000
namespace Tp
open PySem L2 Dl
theorem dec_text {n : Nat} (h : n ≤ 5000) : (toString (n : Int) : Str) = mkS (dec n) := by
  have := List.all_eq_true.mp dec_str n (by simp; omega)
  simpa using this
theorem log_small {n : Nat} (h : n ≤ 5000) : ((n : Nat) : Int).natAbs.log2 < 1920 := by
  rw [Int.natAbs_natCast]
  rcases Nat.eq_zero_or_pos n with rfl | hp
  · decide
  · have := (Nat.log2_lt (by omega : n ≠ 0) (k := 13)).mpr (by omega)
    omega
theorem lit_open : ("[" : Str) = mkS [91] := by decide +kernel
theorem lit_close : ("]" : Str) = mkS [93] := by decide +kernel
theorem lit_one : ("/" : Str) = mkS [47] := by decide +kernel
theorem lit_two : ("//" : Str) = mkS [47, 47] := by decide +kernel
theorem mkS_len1 (c : Nat) : (mkS [c]).length = 1 := rfl
theorem mkS_len2 (c d : Nat) : (mkS [c, d]).length = 2 := rfl
theorem dp_pos (q : Qn) : 1 ≤ q.dp := Qn.rec (motive_1 := fun x => 1 ≤ x.dp) (motive_2 := fun x => 1 ≤ x.dp) (by rw [Qn.dp]; omega) (fun _ _ _ _ h1 h2 => by rw [Qn.dp]; omega) (by rw [Fs.dp]; omega) (fun _ _ h => by rw [Fs.dp]; omega) (fun _ _ h => by rw [Fs.dp]; omega) (fun _ _ h1 h2 => by rw [Fs.dp]; omega) q
@[simp] abbrev Ewq (Q : D) (w : List Nat) (x2 x3 x4 x5 x6 : Option W := none) : Dl.Env := E_write_question (x_question := some (.d Q)) (x_text := some (.d (.str (mkS w)))) (x_axis := x2) (x_test := x3) (x_filters := x4) (x_kind := x5) (x_part := x6)
noncomputable abbrev wqD (C : Cs) (F : Fd) (xs : List D) (e : Dl.Env) : SR := forD (tgTup [(tgName 2), (tgName 3), (tgName 4)]) (fun _ => True) (fb_write_question_l1b C F) [2, 3, 4, 5, 6] xs e
noncomputable abbrev wqF (C : Cs) (F : Fd) (xs : List D) (e : Dl.Env) : SR := forD (tgTup [(tgName 5), (tgName 6)]) (fun _ => True) (fb_write_question_l2b C F) [5, 6] xs e
theorem wr_of (C : Cs) (q : Qn) (n : Nat) (h : wqD C (F_write_question C n) q.ds (Ewq (.lst q.ds) []) = .nx (Ewq (.lst q.ds) (wq q))) : F_write_question C (n + 1) [.d (.lst q.ds)] [] = .ok (.d (.str (mkS (wq q)))) [] := by
  have em : mkS [] = ("" : Str) := by decide +kernel
  have e0 : fb_write_question_l1 C (F_write_question C n) (Ewq (.lst q.ds) []) = .nx (Ewq (.lst q.ds) (wq q)) := by
    unfold fb_write_question_l1
    rw [sFor_eq (items := q.ds) (chk := fun _ => True) (e1 := Ewq (.lst q.ds) []) (by simp -implicitDefEqProofs [Ewq, E_write_question])]
    exact h
  unfold F_write_question
  simp -implicitDefEqProofs [Ewq, E_write_question, em] at e0
  simp -implicitDefEqProofs [fb_write_question, env0, e0]
mutual
theorem wr_q (C : Cs) : ∀ (q : Qn) (n d : Nat) (Q : D) (w : List Nat), q.ok d = true → q.dp ≤ n + 1 → w.length + (wq q).length ≤ 100000 → wqD C (F_write_question C n) q.ds (Ewq Q w) = .nx (Ewq Q (w ++ wq q))
  | .nil, n, d, Q, w, hok, hn, hl => by
    rw [Qn.ds, wq, List.append_nil]
    exact forD_nil trivial
  | .cons b t fs r, n, d, Q, w, hok, hn, hl => by
    rw [Qn.ok, Bool.and_eq_true, Bool.and_eq_true] at hok
    obtain ⟨⟨o1, o2⟩, o3⟩ := hok
    rw [Qn.dp] at hn
    have hlen : w.length + (if b = true then 2 else 1) + t.length + (wf fs).length + (wq r).length ≤ 100000 := by
      rw [wq] at hl
      cases b <;> simp at hl ⊢ <;> omega
    have hx : (if b = true then [47, 47] else [47]).length = (if b = true then 2 else 1) := by cases b <;> rfl
    have hf := wr_f C fs b n d Q (w ++ ((if b = true then [47, 47] else [47]) ++ t)) (.str (axisS b)) (.str (mkS t)) fs.ds o2 (by omega) (by rw [List.length_append, List.length_append, hx]; omega)
    have hr := wr_q C r n d Q (w ++ ((if b = true then [47, 47] else [47]) ++ t) ++ wf fs) o3 (by omega) (by rw [List.length_append, List.length_append, List.length_append, hx]; omega)
    have ht : turn (tgTup [(tgName 2), (tgName 3), (tgName 4)]) (fb_write_question_l1b C (F_write_question C n)) [2, 3, 4, 5, 6] (.tup [.str (axisS b), .str (mkS t), .lst fs.ds]) (Ewq Q w) = .nx (Ewq Q (w ++ ((if b = true then [47, 47] else [47]) ++ t) ++ wf fs)) := by
      have e0 : fb_write_question_l2 C (F_write_question C n) (Ewq Q (w ++ ((if b = true then [47, 47] else [47]) ++ t)) (some (.d (.str (axisS b)))) (some (.d (.str (mkS t)))) (some (.d (.lst fs.ds)))) = .nx (Ewq Q (w ++ ((if b = true then [47, 47] else [47]) ++ t) ++ wf fs) (some (.d (.str (axisS b)))) (some (.d (.str (mkS t)))) (some (.d (.lst fs.ds)))) := by
        unfold fb_write_question_l2
        rw [sFor_eq (items := fs.ds) (chk := fun _ => True) (e1 := Ewq Q (w ++ ((if b = true then [47, 47] else [47]) ++ t)) (some (.d (.str (axisS b)))) (some (.d (.str (mkS t)))) (some (.d (.lst fs.ds)))) (by simp -implicitDefEqProofs [Ewq, E_write_question])]
        exact hf
      have hc := axis_c b
      have a1 := mkS_app (if b = true then [47, 47] else [47]) t
      have a2 := mkS_app w ((if b = true then [47, 47] else [47]) ++ t)
      have m0 := mkS_len t
      have m1 := mkS_len w
      have m2 := mkS_len ((if b = true then [47, 47] else [47]) ++ t)
      rw [List.length_append, hx] at m2
      cases b with
      | true =>
        simp -implicitDefEqProofs only [Bool.not_true] at hc
        have k1 : 2 + t.length ≤ 16777216 := by simp at hlen; omega
        have k2 : w.length + (2 + t.length) ≤ 16777216 := by simp at hlen; omega
        simp -implicitDefEqProofs only [if_pos] at a1 a2 m2 e0
        simp -implicitDefEqProofs [Ewq, E_write_question] at e0
        simp -implicitDefEqProofs at a1 a2 m2
        simp -implicitDefEqProofs [Ewq, E_write_question, fb_write_question_l1b, hc, lit_two, mkS_len2, sizeL, m0, m1, m2, a1, a2, k1, k2, e0]
      | false =>
        simp -implicitDefEqProofs only [Bool.not_false] at hc
        have k1 : 1 + t.length ≤ 16777216 := by simp at hlen; omega
        have k2 : w.length + (1 + t.length) ≤ 16777216 := by simp at hlen; omega
        simp -implicitDefEqProofs [Ewq, E_write_question] at e0
        simp -implicitDefEqProofs at a1 a2 m2
        simp -implicitDefEqProofs [Ewq, E_write_question, fb_write_question_l1b, hc, lit_one, mkS_len1, sizeL, m0, m1, m2, a1, a2, k1, k2, e0]
    have e : wqD C (F_write_question C n) (.tup [.str (axisS b), .str (mkS t), .lst fs.ds] :: r.ds) (Ewq Q w) = wqD C (F_write_question C n) r.ds (Ewq Q (w ++ ((if b = true then [47, 47] else [47]) ++ t) ++ wf fs)) := forD_nx trivial ht
    rw [Qn.ds, wq, e, hr]
    simp
theorem wr_f (C : Cs) : ∀ (fs : Fs) (b : Bool) (n d : Nat) (Q : D) (w : List Nat) (d2 d3 : D) (xs : List D), fs.ok b d = true → fs.dp ≤ n + 1 → w.length + (wf fs).length ≤ 100000 → wqF C (F_write_question C n) fs.ds (Ewq Q w (some (.d d2)) (some (.d d3)) (some (.d (.lst xs)))) = .nx (Ewq Q (w ++ wf fs) (some (.d d2)) (some (.d d3)) (some (.d (.lst xs))))
  | .nil, b, n, d, Q, w, d2, d3, xs, hok, hn, hl => by
    rw [Fs.ds, wf, List.append_nil]
    exact forD_nil trivial
  | .place m r, b, n, d, Q, w, d2, d3, xs, hok, hn, hl => by
    rw [Fs.dp] at hn
    rw [Fs.ok, Bool.and_eq_true, Bool.and_eq_true, Bool.and_eq_true, decide_eq_true_iff, decide_eq_true_iff] at hok
    have hm := hok.1.2
    have hdl := dec_len m
    have hl2 : w.length + (dec m).length + 2 + (wf r).length ≤ 100000 := by rw [wf] at hl; simp at hl; omega
    have hr := wr_f C r b n d Q (w ++ (91 :: (dec m ++ [93]))) d2 d3 xs hok.2 hn (by simp; omega)
    have a0 := mkS_app [91] (dec m)
    have a1 := mkS_app ([91] ++ dec m) [93]
    have a2 := mkS_app w ([91] ++ dec m ++ [93])
    have m1 := mkS_len w
    have m2 := mkS_len ([91] ++ dec m)
    have m3 := mkS_len ([91] ++ dec m ++ [93])
    have hlog := log_small hm
    have hdt : Str.ofString ((m : Int).repr) = mkS (dec m) := dec_text hm
    have k1 : (dec m).length + 1 ≤ 16777216 := by omega
    have k2 : (dec m).length + 1 + 1 ≤ 16777216 := by omega
    have k3 : w.length + ((dec m).length + 1 + 1) ≤ 16777216 := by omega
    simp -implicitDefEqProofs at a0 a1 a2 m2 m3 hlog
    rw [Fs.ds, wf, show w ++ (91 :: (dec m ++ 93 :: wf r)) = w ++ (91 :: (dec m ++ [93])) ++ wf r by simp, ← hr]
    exact forD_nx trivial (by simp -implicitDefEqProofs [Ewq, E_write_question, fb_write_question_l2b, hlog, hdt, lit_open, lit_close, a0, a1, a2, m1, m2, m3, sizeL, k1, k2, k3])
  | .holds s r, b, n, d, Q, w, d2, d3, xs, hok, hn, hl => by
    rw [Fs.dp] at hn
    rw [Fs.ok, Bool.and_eq_true] at hok
    have hs : s.length ≤ 40 := by
      have := hok.1
      unfold strgOk at this
      simp at this
      omega
    have hw := written_string_ok C s (by omega)
    have hl2 : w.length + (quo s).length + 2 + (wf r).length ≤ 100000 := by rw [wf] at hl; simp at hl; omega
    have hr := wr_f C r b n d Q (w ++ (91 :: (quo s ++ [93]))) d2 d3 xs hok.2 hn (by simp; omega)
    generalize hy : quo s = y at *
    have a0 := mkS_app [91] y
    have a1 := mkS_app ([91] ++ y) [93]
    have a2 := mkS_app w ([91] ++ y ++ [93])
    have m0 := mkS_len y
    have m1 := mkS_len w
    have m2 := mkS_len ([91] ++ y)
    have m3 := mkS_len ([91] ++ y ++ [93])
    have k0 : y.length ≤ 16777216 := by omega
    have k1 : y.length + 1 ≤ 16777216 := by omega
    have k2 : y.length + 1 + 1 ≤ 16777216 := by omega
    have k3 : w.length + (y.length + 1 + 1) ≤ 16777216 := by omega
    simp -implicitDefEqProofs at a0 a1 a2 m2 m3
    rw [Fs.ds, wf, hy, show w ++ (91 :: (y ++ 93 :: wf r)) = w ++ (91 :: (y ++ [93])) ++ wf r by simp, ← hr]
    exact forD_nx trivial (by simp -implicitDefEqProofs [Ewq, E_write_question, fb_write_question_l2b, hw, lit_open, lit_close, a0, a1, a2, m0, m1, m2, m3, sizeL, k0, k1, k2, k3])
  | .has q r, b, n, d, Q, w, d2, d3, xs, hok, hn, hl => by
    rw [Fs.dp] at hn
    rw [Fs.ok, Bool.and_eq_true, Bool.and_eq_true, Bool.and_eq_true] at hok
    have hdp := dp_pos q
    obtain ⟨n, rfl⟩ : ∃ g, n = g + 1 := ⟨n - 1, by omega⟩
    have hl2 : w.length + (wq q).length + 2 + (wf r).length ≤ 100000 := by rw [wf] at hl; simp at hl; omega
    have hw := wr_of C q n (by
      have := wr_q C q n (d + 1) (.lst q.ds) [] hok.1.2 (by omega) (by simp; omega)
      rwa [List.nil_append] at this)
    have hr := wr_f C r b (n + 1) d Q (w ++ (91 :: (wq q ++ [93]))) d2 d3 xs hok.2 (by omega) (by simp; omega)
    generalize hy : wq q = y at *
    have a0 := mkS_app [91] y
    have a1 := mkS_app ([91] ++ y) [93]
    have a2 := mkS_app w ([91] ++ y ++ [93])
    have m0 := mkS_len y
    have m1 := mkS_len w
    have m2 := mkS_len ([91] ++ y)
    have m3 := mkS_len ([91] ++ y ++ [93])
    have k0 : y.length ≤ 16777216 := by omega
    have k1 : y.length + 1 ≤ 16777216 := by omega
    have k2 : y.length + 1 + 1 ≤ 16777216 := by omega
    have k3 : w.length + (y.length + 1 + 1) ≤ 16777216 := by omega
    simp -implicitDefEqProofs at a0 a1 a2 m2 m3
    rw [Fs.ds, wf, hy, show w ++ (91 :: (y ++ 93 :: wf r)) = w ++ (91 :: (y ++ [93])) ++ wf r by simp, ← hr]
    exact forD_nx trivial (by simp -implicitDefEqProofs [Ewq, E_write_question, fb_write_question_l2b, hw, lit_open, lit_close, a0, a1, a2, m0, m1, m2, m3, sizeL, k0, k1, k2, k3])
end
theorem write_question_ok (C : Cs) (q : Qn) (n d : Nat) (hok : q.ok d = true) (hn : q.dp ≤ n + 1) (hl : (wq q).length ≤ 100000) : F_write_question C (n + 1) [.d (.lst q.ds)] [] = .ok (.d (.str (mkS (wq q)))) [] := wr_of C q n (by
  have := wr_q C q n d (.lst q.ds) [] hok hn (by simp; omega)
  rwa [List.nil_append] at this)
end Tp
end
section
set_option Elab.async false
set_option linter.all false
set_option maxRecDepth 100000
set_option maxHeartbeats 8000000
namespace Tp
open PySem L2 Dl
@[simp] abbrev Elc (Q : D) (c : Int) (x2 x3 x4 x5 : Option W := none) : Dl.Env := E_law_count (x_question_here := some (.d Q)) (x_count_here := some (.d (.int c))) (x_axis := x2) (x_test := x3) (x_filters := x4) (x_one := x5)
noncomputable abbrev lcDD (C : Cs) (F : Fd) (xs : List D) (e : Dl.Env) : SR := forD (tgTup [(tgName 2), (tgName 3), (tgName 4)]) (fun _ => True) (fb_law_count_l1b C F) [2, 3, 4, 5] xs e
noncomputable abbrev lcFF (C : Cs) (F : Fd) (xs : List D) (e : Dl.Env) : SR := forD (tgName 5) (fun _ => True) (fb_law_count_l2b C F) [5] xs e
theorem lcount_of (C : Cs) (q : Qn) (n : Nat) (hl : (wq q).length ≤ 5000) (h : ∀ (c : Int), lcDD C (F_law_count C n) q.ds (Elc (.lst q.ds) c) = .nx (Elc (.lst q.ds) (c + q.ins))) : F_law_count C (n + 1) [.d (.lst q.ds)] [] = .ok (.d (.int (q.cnt : Nat))) [] := by
  have h1 := Qn.ds_len q
  have hs : q.ds.length ≤ 16777216 := by omega
  have e0 : fb_law_count_l1 C (F_law_count C n) (Elc (.lst q.ds) q.ds.length) = .nx (Elc (.lst q.ds) (q.ds.length + q.ins)) := by
    unfold fb_law_count_l1
    rw [sFor_eq (items := q.ds) (chk := fun _ => True) (e1 := Elc (.lst q.ds) q.ds.length) (by simp -implicitDefEqProofs [Elc, E_law_count])]
    exact h _
  have e1 : (q.ds.length : Int) + q.ins = (q.cnt : Nat) := by rw [Qn.top_len, Qn.cnt_top]; omega
  rw [e1] at e0
  unfold F_law_count
  simp -implicitDefEqProofs [Elc, E_law_count] at e0
  simp -implicitDefEqProofs [fb_law_count, env0, sizeL, hs, e0]
mutual
theorem lcount_q (C : Cs) : ∀ (q : Qn) (n : Nat) (Q : D) (c : Int), q.dp ≤ n + 1 → (wq q).length ≤ 5000 → lcDD C (F_law_count C n) q.ds (Elc Q c) = .nx (Elc Q (c + q.ins))
  | .nil, n, Q, c, hn, hl => by
    rw [Qn.ds, Qn.ins]
    have : lcDD C (F_law_count C n) [] (Elc Q c) = .nx (Elc Q c) := forD_nil trivial
    rw [this]
    simp
  | .cons b t fs r, n, Q, c, hn, hl => by
    have hlen : t.length + (wf fs).length + (wq r).length ≤ 5000 := by
      rw [wq] at hl
      simp at hl
      omega
    rw [Qn.dp] at hn
    have hf := lcount_f C fs n Q c (.str (axisS b)) (.str (mkS t)) fs.ds (by omega) (by omega)
    have hr := lcount_q C r n Q (c + fs.cnt) (by omega) (by omega)
    have ht : turn (tgTup [(tgName 2), (tgName 3), (tgName 4)]) (fb_law_count_l1b C (F_law_count C n)) [2, 3, 4, 5] (.tup [.str (axisS b), .str (mkS t), .lst fs.ds]) (Elc Q c) = .nx (Elc Q (c + fs.cnt)) := by
      have e0 : fb_law_count_l2 C (F_law_count C n) (Elc Q c (some (.d (.str (axisS b)))) (some (.d (.str (mkS t)))) (some (.d (.lst fs.ds)))) = .nx (Elc Q (c + fs.cnt) (some (.d (.str (axisS b)))) (some (.d (.str (mkS t)))) (some (.d (.lst fs.ds)))) := by
        unfold fb_law_count_l2
        rw [sFor_eq (items := fs.ds) (chk := fun _ => True) (e1 := Elc Q c (some (.d (.str (axisS b)))) (some (.d (.str (mkS t)))) (some (.d (.lst fs.ds)))) (by simp -implicitDefEqProofs [Elc, E_law_count])]
        exact hf
      simp -implicitDefEqProofs [Elc, E_law_count] at e0
      simp -implicitDefEqProofs [Elc, E_law_count, fb_law_count_l1b, e0]
    rw [Qn.ds, Qn.ins]
    have e := forD_nx (ds := r.ds) (chk := fun _ => True) trivial ht
    have e : lcDD C (F_law_count C n) (.tup [.str (axisS b), .str (mkS t), .lst fs.ds] :: r.ds) (Elc Q c) = lcDD C (F_law_count C n) r.ds (Elc Q (c + fs.cnt)) := e
    rw [e, hr]
    rw [show c + fs.cnt + r.ins = c + ((fs.cnt + r.ins : Nat) : Int) by omega]
theorem lcount_f (C : Cs) : ∀ (fs : Fs) (n : Nat) (Q : D) (c : Int) (d2 d3 : D) (xs : List D), fs.dp ≤ n + 1 → (wf fs).length ≤ 5000 → lcFF C (F_law_count C n) fs.ds (Elc Q c (some (.d d2)) (some (.d d3)) (some (.d (.lst xs)))) = .nx (Elc Q (c + fs.cnt) (some (.d d2)) (some (.d d3)) (some (.d (.lst xs))))
  | .nil, n, Q, c, d2, d3, xs, hn, hl => by
    rw [Fs.ds, Fs.cnt]
    have : lcFF C (F_law_count C n) [] (Elc Q c (some (.d d2)) (some (.d d3)) (some (.d (.lst xs)))) = .nx (Elc Q c (some (.d d2)) (some (.d d3)) (some (.d (.lst xs)))) := forD_nil trivial
    rw [this]
    simp
  | .place m r, n, Q, c, d2, d3, xs, hn, hl => by
    rw [Fs.dp] at hn
    have hr := lcount_f C r n Q c d2 d3 xs hn (by rw [wf] at hl; simp at hl; omega)
    rw [Fs.ds, Fs.cnt, ← hr]
    exact forD_nx trivial (by simp -implicitDefEqProofs [Elc, E_law_count, fb_law_count_l2b, ixDD])
  | .holds m r, n, Q, c, d2, d3, xs, hn, hl => by
    rw [Fs.dp] at hn
    have hr := lcount_f C r n Q c d2 d3 xs hn (by rw [wf] at hl; simp at hl; omega)
    rw [Fs.ds, Fs.cnt, ← hr]
    exact forD_nx trivial (by simp -implicitDefEqProofs [Elc, E_law_count, fb_law_count_l2b, ixDD])
  | .has q r, n, Q, c, d2, d3, xs, hn, hl => by
    rw [Fs.dp] at hn
    have hl' : (wq q).length ≤ 5000 ∧ (wf r).length ≤ 5000 := by rw [wf] at hl; simp at hl; omega
    have hr := lcount_f C r n Q (c + q.cnt) d2 d3 xs (by omega) hl'.2
    have hdp : 1 ≤ q.dp := by
      have : ∀ x : Qn, 1 ≤ x.dp := fun x => Qn.rec (motive_1 := fun x => 1 ≤ x.dp) (motive_2 := fun x => 1 ≤ x.dp) (by rw [Qn.dp]; omega) (fun _ _ _ _ h1 h2 => by rw [Qn.dp]; omega) (by rw [Fs.dp]; omega) (fun _ _ h => by rw [Fs.dp]; omega) (fun _ _ h => by rw [Fs.dp]; omega) (fun _ _ h1 h2 => by rw [Fs.dp]; omega) x
      exact this q
    obtain ⟨n, rfl⟩ : ∃ g, n = g + 1 := ⟨n - 1, by omega⟩
    have hq := lcount_of C q n hl'.1 (fun c => lcount_q C q n (.lst q.ds) c (by omega) hl'.1)
    rw [Fs.ds, Fs.cnt]
    have e : lcFF C (F_law_count C (n + 1)) (.tup [.str "has", .lst q.ds] :: r.ds) (Elc Q c (some (.d d2)) (some (.d d3)) (some (.d (.lst xs)))) = lcFF C (F_law_count C (n + 1)) r.ds (Elc Q (c + q.cnt) (some (.d d2)) (some (.d d3)) (some (.d (.lst xs)))) := forD_nx trivial (by simp -implicitDefEqProofs [Elc, E_law_count, fb_law_count_l2b, ixDD, hq])
    rw [e, hr, show c + q.cnt + r.cnt = c + ((q.cnt + r.cnt : Nat) : Int) by omega]
end
theorem law_count_ok (C : Cs) (q : Qn) (n : Nat) (hn : q.dp ≤ n + 1) (hl : (wq q).length ≤ 5000) : F_law_count C (n + 1) [.d (.lst q.ds)] [] = .ok (.d (.int (q.cnt : Nat))) [] := lcount_of C q n hl fun c => lcount_q C q n (.lst q.ds) c hn hl
theorem ax_t : (axisS true = "below") = True := eq_true rfl
theorem ax_f : (axisS false = "below") = False := eq_false (by decide +kernel)
@[simp] abbrev Elw (Q : D) (w : List Nat) (x2 x3 x4 x5 x6 : Option W := none) : Dl.Env := E_law_written_k35 (x_question_here := some (.d Q)) (x_text := some (.d (.str (mkS w)))) (x_axis := x2) (x_test := x3) (x_filters := x4) (x_kind := x5) (x_part := x6)
noncomputable abbrev lwD (C : Cs) (F : Fd) (xs : List D) (e : Dl.Env) : SR := forD (tgTup [(tgName 2), (tgName 3), (tgName 4)]) (fun _ => True) (fb_law_written_k35_l1b C F) [2, 3, 4, 5, 6] xs e
noncomputable abbrev lwF (C : Cs) (F : Fd) (xs : List D) (e : Dl.Env) : SR := forD (tgTup [(tgName 5), (tgName 6)]) (fun _ => True) (fb_law_written_k35_l2b C F) [5, 6] xs e
theorem lw_of (C : Cs) (q : Qn) (n : Nat) (h : lwD C (F_law_written_k35 C n) q.ds (Elw (.lst q.ds) []) = .nx (Elw (.lst q.ds) (wq q))) : F_law_written_k35 C (n + 1) [.d (.lst q.ds)] [] = .ok (.d (.str (mkS (wq q)))) [] := by
  have em : mkS [] = ("" : Str) := by decide +kernel
  have e0 : fb_law_written_k35_l1 C (F_law_written_k35 C n) (Elw (.lst q.ds) []) = .nx (Elw (.lst q.ds) (wq q)) := by
    unfold fb_law_written_k35_l1
    rw [sFor_eq (items := q.ds) (chk := fun _ => True) (e1 := Elw (.lst q.ds) []) (by simp -implicitDefEqProofs [Elw, E_law_written_k35])]
    exact h
  unfold F_law_written_k35
  simp -implicitDefEqProofs [Elw, E_law_written_k35, em] at e0
  simp -implicitDefEqProofs [fb_law_written_k35, env0, e0]
mutual
theorem lw_q (C : Cs) : ∀ (q : Qn) (n d : Nat) (Q : D) (w : List Nat), q.ok d = true → q.dp ≤ n + 1 → w.length + (wq q).length ≤ 100000 → lwD C (F_law_written_k35 C n) q.ds (Elw Q w) = .nx (Elw Q (w ++ wq q))
  | .nil, n, d, Q, w, hok, hn, hl => by
    rw [Qn.ds, wq, List.append_nil]
    exact forD_nil trivial
  | .cons b t fs r, n, d, Q, w, hok, hn, hl => by
    rw [Qn.ok, Bool.and_eq_true, Bool.and_eq_true] at hok
    obtain ⟨⟨o1, o2⟩, o3⟩ := hok
    rw [Qn.dp] at hn
    have hlen : w.length + (if b = true then 2 else 1) + t.length + (wf fs).length + (wq r).length ≤ 100000 := by
      rw [wq] at hl
      cases b <;> simp at hl ⊢ <;> omega
    have hx : (if b = true then [47, 47] else [47]).length = (if b = true then 2 else 1) := by cases b <;> rfl
    have hf := lw_f C fs b n d Q (w ++ ((if b = true then [47, 47] else [47]) ++ t)) (.str (axisS b)) (.str (mkS t)) fs.ds o2 (by omega) (by rw [List.length_append, List.length_append, hx]; omega)
    have hr := lw_q C r n d Q (w ++ ((if b = true then [47, 47] else [47]) ++ t) ++ wf fs) o3 (by omega) (by rw [List.length_append, List.length_append, List.length_append, hx]; omega)
    have ht : turn (tgTup [(tgName 2), (tgName 3), (tgName 4)]) (fb_law_written_k35_l1b C (F_law_written_k35 C n)) [2, 3, 4, 5, 6] (.tup [.str (axisS b), .str (mkS t), .lst fs.ds]) (Elw Q w) = .nx (Elw Q (w ++ ((if b = true then [47, 47] else [47]) ++ t) ++ wf fs)) := by
      have e0 : fb_law_written_k35_l2 C (F_law_written_k35 C n) (Elw Q (w ++ ((if b = true then [47, 47] else [47]) ++ t)) (some (.d (.str (axisS b)))) (some (.d (.str (mkS t)))) (some (.d (.lst fs.ds)))) = .nx (Elw Q (w ++ ((if b = true then [47, 47] else [47]) ++ t) ++ wf fs) (some (.d (.str (axisS b)))) (some (.d (.str (mkS t)))) (some (.d (.lst fs.ds)))) := by
        unfold fb_law_written_k35_l2
        rw [sFor_eq (items := fs.ds) (chk := fun _ => True) (e1 := Elw Q (w ++ ((if b = true then [47, 47] else [47]) ++ t)) (some (.d (.str (axisS b)))) (some (.d (.str (mkS t)))) (some (.d (.lst fs.ds)))) (by simp -implicitDefEqProofs [Elw, E_law_written_k35])]
        exact hf
      have hc := axis_c b
      have a1 := mkS_app (if b = true then [47, 47] else [47]) t
      have a2 := mkS_app w ((if b = true then [47, 47] else [47]) ++ t)
      have m0 := mkS_len t
      have m1 := mkS_len w
      have m2 := mkS_len ((if b = true then [47, 47] else [47]) ++ t)
      rw [List.length_append, hx] at m2
      cases b with
      | true =>
        have k1 : w.length + 2 ≤ 16777216 := by simp at hlen; omega
        have k2 : w.length + 2 + t.length ≤ 16777216 := by simp at hlen; omega
        simp -implicitDefEqProofs [Elw, E_law_written_k35] at e0
        simp -implicitDefEqProofs [Elw, E_law_written_k35, fb_law_written_k35_l1b, ax_t, lit_two, mkS_app, mkS_len, sizeL, ixDD, k1, k2, e0]
      | false =>
        have k1 : w.length + 1 ≤ 16777216 := by simp at hlen; omega
        have k2 : w.length + 1 + t.length ≤ 16777216 := by simp at hlen; omega
        simp -implicitDefEqProofs [Elw, E_law_written_k35] at e0
        simp -implicitDefEqProofs [Elw, E_law_written_k35, fb_law_written_k35_l1b, ax_f, lit_one, mkS_app, mkS_len, sizeL, ixDD, k1, k2, e0]
    have e : lwD C (F_law_written_k35 C n) (.tup [.str (axisS b), .str (mkS t), .lst fs.ds] :: r.ds) (Elw Q w) = lwD C (F_law_written_k35 C n) r.ds (Elw Q (w ++ ((if b = true then [47, 47] else [47]) ++ t) ++ wf fs)) := forD_nx trivial ht
    rw [Qn.ds, wq, e, hr]
    simp
theorem lw_f (C : Cs) : ∀ (fs : Fs) (b : Bool) (n d : Nat) (Q : D) (w : List Nat) (d2 d3 : D) (xs : List D), fs.ok b d = true → fs.dp ≤ n + 1 → w.length + (wf fs).length ≤ 100000 → lwF C (F_law_written_k35 C n) fs.ds (Elw Q w (some (.d d2)) (some (.d d3)) (some (.d (.lst xs)))) = .nx (Elw Q (w ++ wf fs) (some (.d d2)) (some (.d d3)) (some (.d (.lst xs))))
  | .nil, b, n, d, Q, w, d2, d3, xs, hok, hn, hl => by
    rw [Fs.ds, wf, List.append_nil]
    exact forD_nil trivial
  | .place m r, b, n, d, Q, w, d2, d3, xs, hok, hn, hl => by
    rw [Fs.dp] at hn
    rw [Fs.ok, Bool.and_eq_true, Bool.and_eq_true, Bool.and_eq_true, decide_eq_true_iff, decide_eq_true_iff] at hok
    have hm := hok.1.2
    have hdl := dec_len m
    have hl2 : w.length + (dec m).length + 2 + (wf r).length ≤ 100000 := by rw [wf] at hl; simp at hl; omega
    have hr := lw_f C r b n d Q (w ++ (91 :: (dec m ++ [93]))) d2 d3 xs hok.2 hn (by simp; omega)
    have a0 := mkS_app [91] (dec m)
    have a1 := mkS_app ([91] ++ dec m) [93]
    have a2 := mkS_app w ([91] ++ dec m ++ [93])
    have m1 := mkS_len w
    have m2 := mkS_len ([91] ++ dec m)
    have m3 := mkS_len ([91] ++ dec m ++ [93])
    have hlog := log_small hm
    have hdt : Str.ofString ((m : Int).repr) = mkS (dec m) := dec_text hm
    have k1 : (dec m).length + 1 ≤ 16777216 := by omega
    have k2 : (dec m).length + 1 + 1 ≤ 16777216 := by omega
    have k3 : w.length + 1 ≤ 16777216 := by omega
    have k4 : w.length + 1 + (dec m).length ≤ 16777216 := by omega
    have k5 : w.length + ((dec m).length + 1) + 1 ≤ 16777216 := by omega
    simp -implicitDefEqProofs at hlog
    rw [Fs.ds, wf, show w ++ (91 :: (dec m ++ 93 :: wf r)) = w ++ (91 :: (dec m ++ [93])) ++ wf r by simp, ← hr]
    exact forD_nx trivial (by simp -implicitDefEqProofs [Elw, E_law_written_k35, fb_law_written_k35_l2b, hlog, hdt, lit_open, lit_close, mkS_app, mkS_len, sizeL, k3, k4, k5])
  | .holds s r, b, n, d, Q, w, d2, d3, xs, hok, hn, hl => by
    rw [Fs.dp] at hn
    rw [Fs.ok, Bool.and_eq_true] at hok
    have hs : s.length ≤ 40 := by
      have := hok.1
      unfold strgOk at this
      simp at this
      omega
    have hw := quoted_ok C s (by omega)
    have hl2 : w.length + (quo s).length + 2 + (wf r).length ≤ 100000 := by rw [wf] at hl; simp at hl; omega
    have hr := lw_f C r b n d Q (w ++ (91 :: (quo s ++ [93]))) d2 d3 xs hok.2 hn (by simp; omega)
    generalize hy : quo s = y at *
    have a0 := mkS_app [91] y
    have a1 := mkS_app ([91] ++ y) [93]
    have a2 := mkS_app w ([91] ++ y ++ [93])
    have m0 := mkS_len y
    have m1 := mkS_len w
    have m2 := mkS_len ([91] ++ y)
    have m3 := mkS_len ([91] ++ y ++ [93])
    have k0 : y.length ≤ 16777216 := by omega
    have k1 : y.length + 1 ≤ 16777216 := by omega
    have k2 : y.length + 1 + 1 ≤ 16777216 := by omega
    have k3 : w.length + 1 ≤ 16777216 := by omega
    have k4 : w.length + 1 + y.length ≤ 16777216 := by omega
    have k5 : w.length + (y.length + 1) + 1 ≤ 16777216 := by omega
    rw [Fs.ds, wf, hy, show w ++ (91 :: (y ++ 93 :: wf r)) = w ++ (91 :: (y ++ [93])) ++ wf r by simp, ← hr]
    exact forD_nx trivial (by simp -implicitDefEqProofs [Elw, E_law_written_k35, fb_law_written_k35_l2b, hw, lit_open, lit_close, mkS_app, mkS_len, sizeL, k3, k4, k5])
  | .has q r, b, n, d, Q, w, d2, d3, xs, hok, hn, hl => by
    rw [Fs.dp] at hn
    rw [Fs.ok, Bool.and_eq_true, Bool.and_eq_true, Bool.and_eq_true] at hok
    have hdp := dp_pos q
    obtain ⟨n, rfl⟩ : ∃ g, n = g + 1 := ⟨n - 1, by omega⟩
    have hl2 : w.length + (wq q).length + 2 + (wf r).length ≤ 100000 := by rw [wf] at hl; simp at hl; omega
    have hw := lw_of C q n (by
      have := lw_q C q n (d + 1) (.lst q.ds) [] hok.1.2 (by omega) (by simp; omega)
      rwa [List.nil_append] at this)
    have hr := lw_f C r b (n + 1) d Q (w ++ (91 :: (wq q ++ [93]))) d2 d3 xs hok.2 (by omega) (by simp; omega)
    generalize hy : wq q = y at *
    have a0 := mkS_app [91] y
    have a1 := mkS_app ([91] ++ y) [93]
    have a2 := mkS_app w ([91] ++ y ++ [93])
    have m0 := mkS_len y
    have m1 := mkS_len w
    have m2 := mkS_len ([91] ++ y)
    have m3 := mkS_len ([91] ++ y ++ [93])
    have k0 : y.length ≤ 16777216 := by omega
    have k1 : y.length + 1 ≤ 16777216 := by omega
    have k2 : y.length + 1 + 1 ≤ 16777216 := by omega
    have k3 : w.length + 1 ≤ 16777216 := by omega
    have k4 : w.length + 1 + y.length ≤ 16777216 := by omega
    have k5 : w.length + (y.length + 1) + 1 ≤ 16777216 := by omega
    rw [Fs.ds, wf, hy, show w ++ (91 :: (y ++ 93 :: wf r)) = w ++ (91 :: (y ++ [93])) ++ wf r by simp, ← hr]
    exact forD_nx trivial (by simp -implicitDefEqProofs [Elw, E_law_written_k35, fb_law_written_k35_l2b, hw, lit_open, lit_close, mkS_app, mkS_len, sizeL, k3, k4, k5])
end
theorem law_written_ok (C : Cs) (q : Qn) (n d : Nat) (hok : q.ok d = true) (hn : q.dp ≤ n + 1) (hl : (wq q).length ≤ 100000) : F_law_written_k35 C (n + 1) [.d (.lst q.ds)] [] = .ok (.d (.str (mkS (wq q)))) [] := lw_of C q n (by
  have := lw_q C q n d (.lst q.ds) [] hok hn (by simp; omega)
  rwa [List.nil_append] at this)
end Tp
end
section
set_option Elab.async false
set_option linter.all false
set_option maxRecDepth 100000
set_option maxHeartbeats 8000000
namespace Tp
open PySem L2 Dl
section
variable {it : Dl.Env → Rs Itr} {g : Tg} {fg : List Nat} {body : Sv} {items : List D} {chk : Dl.Env → Prop} {S : Type}
/-- a for that may break off: an invariant, and what holds where it breaks off -/
theorem forD_ib (E : S → Dl.Env) (I : Nat → S → Prop) (B : Dl.Env → Prop) : ∀ (items : List D) (j : Nat) (s : S), I j s →
    (∀ i d s, items[i]? = some d → I (j + i) s → chk (E s) ∧ ((∃ s', turn g body fg d (E s) = .nx (E s') ∧ I (j + i + 1) s') ∨ ∃ e', turn g body fg d (E s) = .bk e' ∧ B e')) →
    (∀ s, I (j + items.length) s → chk (E s)) → ∃ e', forD g chk body fg items (E s) = .nx e' ∧ (B e' ∨ ∃ s, e' = E s ∧ I (j + items.length) s)
  | [], j, s, h, _, hc => by
    refine ⟨E s, ?_, .inr ⟨s, rfl, h⟩⟩
    unfold forD
    rw [if_pos (hc s h)]
  | a :: l, j, s, h, hs, hc => by
    obtain ⟨h1, h2⟩ := hs 0 a s rfl h
    rcases h2 with ⟨s', h2, h3⟩ | ⟨e', h2, hB⟩
    · obtain ⟨e1, e2, q1, q2, q3⟩ := turn_nx h2
      obtain ⟨e', r1, r2⟩ := forD_ib E I B l (j + 1) s' h3 (fun i d s hd hi => by
        have := hs (i + 1) d s (by simpa using hd) (by rwa [show j + (i + 1) = j + 1 + i by omega])
        rwa [show j + (i + 1) = j + 1 + i by omega] at this) (fun s hi => hc s (by rw [List.length_cons]; rwa [show j + (l.length + 1) = j + 1 + l.length by omega]))
      refine ⟨e', ?_, ?_⟩
      · unfold forD
        rw [if_pos h1]
        simp only [q1]
        rcases q2 with q2 | q2 <;>
        · simp only [q2]
          rw [q3]
          exact r1
      · rw [List.length_cons, show j + (l.length + 1) = j + 1 + l.length by omega]
        exact r2
    · refine ⟨e', ?_, .inl hB⟩
      unfold forD
      rw [if_pos h1]
      unfold turn turnO at h2
      cases hg : g a (E s) with
      | none => rw [hg] at h2; cases h2
      | some e1 =>
        rw [hg] at h2
        dsimp only at h2 ⊢
        cases hb : body e1 with
        | bk e2 => rw [hb] at h2; cases h2; rfl
        | _ => rw [hb] at h2; cases h2
theorem for_ib (E : S → Dl.Env) (I : Nat → S → Prop) (B : Dl.Env → Prop) (s0 : S) {e0 : Dl.Env} (hit : it e0 = .ok ⟨items, chk⟩ (E s0)) (h0 : I 0 s0)
    (hs : ∀ i d s, items[i]? = some d → I i s → chk (E s) ∧ ((∃ s', turn g body fg d (E s) = .nx (E s') ∧ I (i + 1) s') ∨ ∃ e', turn g body fg d (E s) = .bk e' ∧ B e')) (hc : ∀ s, I items.length s → chk (E s)) :
    ∃ e', sFor it g fg body e0 = .nx e' ∧ (B e' ∨ ∃ s, e' = E s ∧ I items.length s) := by
  unfold sFor
  rw [hit]
  obtain ⟨e', h1, h2⟩ := forD_ib (g := g) (fg := fg) (body := body) (chk := chk) E I B items 0 s0 h0 (fun i d s hd hi => by
    rw [Nat.zero_add] at hi ⊢
    exact hs i d s hd hi) (fun s hi => hc s (by rwa [Nat.zero_add] at hi))
  rw [Nat.zero_add] at h2
  exact ⟨e', h1, h2⟩
end
def truC (o : Option Cell) (e : Dl.Env) : Rs Bool := match o with
    | some (.lst xs) => .ok (!xs.isEmpty) e
    | _ => .fail
@[simp] theorem kTru_loc {n : Nat} {e : Dl.Env} : kTru (.loc n) e = truC (e.cell n) e := rfl
@[simp] theorem truC_lst {xs : List D} {e : Dl.Env} : truC (some (.lst xs)) e = .ok (!xs.isEmpty) e := rfl
/-- a deck of numbers, the next one last -/
def dk (ds : List Int) : Cell := .lst (ds.map .int)
def dkD (ds : List Int) : D := .lst (ds.map .int)
@[simp] theorem mapCell_dk {g : W → Option W} {ds : List Int} : mapCell g (dk ds) = some (dk ds) := rfl
@[simp] theorem refs_dk {n : Nat} {ds : List Int} : Cell.refs n (dk ds) = false := rfl
@[simp] theorem subst_dk {n : Nat} {x : D} {ds : List Int} : Cell.subst n x (dk ds) = dk ds := rfl
@[simp] theorem toD_dk {ds : List Int} : Cell.toD (dk ds) = some (dkD ds) := rfl
/-- the next number by its remainder -/
def tv (ds : List Int) (n : Int) : Int := match ds.reverse with
  | [] => 0
  | x :: _ => x.fmod n
def tn (ds : List Int) : List Int := ds.dropLast
theorem tv_nat (ds : List Int) {n : Nat} (h : 0 < n) : ∃ k : Nat, k < n ∧ tv ds n = k := by
  unfold tv
  split
  · exact ⟨0, h, rfl⟩
  · rename_i x _ _
    have h1 := Int.fmod_nonneg_of_pos x (show (0 : Int) < n by omega)
    have h2 := Int.fmod_lt_of_pos x (show (0 : Int) < n by omega)
    exact ⟨(x.fmod n).toNat, by omega, by omega⟩
theorem take35_ok (C : Cs) (ds : List Int) {n : Nat} (h : 0 < n) : F_law_take_k35 C [.loc 0, .d (.int n)] [dk ds] = .ok (.d (.int (tv ds n))) [dk (tn ds)] := by
  have h1 : (n : Int) ≠ 0 := by omega
  have h2 : n ≠ 0 := by omega
  unfold tv tn dk
  rcases List.eq_nil_or_concat ds with rfl | ⟨r, x, rfl⟩
  · simp -implicitDefEqProofs [F_law_take_k35, fb_law_take_k35, env0]
  · rw [List.concat_eq_append]
    have hp : ¬ ((r.length : Int) + 1 = 0) := by omega
    have hb : ((r.length : Int) + 1 == 0) = false := beq_false_of_ne hp
    simp -implicitDefEqProofs [F_law_take_k35, fb_law_take_k35, env0, hb, h1, h2]
theorem mix_ok (C : Cs) (n k : Int) : ∃ m : Int, F_law_mix C [.d (.int n), .d (.int k)] [] = .ok (.d (.int m)) [] := by
  have m1 : ∀ i : Int, CMul 7919 i := fun i => cmulL _ _ (by decide)
  have m2 : ∀ i : Int, CMul i 48271 := fun i => cmulR _ _ (by decide)
  have m3 : ∀ i : Int, CMul i 16807 := fun i => cmulR _ _ (by decide)
  refine ⟨((((n.fmod 1000003 + 7919 * k + 1) * 48271).fmod 1000033) * 16807).fmod 998244353, ?_⟩
  simp -implicitDefEqProofs [F_law_mix, fb_law_mix, env0, m1, m2, m3]
@[simp] abbrev Enm (ns : List Int) (n : Int) (ds : List Int) (base cell rest k : Option W := none) : Dl.Env := E_law_numbers (x_script := some (.d (.rd (ns.map .int)))) (x_count_here := some (.d (.int n))) (x_row := some (.loc 0)) (x_base := base) (x_cell := cell) (x_rest := rest) (x_k := k) (c0 := some (dk ds))
theorem num_l2 (C : Cs) (ns ds : List Int) (hl : ds.length < 100000) (n : Int) (b : W) (c : W) (r : Int) :
    ∃ ds' r' k', fb_law_numbers_l2 C (Enm ns n ds (base := some b) (cell := some c) (rest := some (.d (.int r)))) = .nx (Enm ns n ds' (base := some b) (cell := some c) (rest := r') (k := k')) ∧ ds'.length ≤ ds.length + 60 := by
  unfold fb_law_numbers_l2
  have d8 : ∀ i : Int, CDivN i 840 := fun i => ⟨by decide, by decide⟩
  obtain ⟨e', h1, h2⟩ := for_ib (it := iRg1 (eC (.int 60))) (g := tgName 6) (fg := [6]) (body := fb_law_numbers_l2b C) (items := rangeL 0 60) (chk := fun _ => True) (S := List Int × Int)
    (e0 := Enm ns n ds (base := some b) (cell := some c) (rest := some (.d (.int r))))
    (fun s => Enm ns n s.1 (base := some b) (cell := some c) (rest := some (.d (.int s.2)))) (fun i s => s.1.length ≤ ds.length + i ∧ i ≤ 60)
    (fun e' => ∃ ds' r' k', e' = Enm ns n ds' (base := some b) (cell := some c) (rest := r') (k := k') ∧ ds'.length ≤ ds.length + 60) (ds, r) (by simp -implicitDefEqProofs [Enm, E_law_numbers]) ⟨Nat.le_refl _, by omega⟩ (fun i d ⟨s1, s2⟩ hd hi => ⟨trivial, by
      obtain ⟨hi2, rfl⟩ := rangeL_at hd
      obtain ⟨hi, hi3⟩ := hi
      dsimp only at hi hi3 ⊢
      have hs : s1.length < 16777216 := by omega
      by_cases hz : s2.fdiv 840 = 0
      · right
        refine ⟨Enm ns n (s1 ++ [s2.fmod 840]) (base := some b) (cell := some c) (rest := some (.d (.int (s2.fdiv 840)))) (k := some (.d (.int i))), ?_, _, _, _, rfl, by simp; omega⟩
        simp -implicitDefEqProofs [Enm, E_law_numbers, fb_law_numbers_l2b, dk, d8, sizeL, hs, hz]
      · left
        refine ⟨(s1 ++ [s2.fmod 840], s2.fdiv 840), ?_, by simp; omega⟩
        have hzb : (s2.fdiv 840 == 0) = false := beq_false_of_ne hz
        simp -implicitDefEqProofs [Enm, E_law_numbers, fb_law_numbers_l2b, dk, d8, sizeL, hs, hzb]⟩) (fun _ _ => trivial)
  rcases h2 with ⟨ds', r', k', rfl, hl'⟩ | ⟨s, rfl, hs⟩
  · exact ⟨ds', r', k', h1, hl'⟩
  · exact ⟨_, _, _, h1, by have := hs.1; rw [rangeL_len] at this; exact this⟩
theorem num_l1 (C : Cs) (ns : List Int) (hn : ns.length ≤ 63) (n : Int) : ∃ ds b, fb_law_numbers_l1 C (Enm ns n [] (base := some (.d (.int 0)))) = .nx (Enm ns n ds (base := some (.d (.int b)))) ∧ ds.length ≤ 62 * ns.length := by
  unfold fb_law_numbers_l1
  have hc : cutL (ns.map D.int) none (some 63) = ns.map D.int := by
    have := cutL_to (ns.map D.int) 63
    rw [List.take_of_length_le (by rw [List.length_map]; exact hn)] at this
    exact this
  obtain ⟨⟨d1, b⟩, h1, h2⟩ := for_i (it := iL (eSl (eVar 0) oNone (oSome (eC (.int 63))))) (g := tgName 4) (fg := [4, 5, 6]) (body := fb_law_numbers_l1b C) (items := ns.map .int) (chk := fun _ => True) (S := List Int × Int) (e0 := Enm ns n [] (base := some (.d (.int 0))))
    (fun s => Enm ns n s.1 (base := some (.d (.int s.2)))) (fun i s => s.1.length ≤ 62 * i) ([], 0) (by simp -implicitDefEqProofs [Enm, E_law_numbers, hc, -cutL_map]) (by simp) (fun i d ⟨s1, s2⟩ hd hi => ⟨trivial, by
      obtain ⟨hi2, rfl⟩ := map_at hd
      dsimp only at hi ⊢
      generalize (ns[i]'hi2) = c
      have hs : s1.length < 16777216 := by omega
      by_cases hb : ¬ (1000000000000000000 ≤ c)
      · obtain ⟨m1, e1⟩ := mix_ok C c 3
        obtain ⟨m2, e2⟩ := mix_ok C m1 5
        refine ⟨(s1 ++ [m2], s2 + c), ?_, by simp; omega⟩
        simp -implicitDefEqProofs [Enm, E_law_numbers, fb_law_numbers_l1b, dk, hb, e1, e2, sizeL, hs]
      · have hb := Classical.not_not.mp hb
        obtain ⟨ds', r', k', e1, e2⟩ := num_l2 C ns s1 (by omega) n (.d (.int (s2 + c))) (.d (.int c)) c
        simp -implicitDefEqProofs [Enm, E_law_numbers, dk] at e1
        refine ⟨(ds', s2 + c), ?_, by show ds'.length ≤ _; omega⟩
        simp -implicitDefEqProofs [Enm, E_law_numbers, fb_law_numbers_l1b, dk, hb, e1]⟩) (fun _ _ => trivial)
  rw [List.length_map] at h2
  exact ⟨d1, b, h1, h2⟩
theorem num_l3 (C : Cs) (ns ds : List Int) (hl : ds.length < 100000) (n : Nat) (hn : n < 1000) (b : Int) : ∃ ds', fb_law_numbers_l3 C (Enm ns n ds (base := some (.d (.int b)))) = .nx (Enm ns n ds' (base := some (.d (.int b)))) ∧ ds'.length = ds.length + n := by
  unfold fb_law_numbers_l3
  have hz : -4611686018427387904 ≤ (n : Int) ∧ (n : Int) < 4611686018427387904 := by omega
  obtain ⟨d1, h1, h2⟩ := for_i (it := iRg1 (eVar 1)) (g := tgName 6) (fg := [6]) (body := fb_law_numbers_l3b C) (items := rangeL 0 n) (chk := fun _ => True) (S := List Int) (e0 := Enm ns n ds (base := some (.d (.int b))))
    (fun s => Enm ns n s (base := some (.d (.int b)))) (fun i s => s.length = ds.length + i ∧ i ≤ n) ds (by simp -implicitDefEqProofs [Enm, E_law_numbers, hz]) ⟨rfl, by omega⟩ (fun i d s1 hd hi => ⟨trivial, by
      obtain ⟨hi2, rfl⟩ := rangeL_at hd
      obtain ⟨hi, hi3⟩ := hi
      have hs : s1.length < 16777216 := by omega
      have m1 : ∀ i : Int, CMul 31 i := fun i => cmulL _ _ (by decide)
      obtain ⟨m2, e1⟩ := mix_ok C (b + 31 * (i : Int)) (11 + (i : Int))
      obtain ⟨m3, e2⟩ := mix_ok C m2 17
      refine ⟨s1 ++ [m3], ?_, by simp; omega⟩
      simp -implicitDefEqProofs [Enm, E_law_numbers, fb_law_numbers_l3b, dk, e1, e2, m1, sizeL, hs]⟩) (fun _ _ => trivial)
  rw [rangeL_len] at h2
  exact ⟨d1, h1, h2.1⟩
theorem numbers_ok (C : Cs) (ns : List Int) (hn : ns.length ≤ 63) (n : Nat) (hk : n < 1000) : ∃ ds, F_law_numbers C [.d (.rd (ns.map .int)), .d (.int n)] [] = .ok (.loc 0) [dk ds] := by
  obtain ⟨d1, b, e1, l1⟩ := num_l1 C ns hn n
  obtain ⟨d2, e2, l2⟩ := num_l3 C ns d1 (by omega) n hk b
  refine ⟨d2.reverse, ?_⟩
  simp -implicitDefEqProofs [Enm, E_law_numbers, dk] at e1 e2
  simp -implicitDefEqProofs [F_law_numbers, fb_law_numbers, env0, sizeL, dk, e1, e2]
end Tp
end
section
set_option Elab.async false
set_option linter.all false
set_option maxRecDepth 100000
set_option maxHeartbeats 8000000
namespace Tp
open PySem L2 Dl
/-! weights: how long the text may become -/
mutual
def Qn.w : Qn → Nat
  | .nil => 0
  | .cons _ t fs r => 2 + t.length + fs.w + r.w
def Fs.w : Fs → Nat
  | .nil => 0
  | .place _ r => 14 + r.w
  | .holds _ r => 14 + r.w
  | .has q r => 2 + q.w + r.w
end
/-! a string of at most five signs -/
mutual
def Qn.five : Qn → Prop
  | .nil => True
  | .cons _ _ fs r => fs.five ∧ r.five
def Fs.five : Fs → Prop
  | .nil => True
  | .place _ r => r.five
  | .holds s r => s.length ≤ 5 ∧ r.five
  | .has q r => q.five ∧ r.five
end
theorem quo_up (s : List Nat) : (quo s).length ≤ 2 * s.length + 2 := by
  have : ∀ s : List Nat, (s.flatMap esc).length ≤ 2 * s.length := fun s => by
    induction s with
    | nil => simp
    | cons c s ih => rw [List.flatMap_cons, List.length_append, List.length_cons]; have := esc_len c; omega
  have := this s
  unfold quo
  rw [List.length_cons, List.length_append, List.length_singleton]
  omega
mutual
theorem wq_w : ∀ q : Qn, q.five → (wq q).length ≤ q.w
  | .nil, _ => by rw [wq, Qn.w]; exact Nat.le_refl _
  | .cons b t fs r, h => by
    rw [Qn.five] at h
    have h1 := wf_w fs h.1
    have h2 := wq_w r h.2
    rw [wq, Qn.w]
    cases b <;> simp <;> omega
theorem wf_w : ∀ fs : Fs, fs.five → (wf fs).length ≤ fs.w
  | .nil, _ => by rw [wf, Fs.w]; exact Nat.le_refl _
  | .place n r, h => by
    rw [Fs.five] at h
    have h2 := wf_w r h
    have := dec_len n
    rw [wf, Fs.w]
    simp; omega
  | .holds s r, h => by
    rw [Fs.five] at h
    have h2 := wf_w r h.2
    have := quo_up s
    rw [wf, Fs.w]
    simp; omega
  | .has q r, h => by
    rw [Fs.five] at h
    have h1 := wq_w q h.1
    have h2 := wf_w r h.2
    rw [wf, Fs.w]
    simp; omega
end
/-! what the law draws -/
def FOk (b : Bool) (d E W : Nat) (y : D) : Prop := ∃ g : Fs → Fs, ∀ r : Fs, (g r).ds = y :: r.ds ∧ (g r).ok b d = r.ok b d ∧ (g r).dp ≤ max E r.dp ∧ (g r).w ≤ W + r.w ∧ (r.five → (g r).five)
def SOk (d E W : Nat) (y : D) : Prop := ∃ (b : Bool) (t : List Nat) (fs : Fs), y = .tup [.str (axisS b), .str (mkS t), .lst fs.ds] ∧ testOk t = true ∧ fs.ok b d = true ∧ fs.dp ≤ E ∧ 2 + t.length + fs.w ≤ W ∧ fs.five
theorem fs_of {b : Bool} {d E W : Nat} (hD : 1 ≤ E) : ∀ out : List D, (∀ y ∈ out, FOk b d E W y) → ∃ fs : Fs, fs.ds = out ∧ fs.ok b d = true ∧ fs.dp ≤ E ∧ fs.w ≤ out.length * W ∧ fs.five
  | [], _ => ⟨.nil, by rw [Fs.ds], by rw [Fs.ok], by rw [Fs.dp]; exact hD, by rw [Fs.w]; omega, by rw [Fs.five]; trivial⟩
  | y :: out, h => by
    obtain ⟨fs, h1, h2, h3, h4, h5⟩ := fs_of hD out (fun z hz => h z (List.mem_cons_of_mem _ hz))
    obtain ⟨g, hg⟩ := h y (List.mem_cons_self ..)
    obtain ⟨g1, g2, g3, g4, g5⟩ := hg fs
    refine ⟨g fs, by rw [g1, h1], by rw [g2, h2], by omega, ?_, g5 h5⟩
    rw [List.length_cons, Nat.succ_mul]
    omega
theorem qn_of {d E W : Nat} (hD : 1 ≤ E) : ∀ out : List D, (∀ y ∈ out, SOk d E W y) → ∃ q : Qn, q.ds = out ∧ q.ok d = true ∧ q.dp ≤ E ∧ q.w ≤ out.length * W ∧ q.five
  | [], _ => ⟨.nil, by rw [Qn.ds], by rw [Qn.ok], by rw [Qn.dp]; exact hD, by rw [Qn.w]; omega, by rw [Qn.five]; trivial⟩
  | y :: out, h => by
    obtain ⟨q, h1, h2, h3, h4, h5⟩ := qn_of hD out (fun z hz => h z (List.mem_cons_of_mem _ hz))
    obtain ⟨b, t, fs, g1, g2, g3, g4, g5, g6⟩ := h y (List.mem_cons_self ..)
    refine ⟨.cons b t fs q, by rw [Qn.ds, g1, h1], by rw [Qn.ok, g2, g3, h2]; rfl, by rw [Qn.dp]; omega, ?_, by rw [Qn.five]; exact ⟨g6, h5⟩⟩
    rw [List.length_cons, Nat.succ_mul, Qn.w]
    omega
/-- what a question within is -/
def AskL (Fq : Fd) (k : Nat) (d E W : Nat) : Prop := ∀ ds : List Int, ∃ (q : Qn) (ds' : List Int), Fq [.loc 0, .d (.int (k : Nat))] [dk ds] = .ok (.d (.lst q.ds)) [dk ds'] ∧ q.isN = false ∧ q.ok d = true ∧ q.dp ≤ E ∧ q.w ≤ W ∧ q.five
theorem law_filter_ok (C : Cs) (Fq : Fd) (b : Bool) (k d E W : Nat) (hd : d + k = 3) (hD : 1 ≤ E) (hq : 0 < k → AskL Fq (k - 1) (d + 1) E W) (ds : List Int) : ∃ y ds', F_law_filter C Fq [.loc 0, .d (.str (axisS b)), .d (.int (k : Nat))] [dk ds] = .ok (.d y) [dk ds'] ∧ FOk b d (E + 1) (max 14 (2 + W)) y := by
  have t3 := take35_ok C ds (n := 3) (by omega)
  obtain ⟨c, hc, hv⟩ := tv_nat ds (n := 3) (by omega)
  rw [hv] at t3
  have ax := axis_c b
  have t3b := take35_ok C (tn ds) (n := 3) (by omega)
  obtain ⟨c2, hc2, hv2⟩ := tv_nat (tn ds) (n := 3) (by omega)
  rw [hv2] at t3b
  have t4 := take35_ok C (tn ds) (n := 4) (by omega)
  obtain ⟨c4, hc4, hv4⟩ := tv_nat (tn ds) (n := 4) (by omega)
  rw [hv4] at t4
  simp -implicitDefEqProofs at t3 t3b t4
  -- the last answer
  have last : ∃ y, atI [D.str "x", D.str "y", D.str "zx", D.str "xy"] (c4 : Int) = some y ∧ FOk b d (E + 1) (max 14 (2 + W)) (.tup [.str "holds", y]) := by
    have mk : ∀ s : List Nat, strgOk s = true ∧ s.length ≤ 5 → FOk b d (E + 1) (max 14 (2 + W)) (.tup [.str "holds", .str (mkS s)]) := fun s hs => ⟨fun r => .holds s r, fun r => ⟨by rw [Fs.ds], by rw [Fs.ok, hs.1]; rfl, by rw [Fs.dp]; omega, by rw [Fs.w]; omega, fun h => by rw [Fs.five]; exact ⟨hs.2, h⟩⟩⟩
    rcases (show c4 = 0 ∨ c4 = 1 ∨ c4 = 2 ∨ c4 = 3 by omega) with rfl | rfl | rfl | rfl
    · exact ⟨_, rfl, by rw [show ("x" : Str) = mkS [120] by decide +kernel]; exact mk _ (by decide)⟩
    · exact ⟨_, rfl, by rw [show ("y" : Str) = mkS [121] by decide +kernel]; exact mk _ (by decide)⟩
    · exact ⟨_, rfl, by rw [show ("zx" : Str) = mkS [122, 120] by decide +kernel]; exact mk _ (by decide)⟩
    · exact ⟨_, rfl, by rw [show ("xy" : Str) = mkS [120, 121] by decide +kernel]; exact mk _ (by decide)⟩
  obtain ⟨y4, hy4, hF4⟩ := last
  rcases (show c = 0 ∨ c = 1 ∨ c = 2 by omega) with rfl | rfl | rfl
  · cases b with
    | false =>
      refine ⟨.tup [.str "place", .int (1 + (c2 : Int))], tn (tn ds), ?_, fun r => .place (1 + c2) r, fun r => ⟨?_, ?_, by rw [Fs.dp]; omega, by rw [Fs.w]; omega, fun h => by rw [Fs.five]; exact h⟩⟩
      · simp -implicitDefEqProofs at ax t3
        simp -implicitDefEqProofs [F_law_filter, fb_law_filter, env0, sizeL, t3, ax, t3b]
      · rw [Fs.ds, show ((1 + c2 : Nat) : Int) = 1 + (c2 : Int) by omega]
      · rw [Fs.ok, decide_eq_true (show 1 ≤ 1 + c2 by omega), decide_eq_true (show 1 + c2 ≤ 5000 by omega)]; rfl
    | true =>
      refine ⟨.tup [.str "holds", y4], tn (tn ds), ?_, hF4⟩
      simp -implicitDefEqProofs at ax t3
      simp -implicitDefEqProofs [F_law_filter, fb_law_filter, env0, sizeL, t3, ax, t4, ixDD, hy4]
  · by_cases hk : 0 < k
    · obtain ⟨q, ds', hq1, hq2, hq3, hq4, hq5, hq6⟩ := hq hk (tn ds)
      have hk' : (0 : Int) < k := by omega
      rw [show ((k - 1 : Nat) : Int) = (k : Int) - 1 by omega] at hq1
      refine ⟨.tup [.str "has", .lst q.ds], ds', ?_, fun r => .has q r, fun r => ⟨by rw [Fs.ds], ?_, by rw [Fs.dp]; omega, by rw [Fs.w]; omega, fun h => by rw [Fs.five]; exact ⟨hq6, h⟩⟩⟩
      · simp -implicitDefEqProofs at t3
        simp -implicitDefEqProofs [F_law_filter, fb_law_filter, env0, sizeL, t3, hk', hk, hq1]
      · rw [Fs.ok, hq2, hq3, decide_eq_true (show d + 1 ≤ 3 by omega)]; rfl
    · have hk' : ¬ (0 : Int) < k := by omega
      refine ⟨.tup [.str "holds", y4], tn (tn ds), ?_, hF4⟩
      simp -implicitDefEqProofs at t3
      simp -implicitDefEqProofs [F_law_filter, fb_law_filter, env0, sizeL, t3, hk', hk, t4, ixDD, hy4]
  · refine ⟨.tup [.str "holds", y4], tn (tn ds), ?_, hF4⟩
    simp -implicitDefEqProofs at t3
    simp -implicitDefEqProofs [F_law_filter, fb_law_filter, env0, sizeL, t3, t4, ixDD, hy4]
@[simp] abbrev Els (k : Int) (ds : List Int) (x2 x3 x4 : Option W := none) (c1 : Option Cell := none) : Dl.Env := E_law_step (x_row := some (.loc 0)) (x_depth := some (.d (.int k))) (x_axis := x2) (x_test := x3) (x_filters := x4) (c0 := some (dk ds)) (c1 := c1)
theorem law_step_ok (C : Cs) (Fq : Fd) (k d E W : Nat) (hd : d + k = 3) (hE : 1 ≤ E) (hq : 0 < k → AskL Fq (k - 1) (d + 1) E W) (ds : List Int) : ∃ y ds', F_law_step C Fq [.loc 0, .d (.int (k : Nat))] [dk ds] = .ok (.d y) [dk ds'] ∧ SOk d (E + 1) (3 + 2 * max 14 (2 + W)) y := by
  have t2 := take35_ok C ds (n := 2) (by omega)
  obtain ⟨c2, hc2, hv2⟩ := tv_nat ds (n := 2) (by omega)
  rw [hv2] at t2
  have t6 := take35_ok C (tn ds) (n := 6) (by omega)
  obtain ⟨c6, hc6, hv6⟩ := tv_nat (tn ds) (n := 6) (by omega)
  rw [hv6] at t6
  have t3 := take35_ok C (tn (tn ds)) (n := 3) (by omega)
  obtain ⟨c3, hc3, hv3⟩ := tv_nat (tn (tn ds)) (n := 3) (by omega)
  rw [hv3] at t3
  simp -implicitDefEqProofs at t2 t6 t3
  obtain ⟨b, hb⟩ : ∃ b : Bool, atI [D.str "child", D.str "below"] (c2 : Int) = some (.str (axisS b)) := by
    rcases (show c2 = 0 ∨ c2 = 1 by omega) with rfl | rfl
    · exact ⟨false, rfl⟩
    · exact ⟨true, rfl⟩
  obtain ⟨t, ht, hto, htl⟩ : ∃ t : List Nat, atI [D.str "a", D.str "b", D.str "c", D.str "*", D.str "*", D.str "#"] (c6 : Int) = some (.str (mkS t)) ∧ testOk t = true ∧ t.length = 1 := by
    rcases (show c6 = 0 ∨ c6 = 1 ∨ c6 = 2 ∨ c6 = 3 ∨ c6 = 4 ∨ c6 = 5 by omega) with rfl | rfl | rfl | rfl | rfl | rfl
    · exact ⟨[97], congrArg (fun s => some (D.str s)) (show ("a" : Str) = mkS [97] by decide +kernel), by decide, rfl⟩
    · exact ⟨[98], congrArg (fun s => some (D.str s)) (show ("b" : Str) = mkS [98] by decide +kernel), by decide, rfl⟩
    · exact ⟨[99], congrArg (fun s => some (D.str s)) (show ("c" : Str) = mkS [99] by decide +kernel), by decide, rfl⟩
    · exact ⟨[42], congrArg (fun s => some (D.str s)) (show ("*" : Str) = mkS [42] by decide +kernel), by decide, rfl⟩
    · exact ⟨[42], congrArg (fun s => some (D.str s)) (show ("*" : Str) = mkS [42] by decide +kernel), by decide, rfl⟩
    · exact ⟨[35], congrArg (fun s => some (D.str s)) (show ("#" : Str) = mkS [35] by decide +kernel), by decide, rfl⟩
  have hz : -4611686018427387904 ≤ (c3 : Int) ∧ (c3 : Int) < 4611686018427387904 := by omega
  obtain ⟨ds', out, hcmp, _, hlen, hP⟩ := comp_s (keep := false) (it := iRg1 (eCall 2 (F_law_take_k35 C) [0] [] [] [(eVar 0), (eC (.int 3))])) (g := tgName 5) (t := fun e => .ok true e) (f := eCall 3 (F_law_filter C Fq) [0] [] [] [(eVar 0), (eVar 2), (eVar 1)]) (k := 1) (vs := [5]) (items := rangeL 0 c3) (chk := fun _ => True)
    (fun (s : List Int) acc => Els k s (some (.d (.str (axisS b)))) (some (.d (.str (mkS t)))) none (some (.lst acc))) (fun _ => True) (FOk b d (E + 1) (max 14 (2 + W))) (tn (tn (tn ds)))
    (e0 := Els k (tn (tn ds)) (some (.d (.str (axisS b)))) (some (.d (.str (mkS t))))) (e1 := Els k (tn (tn (tn ds))) (some (.d (.str (axisS b)))) (some (.d (.str (mkS t)))))
    (by simp -implicitDefEqProofs [Els, E_law_step, t3, hz]) (by simp [Env.open]) rfl trivial (fun i x s acc hx _ hacc _ => ⟨trivial, by
      obtain ⟨hi, rfl⟩ := rangeL_at hx
      obtain ⟨y, s', hy, hF⟩ := law_filter_ok C Fq b k d E W hd hE hq s
      have hs : acc.length < 16777216 := by omega
      refine ⟨s', y, ?_, trivial, hF⟩
      simp -implicitDefEqProofs [Els, E_law_step, hy, sizeL, hs]⟩) (fun _ _ => trivial)
  rw [rangeL_len] at hlen
  obtain ⟨fs, f1, f2, f3, f4, f5⟩ := fs_of (by omega) out hP
  have c1 : fb_law_step_c1 C Fq (Els k (tn (tn ds)) (some (.d (.str (axisS b)))) (some (.d (.str (mkS t))))) = .ok (.d (.lst out)) (Els k ds' (some (.d (.str (axisS b)))) (some (.d (.str (mkS t))))) := by
    unfold fb_law_step_c1
    rw [hcmp]
    simp -implicitDefEqProofs [Els, E_law_step, endL]
  refine ⟨.tup [.str (axisS b), .str (mkS t), .lst fs.ds], ds', ?_, b, t, fs, rfl, hto, f2, f3, ?_, f5⟩
  · rw [f1]
    simp -implicitDefEqProofs [Els, E_law_step] at c1
    simp -implicitDefEqProofs [F_law_step, fb_law_step, env0, sizeL, t2, t6, ixDD, hb, ht, c1]
  · rw [hlen] at f4
    have : c3 * max 14 (2 + W) ≤ 2 * max 14 (2 + W) := Nat.mul_le_mul_right _ (by omega)
    omega
@[simp] abbrev Elq (k : Int) (ds : List Int) (c1 : Option Cell := none) : Dl.Env := E_law_question (x_row := some (.loc 0)) (x_depth := some (.d (.int k))) (c0 := some (dk ds)) (c1 := c1)
def Wq : Nat → Nat
  | 0 => 93
  | k + 1 => 3 * (3 + 2 * (2 + Wq k))
theorem Wq_ge : ∀ k, 93 ≤ Wq k
  | 0 => Nat.le_refl _
  | k + 1 => by have := Wq_ge k; unfold Wq; omega
def Wp (k : Nat) : Nat := if k = 0 then 12 else Wq (k - 1)
theorem Wq_eq (k : Nat) : 3 * (3 + 2 * max 14 (2 + Wp k)) = Wq k := by
  unfold Wp
  cases k with
  | zero => rfl
  | succ k =>
    rw [if_neg (by omega), show k + 1 - 1 = k by omega]
    have := Wq_ge k
    conv => rhs; unfold Wq
    omega
theorem law_question_ok (C : Cs) : ∀ (n k d : Nat), k < n → d + k = 3 → AskL (F_law_question C n) k d (k + 2) (Wq k)
  | 0, k, d, h, _ => by omega
  | n + 1, k, d, hk, hd => by
    intro ds
    have t3 := take35_ok C ds (n := 3) (by omega)
    obtain ⟨c3, hc3, hv3⟩ := tv_nat ds (n := 3) (by omega)
    rw [hv3] at t3
    simp -implicitDefEqProofs at t3
    have hz : -4611686018427387904 ≤ (1 : Int) + c3 ∧ (1 : Int) + c3 < 4611686018427387904 := by omega
    have htn : ((1 : Int) + c3).toNat = 1 + c3 := by omega
    have step : ∀ s : List Int, ∃ y ds', F_law_step C (F_law_question C n) [.loc 0, .d (.int (k : Nat))] [dk s] = .ok (.d y) [dk ds'] ∧ SOk d (k + 2) (3 + 2 * max 14 (2 + Wp k)) y := fun s => law_step_ok C (F_law_question C n) k d (k + 1) (Wp k) hd (by omega) (fun hp => by
      have := law_question_ok C n (k - 1) (d + 1) (by omega) (by omega)
      unfold Wp
      rw [if_neg (by omega)]
      rwa [show k - 1 + 2 = k + 1 by omega] at this) s
    obtain ⟨ds', out, hcmp, _, hlen, hP⟩ := comp_s (keep := false) (it := iRg1 (eOp addD (eC (.int 1)) (eCall 2 (F_law_take_k35 C) [0] [] [] [(eVar 0), (eC (.int 3))]))) (g := tgName 2) (t := fun e => .ok true e) (f := eCall 2 (F_law_step C (F_law_question C n)) [0] [] [] [(eVar 0), (eVar 1)]) (k := 1) (vs := [2]) (items := rangeL 0 (1 + c3)) (chk := fun _ => True)
      (fun (s : List Int) acc => Elq k s (some (.lst acc))) (fun _ => True) (SOk d (k + 2) (3 + 2 * max 14 (2 + Wp k))) (tn ds)
      (e0 := Elq k ds) (e1 := Elq k (tn ds))
      (by simp -implicitDefEqProofs [Elq, E_law_question, t3, hz, htn]) (by simp [Env.open]) rfl trivial (fun i x s acc hx _ hacc _ => ⟨trivial, by
        obtain ⟨hi, rfl⟩ := rangeL_at hx
        obtain ⟨y, s', hy, hF⟩ := step s
        have hs : acc.length < 16777216 := by omega
        refine ⟨s', y, ?_, trivial, hF⟩
        simp -implicitDefEqProofs [Elq, E_law_question, hy, sizeL, hs]⟩) (fun _ _ => trivial)
    rw [rangeL_len] at hlen
    obtain ⟨q, f1, f2, f3, f4, f5⟩ := qn_of (by omega) out hP
    have c1 : fb_law_question_c1 C (F_law_question C n) (Elq k ds) = .ok (.d (.lst out)) (Elq k ds') := by
      unfold fb_law_question_c1
      rw [hcmp]
      simp -implicitDefEqProofs [Elq, E_law_question, endL]
    refine ⟨q, ds', ?_, ?_, f2, f3, ?_, f5⟩
    · rw [f1]
      unfold F_law_question
      simp -implicitDefEqProofs [Elq, E_law_question] at c1
      simp -implicitDefEqProofs [fb_law_question, env0, c1]
    · rw [isN_ds, f1]
      cases out with
      | nil => simp at hlen; omega
      | cons _ _ => rfl
    · rw [hlen] at f4
      have h2 := Wq_eq k
      have : (1 + c3) * (3 + 2 * max 14 (2 + Wp k)) ≤ 3 * (3 + 2 * max 14 (2 + Wp k)) := Nat.mul_le_mul_right _ (by omega)
      omega
/-! strings -/
@[simp] abbrev Est5 (ds : List Int) (w : List Nat) : Dl.Env := E_law_string_k35 (x_row := some (.loc 0)) (x_text := some (.d (.str (mkS w)))) (c0 := some (dk ds))
theorem law_string_ok (C : Cs) (ds : List Int) : ∃ s ds', F_law_string_k35 C [.loc 0] [dk ds] = .ok (.d (.str (mkS s))) [dk ds'] ∧ strgOk s = true ∧ s.length ≤ 5 := by
  have t5 := take35_ok C ds (n := 5) (by omega)
  obtain ⟨c5, hc5, hv5⟩ := tv_nat ds (n := 5) (by omega)
  rw [hv5] at t5
  simp -implicitDefEqProofs at t5
  have hz : -4611686018427387904 ≤ (1 : Int) + c5 ∧ (1 : Int) + c5 < 4611686018427387904 := by omega
  have htn : ((1 : Int) + c5).toNat = 1 + c5 := by omega
  obtain ⟨⟨w, d1⟩, h1, h2, h3⟩ : ∃ s : List Nat × List Int, fb_law_string_k35_l1 C (Est5 ds []) = .nx (Est5 s.2 s.1) ∧ s.1.length = (rangeL 0 (1 + c5)).length ∧ s.1.all isSgn = true := by
    unfold fb_law_string_k35_l1
    refine for_i (it := iRg1 (eOp addD (eC (.int 1)) (eCall 2 (F_law_take_k35 C) [0] [] [] [(eVar 0), (eC (.int 5))]))) (g := tgName 2) (fg := [2]) (body := fb_law_string_k35_l1b C) (items := rangeL 0 (1 + c5)) (chk := fun _ => True) (S := List Nat × List Int)
      (fun s => Est5 s.2 s.1) (fun i s => s.1.length = i ∧ s.1.all isSgn = true) ([], tn ds) (by simp -implicitDefEqProofs [Est5, E_law_string_k35, t5, hz, htn]) ⟨rfl, rfl⟩ (fun i x ⟨w, d1⟩ hx hi => ⟨trivial, by
        obtain ⟨hi2, rfl⟩ := rangeL_at hx
        obtain ⟨i1, i2⟩ := hi
        dsimp only at i1 i2 ⊢
        have t8 := take35_ok C d1 (n := 8) (by omega)
        obtain ⟨c8, hc8, hv8⟩ := tv_nat d1 (n := 8) (by omega)
        rw [hv8] at t8
        simp -implicitDefEqProofs at t8
        obtain ⟨c, ht, hc⟩ : ∃ c : Nat, atI [D.str "a", D.str "\"", D.str "\\", D.str "\n", D.str " ", D.str "~", D.str "]", D.str "/"] (c8 : Int) = some (.str (mkS [c])) ∧ isSgn c = true := by
          rcases (show c8 = 0 ∨ c8 = 1 ∨ c8 = 2 ∨ c8 = 3 ∨ c8 = 4 ∨ c8 = 5 ∨ c8 = 6 ∨ c8 = 7 by omega) with rfl | rfl | rfl | rfl | rfl | rfl | rfl | rfl
          · exact ⟨97, congrArg (fun s => some (D.str s)) (show ("a" : Str) = mkS [97] by decide +kernel), rfl⟩
          · exact ⟨34, congrArg (fun s => some (D.str s)) (show ("\"" : Str) = mkS [34] by decide +kernel), rfl⟩
          · exact ⟨92, congrArg (fun s => some (D.str s)) (show ("\\" : Str) = mkS [92] by decide +kernel), rfl⟩
          · exact ⟨10, congrArg (fun s => some (D.str s)) (show ("\n" : Str) = mkS [10] by decide +kernel), rfl⟩
          · exact ⟨32, congrArg (fun s => some (D.str s)) (show (" " : Str) = mkS [32] by decide +kernel), rfl⟩
          · exact ⟨126, congrArg (fun s => some (D.str s)) (show ("~" : Str) = mkS [126] by decide +kernel), rfl⟩
          · exact ⟨93, congrArg (fun s => some (D.str s)) (show ("]" : Str) = mkS [93] by decide +kernel), rfl⟩
          · exact ⟨47, congrArg (fun s => some (D.str s)) (show ("/" : Str) = mkS [47] by decide +kernel), rfl⟩
        have hll : w.length + 1 ≤ 16777216 := by omega
        have m1 := mkS_len w
        have m2 := mkS_len1 c
        have ap := mkS_app w [c]
        refine ⟨(w ++ [c], tn d1), ?_, by simp [i1], by rw [List.all_append, i2, List.all_cons, hc]; rfl⟩
        simp -implicitDefEqProofs [Est5, E_law_string_k35, fb_law_string_k35_l1b, t8, ixDD, ht, sizeL, m1, m2, hll, ap]⟩) (fun _ _ => trivial)
  rw [rangeL_len] at h2
  dsimp only at h1 h2 h3
  refine ⟨w, d1, ?_, ?_, by omega⟩
  · have em : mkS [] = ("" : Str) := by decide +kernel
    simp -implicitDefEqProofs [Est5, E_law_string_k35, em] at h1
    simp -implicitDefEqProofs [F_law_string_k35, fb_law_string_k35, env0, h1]
  · unfold strgOk
    rw [decide_eq_true (show 1 ≤ w.length by omega), decide_eq_true (show w.length ≤ 40 by omega), h3]
    rfl
end Tp
end
section
set_option Elab.async false
set_option linter.all false
set_option maxRecDepth 100000
set_option maxHeartbeats 8000000
namespace Tp
open PySem L2 Dl
/-! dressing: strings and places exchanged -/
@[simp] abbrev Edr (Q : D) (ds : List Int) (acc : List D) (x3 x4 x5 x6 x7 x8 : Option W := none) (c2 : Option Cell := none) : Dl.Env := E_law_dressed (x_row := some (.loc 0)) (x_question_here := some (.d Q)) (x_found := some (.loc 1)) (x_axis := x3) (x_test := x4) (x_filters := x5) (x_later := x6) (x_kind := x7) (x_part := x8) (c0 := some (dk ds)) (c1 := some (.lst acc)) (c2 := c2)
noncomputable abbrev drD (C : Cs) (F : Fd) (xs : List D) (e : Dl.Env) : SR := forD (tgTup [(tgName 3), (tgName 4), (tgName 5)]) (fun _ => True) (fb_law_dressed_l1b C F) [3, 4, 5, 6, 7, 8] xs e
noncomputable abbrev drF (C : Cs) (F : Fd) (xs : List D) (e : Dl.Env) : SR := forD (tgTup [(tgName 7), (tgName 8)]) (fun _ => True) (fb_law_dressed_l2b C F) [7, 8] xs e
def LikeF (fs fs' : Fs) : Prop := (∀ b d, fs.ok b d = true → fs'.ok b d = true) ∧ fs'.dp = fs.dp ∧ fs'.w = fs.w ∧ fs'.five
def LikeQ (q q' : Qn) : Prop := (∀ d, q.ok d = true → q'.ok d = true) ∧ q'.dp = q.dp ∧ q'.w = q.w ∧ q'.five ∧ q'.isN = q.isN
/-- one filter's turn -/
theorem turn_place (C : Cs) (F : Fd) (Q : D) (ds : List Int) (acc later : List D) (d3 d4 d5 : D) (m : Nat) (hl : later.length ≤ 5000) : ∃ (m' : Nat) (ds' : List Int), (1 ≤ m ∧ m ≤ 5000 → 1 ≤ m' ∧ m' ≤ 5000) ∧
    turn (tgTup [(tgName 7), (tgName 8)]) (fb_law_dressed_l2b C F) [7, 8] (.tup [.str "place", .int (m : Nat)]) (Edr Q ds acc (some (.d d3)) (some (.d d4)) (some (.d d5)) (some (.loc 2)) none none (some (.lst later))) =
      .nx (Edr Q ds' acc (some (.d d3)) (some (.d d4)) (some (.d d5)) (some (.loc 2)) none none (some (.lst (later ++ [.tup [.str "place", .int (m' : Nat)]])))) := by
  have t3 := take35_ok C ds (n := 3) (by omega)
  obtain ⟨c3, hc3, hv3⟩ := tv_nat ds (n := 3) (by omega)
  rw [hv3] at t3
  have t4 := take35_ok C (tn ds) (n := 4) (by omega)
  obtain ⟨c4, hc4, hv4⟩ := tv_nat (tn ds) (n := 4) (by omega)
  rw [hv4] at t4
  simp -implicitDefEqProofs at t3 t4
  have hs : later.length < 16777216 := by omega
  by_cases h0 : c3 = 0
  · obtain ⟨m', hm, hm1⟩ : ∃ m' : Nat, atI [D.int 10, D.int 4999, D.int 5000, D.int 909] (c4 : Int) = some (.int (m' : Nat)) ∧ 1 ≤ m' ∧ m' ≤ 5000 := by
      rcases (show c4 = 0 ∨ c4 = 1 ∨ c4 = 2 ∨ c4 = 3 by omega) with rfl | rfl | rfl | rfl
      · exact ⟨10, rfl, by omega, by omega⟩
      · exact ⟨4999, rfl, by omega, by omega⟩
      · exact ⟨5000, rfl, by omega, by omega⟩
      · exact ⟨909, rfl, by omega, by omega⟩
    subst h0
    refine ⟨m', tn (tn ds), fun _ => hm1, ?_⟩
    simp -implicitDefEqProofs at t3
    simp -implicitDefEqProofs [Edr, E_law_dressed, fb_law_dressed_l2b, t3, t4, ixDD, hm, sizeL, hs]
  · have h0b : ((c3 : Int) == 0) = false := beq_false_of_ne (by omega)
    refine ⟨m, tn ds, id, ?_⟩
    simp -implicitDefEqProofs [Edr, E_law_dressed, fb_law_dressed_l2b, t3, h0, h0b, sizeL, hs]
theorem turn_holds (C : Cs) (F : Fd) (Q : D) (ds : List Int) (acc later : List D) (d3 d4 d5 : D) (s : List Nat) (hl : later.length ≤ 5000) : ∃ (s' : List Nat) (ds' : List Int), (strgOk s = true → strgOk s' = true) ∧ (s.length ≤ 5 → s'.length ≤ 5) ∧
    turn (tgTup [(tgName 7), (tgName 8)]) (fb_law_dressed_l2b C F) [7, 8] (.tup [.str "holds", .str (mkS s)]) (Edr Q ds acc (some (.d d3)) (some (.d d4)) (some (.d d5)) (some (.loc 2)) none none (some (.lst later))) =
      .nx (Edr Q ds' acc (some (.d d3)) (some (.d d4)) (some (.d d5)) (some (.loc 2)) none none (some (.lst (later ++ [.tup [.str "holds", .str (mkS s')]])))) := by
  have t2 := take35_ok C ds (n := 2) (by omega)
  obtain ⟨c2, hc2, hv2⟩ := tv_nat ds (n := 2) (by omega)
  rw [hv2] at t2
  obtain ⟨s', ds', e1, e2, e3⟩ := law_string_ok C (tn ds)
  simp -implicitDefEqProofs at t2
  have hs : later.length < 16777216 := by omega
  by_cases h0 : c2 = 0
  · subst h0
    refine ⟨s', ds', fun _ => e2, fun _ => e3, ?_⟩
    simp -implicitDefEqProofs at t2
    simp -implicitDefEqProofs [Edr, E_law_dressed, fb_law_dressed_l2b, t2, e1, sizeL, hs]
  · have h0b : ((c2 : Int) == 0) = false := beq_false_of_ne (by omega)
    refine ⟨s, tn ds, id, id, ?_⟩
    simp -implicitDefEqProofs [Edr, E_law_dressed, fb_law_dressed_l2b, t2, h0, h0b, sizeL, hs]
theorem turn_has (C : Cs) (F : Fd) (Q : D) (ds : List Int) (acc later : List D) (d3 d4 d5 : D) (x x' : List D) (ds' : List Int) (hF : F [.loc 0, .d (.lst x)] [dk ds] = .ok (.d (.lst x')) [dk ds']) (hl : later.length ≤ 5000) :
    turn (tgTup [(tgName 7), (tgName 8)]) (fb_law_dressed_l2b C F) [7, 8] (.tup [.str "has", .lst x]) (Edr Q ds acc (some (.d d3)) (some (.d d4)) (some (.d d5)) (some (.loc 2)) none none (some (.lst later))) =
      .nx (Edr Q ds' acc (some (.d d3)) (some (.d d4)) (some (.d d5)) (some (.loc 2)) none none (some (.lst (later ++ [.tup [.str "has", .lst x']])))) := by
  have hs : later.length < 16777216 := by omega
  simp -implicitDefEqProofs [Edr, E_law_dressed, fb_law_dressed_l2b, hF, sizeL, hs]
def DrQ (C : Cs) (n : Nat) (q : Qn) : Prop := ∀ (Q : D) (ds : List Int) (acc : List D), acc.length + q.ds.length ≤ 5000 → ∃ q' ds', drD C (F_law_dressed C n) q.ds (Edr Q ds acc) = .nx (Edr Q ds' (acc ++ q'.ds)) ∧ LikeQ q q'
theorem dressed_of (C : Cs) (n : Nat) (q : Qn) (hq : q.ds.length ≤ 5000) (h : DrQ C n q) (ds : List Int) : ∃ q' ds', F_law_dressed C (n + 1) [.loc 0, .d (.lst q.ds)] [dk ds] = .ok (.d (.lst q'.ds)) [dk ds'] ∧ LikeQ q q' := by
  obtain ⟨q', ds', h1, h2⟩ := h (.lst q.ds) ds [] (by simp; omega)
  refine ⟨q', ds', ?_, h2⟩
  have e0 : fb_law_dressed_l1 C (F_law_dressed C n) (Edr (.lst q.ds) ds []) = .nx (Edr (.lst q.ds) ds' q'.ds) := by
    unfold fb_law_dressed_l1
    rw [sFor_eq (items := q.ds) (chk := fun _ => True) (e1 := Edr (.lst q.ds) ds []) (by simp -implicitDefEqProofs [Edr, E_law_dressed])]
    rw [List.nil_append] at h1
    exact h1
  unfold F_law_dressed
  simp -implicitDefEqProofs [Edr, E_law_dressed] at e0
  simp -implicitDefEqProofs [fb_law_dressed, env0, sizeL, e0]
mutual
theorem dr_q (C : Cs) : ∀ (q : Qn) (n : Nat), q.dp ≤ n + 1 → (wq q).length ≤ 5000 → q.five → DrQ C n q
  | .nil, n, hn, hl, h5 => by
    intro Q ds acc ha
    refine ⟨.nil, ds, ?_, fun d h => h, rfl, rfl, h5, rfl⟩
    rw [Qn.ds, List.append_nil]
    exact forD_nil trivial
  | .cons b t fs r, n, hn, hl, h5 => by
    intro Q ds acc ha
    rw [Qn.dp] at hn
    rw [Qn.five] at h5
    have hlen : (wf fs).length ≤ 5000 ∧ (wq r).length ≤ 5000 := by
      rw [wq] at hl
      simp at hl
      omega
    rw [Qn.ds, List.length_cons] at ha
    obtain ⟨fs', ds1, hf1, k1, k2, k3, k4⟩ := dr_f C fs n (by omega) hlen.1 h5.1 Q ds acc [] (.str (axisS b)) (.str (mkS t)) fs.ds (by have := Fs.ds_len fs; simp; omega)
    rw [List.nil_append] at hf1
    have ht : turn (tgTup [(tgName 3), (tgName 4), (tgName 5)]) (fb_law_dressed_l1b C (F_law_dressed C n)) [3, 4, 5, 6, 7, 8] (.tup [.str (axisS b), .str (mkS t), .lst fs.ds]) (Edr Q ds acc) = .nx (Edr Q ds1 (acc ++ [.tup [.str (axisS b), .str (mkS t), .lst fs'.ds]])) := by
      have e0 : fb_law_dressed_l2 C (F_law_dressed C n) (Edr Q ds acc (some (.d (.str (axisS b)))) (some (.d (.str (mkS t)))) (some (.d (.lst fs.ds))) (some (.loc 2)) none none (some (.lst []))) = .nx (Edr Q ds1 acc (some (.d (.str (axisS b)))) (some (.d (.str (mkS t)))) (some (.d (.lst fs.ds))) (some (.loc 2)) none none (some (.lst fs'.ds))) := by
        unfold fb_law_dressed_l2
        rw [sFor_eq (items := fs.ds) (chk := fun _ => True) (e1 := Edr Q ds acc (some (.d (.str (axisS b)))) (some (.d (.str (mkS t)))) (some (.d (.lst fs.ds))) (some (.loc 2)) none none (some (.lst []))) (by simp -implicitDefEqProofs [Edr, E_law_dressed])]
        exact hf1
      have hs : acc.length < 16777216 := by omega
      simp -implicitDefEqProofs [Edr, E_law_dressed] at e0
      simp -implicitDefEqProofs [Edr, E_law_dressed, fb_law_dressed_l1b, e0, sizeL, hs]
    obtain ⟨r', ds2, hr1, j1, j2, j3, j4, j5⟩ := dr_q C r n (by omega) hlen.2 h5.2 Q ds1 (acc ++ [.tup [.str (axisS b), .str (mkS t), .lst fs'.ds]]) (by simp; omega)
    refine ⟨.cons b t fs' r', ds2, ?_, ?_, by rw [Qn.dp, Qn.dp, k2, j2], by rw [Qn.w, Qn.w, k3, j3], by rw [Qn.five]; exact ⟨k4, j4⟩, rfl⟩
    · have e : drD C (F_law_dressed C n) (.tup [.str (axisS b), .str (mkS t), .lst fs.ds] :: r.ds) (Edr Q ds acc) = drD C (F_law_dressed C n) r.ds (Edr Q ds1 (acc ++ [.tup [.str (axisS b), .str (mkS t), .lst fs'.ds]])) := forD_nx trivial ht
      rw [Qn.ds, e, hr1, Qn.ds]
      simp
    · intro d h
      rw [Qn.ok, Bool.and_eq_true, Bool.and_eq_true] at h ⊢
      exact ⟨⟨h.1.1, k1 b d h.1.2⟩, j1 d h.2⟩
theorem dr_f (C : Cs) : ∀ (fs : Fs) (n : Nat), fs.dp ≤ n + 1 → (wf fs).length ≤ 5000 → fs.five → ∀ (Q : D) (ds : List Int) (acc later : List D) (d3 d4 : D) (xs : List D), later.length + fs.ds.length ≤ 5000 →
    ∃ fs' ds', drF C (F_law_dressed C n) fs.ds (Edr Q ds acc (some (.d d3)) (some (.d d4)) (some (.d (.lst xs))) (some (.loc 2)) none none (some (.lst later))) = .nx (Edr Q ds' acc (some (.d d3)) (some (.d d4)) (some (.d (.lst xs))) (some (.loc 2)) none none (some (.lst (later ++ fs'.ds)))) ∧ LikeF fs fs'
  | .nil, n, hn, hl, h5, Q, ds, acc, later, d3, d4, xs, ha => by
    refine ⟨.nil, ds, ?_, fun b d h => h, rfl, rfl, h5⟩
    rw [Fs.ds, List.append_nil]
    exact forD_nil trivial
  | .place m r, n, hn, hl, h5, Q, ds, acc, later, d3, d4, xs, ha => by
    rw [Fs.dp] at hn
    rw [Fs.five] at h5
    rw [Fs.ds, List.length_cons] at ha
    obtain ⟨m', ds1, hm, ht⟩ := turn_place C (F_law_dressed C n) Q ds acc later d3 d4 (.lst xs) m (by omega)
    obtain ⟨r', ds2, hr1, j1, j2, j3, j4⟩ := dr_f C r n hn (by rw [wf] at hl; simp at hl; omega) h5 Q ds1 acc (later ++ [.tup [.str "place", .int (m' : Nat)]]) d3 d4 xs (by simp; omega)
    refine ⟨.place m' r', ds2, ?_, ?_, by rw [Fs.dp, Fs.dp, j2], by rw [Fs.w, Fs.w, j3], by rw [Fs.five]; exact j4⟩
    · rw [Fs.ds, Fs.ds, show later ++ (.tup [.str "place", .int (m' : Nat)] :: r'.ds) = later ++ [.tup [.str "place", .int (m' : Nat)]] ++ r'.ds by simp, ← hr1]
      exact forD_nx trivial ht
    · intro b d h
      rw [Fs.ok, Bool.and_eq_true, Bool.and_eq_true, Bool.and_eq_true, decide_eq_true_iff, decide_eq_true_iff] at h ⊢
      obtain ⟨⟨⟨h1, h2⟩, h3⟩, h4⟩ := h
      exact ⟨⟨⟨h1, (hm ⟨h2, h3⟩).1⟩, (hm ⟨h2, h3⟩).2⟩, j1 b d h4⟩
  | .holds s r, n, hn, hl, h5, Q, ds, acc, later, d3, d4, xs, ha => by
    rw [Fs.dp] at hn
    rw [Fs.five] at h5
    rw [Fs.ds, List.length_cons] at ha
    obtain ⟨s', ds1, hm, hm5, ht⟩ := turn_holds C (F_law_dressed C n) Q ds acc later d3 d4 (.lst xs) s (by omega)
    obtain ⟨r', ds2, hr1, j1, j2, j3, j4⟩ := dr_f C r n hn (by rw [wf] at hl; simp at hl; omega) h5.2 Q ds1 acc (later ++ [.tup [.str "holds", .str (mkS s')]]) d3 d4 xs (by simp; omega)
    refine ⟨.holds s' r', ds2, ?_, ?_, by rw [Fs.dp, Fs.dp, j2], by rw [Fs.w, Fs.w, j3], by rw [Fs.five]; exact ⟨hm5 h5.1, j4⟩⟩
    · rw [Fs.ds, Fs.ds, show later ++ (.tup [.str "holds", .str (mkS s')] :: r'.ds) = later ++ [.tup [.str "holds", .str (mkS s')]] ++ r'.ds by simp, ← hr1]
      exact forD_nx trivial ht
    · intro b d h
      rw [Fs.ok, Bool.and_eq_true] at h ⊢
      exact ⟨hm h.1, j1 b d h.2⟩
  | .has q r, n, hn, hl, h5, Q, ds, acc, later, d3, d4, xs, ha => by
    rw [Fs.dp] at hn
    rw [Fs.five] at h5
    rw [Fs.ds, List.length_cons] at ha
    have hdp := dp_pos q
    obtain ⟨n, rfl⟩ : ∃ g, n = g + 1 := ⟨n - 1, by omega⟩
    have hl' : (wq q).length ≤ 5000 ∧ (wf r).length ≤ 5000 := by rw [wf] at hl; simp at hl; omega
    have hql := Qn.ds_len q
    obtain ⟨q', ds1, hq1, i1, i2, i3, i4, i5⟩ := dressed_of C n q (by omega) (dr_q C q n (by omega) hl'.1 h5.1) ds
    have ht := turn_has C (F_law_dressed C (n + 1)) Q ds acc later d3 d4 (.lst xs) q.ds q'.ds ds1 hq1 (by omega)
    obtain ⟨r', ds2, hr1, j1, j2, j3, j4⟩ := dr_f C r (n + 1) (by omega) hl'.2 h5.2 Q ds1 acc (later ++ [.tup [.str "has", .lst q'.ds]]) d3 d4 xs (by simp; omega)
    refine ⟨.has q' r', ds2, ?_, ?_, by rw [Fs.dp, Fs.dp, i2, j2], by rw [Fs.w, Fs.w, i3, j3], by rw [Fs.five]; exact ⟨i4, j4⟩⟩
    · rw [Fs.ds, Fs.ds, show later ++ (.tup [.str "has", .lst q'.ds] :: r'.ds) = later ++ [.tup [.str "has", .lst q'.ds]] ++ r'.ds by simp, ← hr1]
      exact forD_nx trivial ht
    · intro b d h
      rw [Fs.ok, Bool.and_eq_true, Bool.and_eq_true, Bool.and_eq_true] at h ⊢
      rw [i5]
      exact ⟨⟨h.1.1, i1 (d + 1) h.1.2⟩, j1 b d h.2⟩
end
theorem law_dressed_ok (C : Cs) (q : Qn) (n : Nat) (hn : q.dp ≤ n + 1) (hl : (wq q).length ≤ 5000) (h5 : q.five) (ds : List Int) : ∃ q' ds', F_law_dressed C (n + 1) [.loc 0, .d (.lst q.ds)] [dk ds] = .ok (.d (.lst q'.ds)) [dk ds'] ∧ LikeQ q q' :=
  dressed_of C n q (by have := Qn.ds_len q; omega) (dr_q C q n hn hl h5) ds
end Tp
end
section
set_option Elab.async false
set_option linter.all false
set_option maxRecDepth 100000
set_option maxHeartbeats 8000000
namespace Tp
open PySem L2 Dl
/-! questions with one improper step -/
abbrev ftg : Tg := tgTup [(tgName 2), (tgName 3), (tgName 4)]
def BadT (C : Cs) (F : Fd) (bad : D) : Prop := ∀ Q : D, ∃ x2 x3 x4, turn ftg (fb_has_form_l1b C F) [2, 3, 4, 5] bad (Ehf Q 1) = .rt (.d (.bl false)) (Ehf Q 1 x2 x3 x4)
theorem bad_of (C : Cs) (F : Fd) (b : Bool) (t : List Nat) (xs : List D) (bs : List Bool) (ht : t.length ≤ 5000) (hn : xs.length ≤ 5000) (hl : bs.length = xs.length)
    (h : ∀ (i : Nat) (x : D) (k : Bool), xs[i]? = some x → bs[i]? = some k → F_is_filter C F [.d x, .d (.str (axisS b)), .d (.int 1)] [] = .ok (.d (.bl k)) []) (hb : (testOk t && bs.all id) = false) : BadT C F (.tup [.str (axisS b), .str (mkS t), .lst xs]) := fun Q => by
  have := form_turn C F Q 1 b t xs bs ht hn hl h
  rw [hb, if_neg (by decide)] at this
  exact this
theorem bad_one (C : Cs) (F : Fd) (b : Bool) (x : D) (h : F_is_filter C F [.d x, .d (.str (axisS b)), .d (.int 1)] [] = .ok (.d (.bl false)) []) : BadT C F (.tup [.str (axisS b), .str (mkS [97]), .lst [x]]) :=
  bad_of C F b [97] [x] [false] (by decide) (by simp) rfl (fun i y k h1 h2 => by
    cases i with
    | zero => cases h1; cases h2; exact h
    | succ i => simp at h1) rfl
theorem bad_name (C : Cs) (F : Fd) (t : List Nat) (ht : t.length ≤ 5000) (h : testOk t = false) : BadT C F (.tup [.str "child", .str (mkS t), .lst []]) :=
  bad_of C F false t [] [] ht (by simp) rfl (fun i y k h1 h2 => by simp at h1) (by rw [h]; rfl)
abbrev Lbad : List D := [.tup [.str "above", .str "a", .lst []], .tup [.str "child", .str "A", .lst []], .tup [.str "child", .str "", .lst []], .tup [.str "child", .str "a", .lst [.tup [.str "place", .int 0]]],
  .tup [.str "child", .str "a", .lst [.tup [.str "place", .int 5001]]], .tup [.str "below", .str "a", .lst [.tup [.str "place", .int 1]]], .tup [.str "child", .str "a", .lst [.tup [.str "holds", .str ""]]],
  .tup [.str "child", .str "a", .lst [.tup [.str "holds", .str (repS "x" 41)]]], .tup [.str "child", .str "a", .lst [.tup [.str "holds", .str "\t"]]], .tup [.str "child", .str "a", .lst [.tup [.str "near", .str "a"]]],
  .tup [.str "child", .str "a", .lst [.tup [.str "has", .lst []]]], .tup [.str "child", .str "abcdefghijklm", .lst []], .tup [.str "child", .str "**", .lst []]]
theorem lit_a : ("a" : Str) = mkS [97] := by decide +kernel
theorem bads (C : Cs) (n : Nat) : ∀ bad ∈ Lbad, BadT C (F_has_form C (n + 1)) bad := by
  have ax0 : ("child" : Str) = axisS false := rfl
  have ax1 : ("below" : Str) = axisS true := rfl
  intro bad hb
  simp only [List.mem_cons, List.not_mem_nil, or_false] at hb
  rcases hb with rfl | rfl | rfl | rfl | rfl | rfl | rfl | rfl | rfl | rfl | rfl | rfl | rfl
  · intro Q
    have ai : (("above" : Str) == "child" || ("above" : Str) == "below") = false := by decide +kernel
    refine ⟨some (.d (.str "above")), some (.d (.str "a")), some (.d (.lst [])), ?_⟩
    simp -implicitDefEqProofs [Ehf, E_has_form, fb_has_form_l1b, notInB, inB, sizeL, ai]
  · rw [show ("A" : Str) = mkS [65] by decide +kernel]
    exact bad_name C _ [65] (by decide) rfl
  · rw [show ("" : Str) = mkS [] by decide +kernel]
    exact bad_name C _ [] (by decide) rfl
  · rw [lit_a, ax0]
    exact bad_one C _ false _ (filt_place C _ false 1 0)
  · rw [lit_a, ax0]
    exact bad_one C _ false _ (filt_place C _ false 1 5001)
  · rw [lit_a, ax1]
    exact bad_one C _ true _ (filt_place C _ true 1 1)
  · rw [lit_a, ax0, show ("" : Str) = mkS [] by decide +kernel]
    exact bad_one C _ false _ (filt_holds C _ false 1 [] (by decide))
  · rw [lit_a, ax0, show repS "x" 41 = mkS (List.replicate 41 120) by decide +kernel]
    have e : strgOk (List.replicate 41 120) = false := by decide +kernel
    have := filt_holds C (F_has_form C (n + 1)) false 1 (List.replicate 41 120) (by rw [List.length_replicate]; omega)
    rw [e] at this
    exact bad_one C _ false _ this
  · rw [lit_a, ax0, show ("\t" : Str) = mkS [9] by decide +kernel]
    exact bad_one C _ false _ (filt_holds C _ false 1 [9] (by decide))
  · rw [lit_a, ax0]
    refine bad_one C _ false _ ?_
    have e1 : (("near" : Str) == "place") = false := by decide +kernel
    have e2 : (("near" : Str) == "has") = false := by decide +kernel
    have e3 : (("near" : Str) == "holds") = false := by decide +kernel
    simp -implicitDefEqProofs [F_is_filter, fb_is_filter, env0, ixDD, e1, e2, e3]
  · rw [lit_a, ax0]
    refine bad_one C _ false _ (filt_has C _ false 1 [] false ?_)
    have := has_form_of C n 2 [] (by simp) true (fun _ h => absurd rfl h)
    exact this
  · rw [show ("abcdefghijklm" : Str) = mkS [97, 98, 99, 100, 101, 102, 103, 104, 105, 106, 107, 108, 109] by decide +kernel]
    exact bad_name C _ _ (by decide) rfl
  · rw [show ("**" : Str) = mkS [42, 42] by decide +kernel]
    exact bad_name C _ [42, 42] (by decide) rfl
def Qn.take : Nat → Qn → Qn
  | 0, _ => .nil
  | _ + 1, .nil => .nil
  | n + 1, .cons b t fs r => .cons b t fs (r.take n)
theorem Qn.take_ds : ∀ (n : Nat) (q : Qn), (q.take n).ds = q.ds.take n
  | 0, q => by rw [Qn.take, Qn.ds, List.take_zero]
  | n + 1, .nil => by rw [Qn.take, Qn.ds, List.take_nil]
  | n + 1, .cons b t fs r => by rw [Qn.take, Qn.ds, Qn.ds, List.take_succ_cons, Qn.take_ds n r]
theorem Qn.take_ok (d : Nat) : ∀ (n : Nat) (q : Qn), q.ok d = true → (q.take n).ok d = true
  | 0, q, h => by rw [Qn.take, Qn.ok]
  | n + 1, .nil, h => h
  | n + 1, .cons b t fs r, h => by
    rw [Qn.ok, Bool.and_eq_true] at h
    rw [Qn.take, Qn.ok, h.1, Qn.take_ok d n r h.2]
    rfl
theorem Qn.take_len : ∀ (n : Nat) (q : Qn), (wq (q.take n)).length ≤ (wq q).length
  | 0, q => by rw [Qn.take, wq]; exact Nat.zero_le _
  | n + 1, .nil => Nat.le_refl _
  | n + 1, .cons b t fs r => by
    have := Qn.take_len n r
    rw [Qn.take, wq, wq]
    simp only [List.length_append]
    omega
/-- a list with an improper step is not proper -/
theorem not_proper (C : Cs) (q : Qn) (hok : q.ok 1 = true) (hl : (wq q).length ≤ 4000) (bad : D) (hb : bad ∈ Lbad) (k : Nat) : F_is_proper C [.d (.lst (q.ds.take k ++ [bad] ++ q.ds.drop k))] [] = .ok (.d (.bl false)) [] := by
  have hq := Qn.ds_len q
  have hL : (q.ds.take k ++ [bad] ++ q.ds.drop k).length ≤ 5000 := by
    simp only [List.length_append, List.length_take, List.length_drop, List.length_singleton]; omega
  have h1 := has_form_of C 4 1 (q.ds.take k ++ [bad] ++ q.ds.drop k) hL false (fun _ _ => by
    rw [if_neg (by decide)]
    have f := form_q C (q.take k) 4 1 (.lst (q.ds.take k ++ [bad] ++ q.ds.drop k)) ([bad] ++ q.ds.drop k) (by omega) (by omega) (by have := Qn.take_len k q; omega)
    unfold HfR at f
    rw [if_pos (Qn.take_ok 1 k q hok), Qn.take_ds, ← List.append_assoc] at f
    have f2 := f
    obtain ⟨x2, x3, x4, ht⟩ := bads C 3 bad hb (.lst (q.ds.take k ++ [bad] ++ q.ds.drop k))
    refine ⟨x2, x3, x4, ?_⟩
    have e : hfD C (F_has_form C 4) ([bad] ++ q.ds.drop k) (Ehf (.lst (q.ds.take k ++ [bad] ++ q.ds.drop k)) ((1 : Nat) : Int)) = .rt (.d (.bl false)) (Ehf (.lst (q.ds.take k ++ [bad] ++ q.ds.drop k)) ((1 : Nat) : Int) x2 x3 x4) := forD_rt trivial ht
    rw [f2, e])
  rw [Bool.and_false] at h1
  have h1 : F_has_form C 5 [.d (.lst (q.ds.take k ++ [bad] ++ q.ds.drop k)), .d (.int 1)] [] = .ok (.d (.bl false)) [] := h1
  generalize q.ds.take k ++ [bad] ++ q.ds.drop k = L at *
  simp -implicitDefEqProofs [F_is_proper, fb_is_proper, env0, h1]
theorem improper_ok (C : Cs) (q : Qn) (hl : (wq q).length ≤ 4000) (ds : List Int) : ∃ bad k ds', bad ∈ Lbad ∧ F_law_improper C [.loc 0, .d (.lst q.ds)] [dk ds] = .ok (.d (.lst (q.ds.take k ++ [bad] ++ q.ds.drop k))) [dk ds'] := by
  have hq := Qn.ds_len q
  have t1 := take35_ok C ds (n := q.ds.length + 1) (by omega)
  obtain ⟨k, hk, hv1⟩ := tv_nat ds (n := q.ds.length + 1) (by omega)
  rw [hv1] at t1
  have t2 := take35_ok C (tn ds) (n := 13) (by omega)
  obtain ⟨j, hj, hv2⟩ := tv_nat (tn ds) (n := 13) (by omega)
  rw [hv2] at t2
  simp -implicitDefEqProofs at t1 t2
  have hL : j < Lbad.length := hj
  have hx : atI Lbad (j : Int) = some Lbad[j] := by rw [Dl.atI_nat, List.getElem?_eq_getElem hL]
  have hm : Lbad[j] ∈ Lbad := List.getElem_mem hL
  generalize Lbad[j] = bad at hx hm
  refine ⟨bad, k, tn (tn ds), hm, ?_⟩
  have c1 : CRepS "x" 41 := by decide +kernel
  have s1 : cutL q.ds none (some (k : Int)) = q.ds.take k := cutL_to _ _
  have s2 : cutL q.ds (some (k : Int)) none = q.ds.drop k := cutL_from _ _
  have n1 : (q.ds.take k).length ≤ 5000 := by rw [List.length_take]; omega
  have n2 : (q.ds.drop k).length ≤ 5000 := by rw [List.length_drop]; omega
  have n3 : q.ds.length ≤ 16777216 := by omega
  simp -implicitDefEqProofs only [Lbad] at hx
  generalize hA : q.ds.take k = A at *
  generalize hB : q.ds.drop k = B at *
  have n4 : A.length + 1 ≤ 16777216 := by omega
  have n5 : A.length + (B.length + 1) ≤ 16777216 := by omega
  have n6 : A.length + 1 + B.length ≤ 16777216 := by omega
  simp -implicitDefEqProofs [F_law_improper, fb_law_improper, env0, sizeL, c1, t1, t2, hx, ixDD, n3, s1, s2, n4, n5, n6]
end Tp
end
section
set_option Elab.async false
set_option linter.all false
set_option maxRecDepth 100000
set_option maxHeartbeats 8000000
namespace Tp
open PySem L2 Dl
theorem nx_col : (("column" : Str) = "reason") = False := eq_false (by decide +kernel)
theorem told35_ok (C : Cs) (z : Str) (hz : z.length ≤ 5000) : F_law_told_k35 C [.d (.str z)] [] = .ok (.d (match readP (ch z) with | .inr v => v | .inl (p, x) => .tup [.str "error", .int ((p : Int) + 1), .str x.s])) [] := by
  have h := read_question_ok C z hz
  cases hr : readP (ch z) with
  | inr v =>
    rw [hr] at h
    dsimp only at h ⊢
    simp -implicitDefEqProofs [F_law_told_k35, fb_law_told_k35, env0, h]
  | inl q =>
    obtain ⟨p, x⟩ := q
    rw [hr] at h
    dsimp only at h ⊢
    simp -implicitDefEqProofs [F_law_told_k35, fb_law_told_k35, env0, h, lookup_if, nx_col, sizeL]
/-! equal to itself -/
theorem okS (l : List Nat) (h : l.all (fun c => decide (c < 1114112)) = true) : PyData.strOk (mkS l) = true := by
  unfold PyData.strOk
  show (mkS l).cps.all _ = true
  rw [← Array.all_toList]
  have : (mkS l).cps.toList = l := mkS_ch l
  rw [this]
  exact h
theorem ok_t {t : List Nat} (h : testOk t = true) : PyData.strOk (mkS t) = true := by
  apply okS
  unfold testOk at h
  rw [Bool.or_eq_true, Bool.or_eq_true, beq_iff_eq, beq_iff_eq, Bool.and_eq_true, Bool.and_eq_true] at h
  rcases h with (rfl | rfl) | h
  · rfl
  · rfl
  · rw [List.all_eq_true] at h ⊢
    intro c hc
    have := h.2 c hc
    unfold isLet at this
    simp at this ⊢
    omega
theorem ok_s {t : List Nat} (h : strgOk t = true) : PyData.strOk (mkS t) = true := by
  apply okS
  unfold strgOk at h
  rw [Bool.and_eq_true] at h
  rw [List.all_eq_true] at h ⊢
  intro c hc
  have := h.2 c hc
  unfold isSgn at this
  simp at this ⊢
  omega
theorem ok_ax (b : Bool) : PyData.strOk (axisS b) = true := by cases b <;> decide +kernel
theorem ok_pl : PyData.strOk "place" = true ∧ PyData.strOk "holds" = true ∧ PyData.strOk "has" = true := ⟨by decide +kernel, by decide +kernel, by decide +kernel⟩
theorem fdp_pos (fs : Fs) : 1 ≤ fs.dp := Fs.rec (motive_1 := fun x => 1 ≤ x.dp) (motive_2 := fun x => 1 ≤ x.dp) (by rw [Qn.dp]; omega) (fun _ _ _ _ h1 h2 => by rw [Qn.dp]; omega) (by rw [Fs.dp]; omega) (fun _ _ h => by rw [Fs.dp]; omega) (fun _ _ h => by rw [Fs.dp]; omega) (fun _ _ h1 h2 => by rw [Fs.dp]; omega) fs
mutual
theorem okN_q : ∀ (q : Qn) (d n : Nat), q.ok d = true → 4 * q.dp ≤ n → okNs n q.ds = true
  | .nil, d, n, h, hn => by rw [Qn.ds]; exact okNs_nil
  | .cons b t fs r, d, n, h, hn => by
    rw [Qn.ok, Bool.and_eq_true, Bool.and_eq_true] at h
    rw [Qn.dp] at hn
    have hp := dp_pos r
    have hf := okN_f fs b d (n - 2) h.1.2 (by omega)
    have hr := okN_q r d n h.2 (by omega)
    rw [Qn.ds, okNs_cons, hr, okN_tup, okNs_cons, okNs_cons, okNs_cons, okNs_nil, okN_str, okN_str, okN_lst, ok_ax, ok_t h.1.1, show n - 1 - 1 = n - 2 by omega, hf, decide_eq_true (show 0 < n by omega), decide_eq_true (show 0 < n - 1 by omega)]
    rfl
theorem okN_f : ∀ (fs : Fs) (b : Bool) (d n : Nat), fs.ok b d = true → 4 * fs.dp ≤ n + 2 → okNs n fs.ds = true
  | .nil, b, d, n, h, hn => by rw [Fs.ds]; exact okNs_nil
  | .place m r, b, d, n, h, hn => by
    rw [Fs.ok, Bool.and_eq_true] at h
    rw [Fs.dp] at hn
    have hp := fdp_pos r
    have hr := okN_f r b d n h.2 hn
    rw [Fs.ds, okNs_cons, hr, okN_tup, okNs_cons, okNs_cons, okNs_nil, okN_str, okN_int, ok_pl.1, decide_eq_true (show 0 < n by omega)]
    rfl
  | .holds s r, b, d, n, h, hn => by
    rw [Fs.ok, Bool.and_eq_true] at h
    rw [Fs.dp] at hn
    have hp := fdp_pos r
    have hr := okN_f r b d n h.2 hn
    rw [Fs.ds, okNs_cons, hr, okN_tup, okNs_cons, okNs_cons, okNs_nil, okN_str, okN_str, ok_pl.2.1, ok_s h.1, decide_eq_true (show 0 < n by omega)]
    rfl
  | .has q r, b, d, n, h, hn => by
    rw [Fs.ok, Bool.and_eq_true, Bool.and_eq_true] at h
    rw [Fs.dp] at hn
    have hp := dp_pos q
    have hq := okN_q q (d + 1) (n - 2) h.1.2 (by omega)
    have hr := okN_f r b d n h.2 (by omega)
    rw [Fs.ds, okNs_cons, hr, okN_tup, okNs_cons, okNs_cons, okNs_nil, okN_str, okN_lst, ok_pl.2.2, show n - 1 - 1 = n - 2 by omega, hq, decide_eq_true (show 0 < n by omega), decide_eq_true (show 0 < n - 1 by omega)]
    rfl
end
theorem dp_of_ok : ∀ (k : Nat) (q : Qn) (d : Nat), 3 - d ≤ k → q.ok d = true → q.dp ≤ k + 1 := by
  intro k q
  have key : (∀ q : Qn, ∀ d k, 3 - d ≤ k → q.ok d = true → q.dp ≤ k + 1) := fun q => by
    refine Qn.rec (motive_1 := fun q => ∀ d k, 3 - d ≤ k → q.ok d = true → q.dp ≤ k + 1) (motive_2 := fun fs => ∀ b d k, 3 - d ≤ k → fs.ok b d = true → fs.dp ≤ k + 1) ?_ ?_ ?_ ?_ ?_ ?_ q
    · intro d k _ _; rw [Qn.dp]; omega
    · intro b t fs r h1 h2 d k hk h
      rw [Qn.ok, Bool.and_eq_true, Bool.and_eq_true] at h
      have := h1 b d k hk h.1.2
      have := h2 d k hk h.2
      rw [Qn.dp]; omega
    · intro b d k _ _; rw [Fs.dp]; omega
    · intro n r h1 b d k hk h
      rw [Fs.ok, Bool.and_eq_true] at h
      rw [Fs.dp]; exact h1 b d k hk h.2
    · intro n r h1 b d k hk h
      rw [Fs.ok, Bool.and_eq_true] at h
      rw [Fs.dp]; exact h1 b d k hk h.2
    · intro q r h1 h2 b d k hk h
      rw [Fs.ok, Bool.and_eq_true, Bool.and_eq_true, Bool.and_eq_true, decide_eq_true_iff] at h
      have := h1 (d + 1) (k - 1) (by omega) h.1.2
      have := h2 b d k hk h.2
      rw [Fs.dp]; omega
  exact fun d => key q d k



/-! the turns -/
@[simp] abbrev E35 (S Q T P : D) (ds : List Int) (r : Option W := some (.loc 0)) (c0 : Option Cell := some (dk ds)) : Dl.Env := E_law_k35 (x_script := some (.d S)) (x_row := r) (x_question_here := some (.d Q)) (x_text := some (.d T)) (x_deep := some (.d P)) (c0 := c0)
theorem k35_turn (C : Cs) (S Q P : D) (w : List Nat) (hw : w.length ≤ 4990) (ds : List Int) (i : Int) : ∃ w' ds', w'.length ≤ w.length + 1 ∧ turn (tgName 5) (fb_law_k35_l1b C) [5, 6, 7, 8] (.int i) (E35 S Q (.str (mkS w)) P ds) = .nx (E35 S Q (.str (mkS w')) P ds') := by
  have t1 := take35_ok C ds (n := w.length + 1) (by omega)
  obtain ⟨k, hk, hv1⟩ := tv_nat ds (n := w.length + 1) (by omega)
  rw [hv1] at t1
  have t2 := take35_ok C (tn ds) (n := 12) (by omega)
  obtain ⟨j, hj, hv2⟩ := tv_nat (tn ds) (n := 12) (by omega)
  rw [hv2] at t2
  have t3 := take35_ok C (tn (tn ds)) (n := 3) (by omega)
  obtain ⟨u, hu, hv3⟩ := tv_nat (tn (tn ds)) (n := 3) (by omega)
  rw [hv3] at t3
  simp -implicitDefEqProofs at t1 t2 t3
  obtain ⟨c, hc⟩ : ∃ c : Nat, atI [D.str "/", D.str "[", D.str "]", D.str "\"", D.str "\\", D.str "a", D.str "*", D.str "#", D.str "3", D.str "0", D.str "n", D.str " "] (j : Int) = some (.str (mkS [c])) := by
    rcases (show j = 0 ∨ j = 1 ∨ j = 2 ∨ j = 3 ∨ j = 4 ∨ j = 5 ∨ j = 6 ∨ j = 7 ∨ j = 8 ∨ j = 9 ∨ j = 10 ∨ j = 11 by omega) with rfl | rfl | rfl | rfl | rfl | rfl | rfl | rfl | rfl | rfl | rfl | rfl
    · exact ⟨47, congrArg (fun s => some (D.str s)) (show ("/" : Str) = mkS [47] by decide +kernel)⟩
    · exact ⟨91, congrArg (fun s => some (D.str s)) (show ("[" : Str) = mkS [91] by decide +kernel)⟩
    · exact ⟨93, congrArg (fun s => some (D.str s)) (show ("]" : Str) = mkS [93] by decide +kernel)⟩
    · exact ⟨34, congrArg (fun s => some (D.str s)) (show ("\"" : Str) = mkS [34] by decide +kernel)⟩
    · exact ⟨92, congrArg (fun s => some (D.str s)) (show ("\\" : Str) = mkS [92] by decide +kernel)⟩
    · exact ⟨97, congrArg (fun s => some (D.str s)) (show ("a" : Str) = mkS [97] by decide +kernel)⟩
    · exact ⟨42, congrArg (fun s => some (D.str s)) (show ("*" : Str) = mkS [42] by decide +kernel)⟩
    · exact ⟨35, congrArg (fun s => some (D.str s)) (show ("#" : Str) = mkS [35] by decide +kernel)⟩
    · exact ⟨51, congrArg (fun s => some (D.str s)) (show ("3" : Str) = mkS [51] by decide +kernel)⟩
    · exact ⟨48, congrArg (fun s => some (D.str s)) (show ("0" : Str) = mkS [48] by decide +kernel)⟩
    · exact ⟨110, congrArg (fun s => some (D.str s)) (show ("n" : Str) = mkS [110] by decide +kernel)⟩
    · exact ⟨32, congrArg (fun s => some (D.str s)) (show (" " : Str) = mkS [32] by decide +kernel)⟩
  have m0 := mkS_len w
  have s1 : cutS (mkS w) none (some (k : Int)) = mkS (w.take k) := by
    rw [cutS_cut, mkS_ch, cutL_to]; rfl
  have s2 : cutS (mkS w) (some (k : Int)) none = mkS (w.drop k) := by
    rw [cutS_cut, mkS_ch, cutL_from]; rfl
  have s3 : cutS (mkS w) (some ((k : Int) + 1)) none = mkS (w.drop (k + 1)) := by
    rw [cutS_cut, mkS_ch, show (k : Int) + 1 = ((k + 1 : Nat) : Int) by omega, cutL_from]; rfl
  have a1 := mkS_app (w.take k) [c]
  have a2 := mkS_app (w.take k ++ [c]) (w.drop k)
  have a3 := mkS_app (w.take k) (w.drop (k + 1))
  have a4 := mkS_app (w.take k ++ [c]) (w.drop (k + 1))
  have l1 := mkS_len (w.take k)
  have l2 := mkS_len (w.drop k)
  have l3 := mkS_len (w.drop (k + 1))
  have l4 := mkS_len (w.take k ++ [c])
  rw [List.length_append, List.length_singleton] at l4
  have l5 := mkS_len1 c
  have n1 : (w.take k).length = k := by rw [List.length_take]; omega
  have n2 : (w.drop k).length = w.length - k := by rw [List.length_drop]
  have n3 : (w.drop (k + 1)).length = w.length - (k + 1) := by rw [List.length_drop]
  rw [n1] at l1 l4
  rw [n2] at l2
  rw [n3] at l3
  have hw0 : w.length ≤ 16777216 := by omega
  -- what the new text is
  obtain ⟨w', hw', hu'⟩ : ∃ w', w'.length ≤ w.length + 1 ∧ atI [D.str (mkS (w.take k ++ [c] ++ w.drop k)), D.str (mkS (w.take k ++ w.drop (k + 1))), D.str (mkS (w.take k ++ [c] ++ w.drop (k + 1)))] (u : Int) = some (.str (mkS w')) := by
    rcases (show u = 0 ∨ u = 1 ∨ u = 2 by omega) with rfl | rfl | rfl
    · exact ⟨_, by simp only [List.length_append, List.length_singleton, n1, n2]; omega, rfl⟩
    · exact ⟨_, by simp only [List.length_append, n1, n3]; omega, rfl⟩
    · exact ⟨_, by simp only [List.length_append, List.length_singleton, n1, n3]; omega, rfl⟩
  have q1 : k + 1 ≤ 16777216 := by omega
  have q2 : k + 1 + (w.length - k) ≤ 16777216 := by omega
  have q3 : k + (w.length - (k + 1)) ≤ 16777216 := by omega
  have q4 : k + 1 + (w.length - (k + 1)) ≤ 16777216 := by omega
  generalize w.take k ++ [c] = x1 at *
  generalize hy1 : x1 ++ w.drop k = y1 at *
  generalize hy2 : w.take k ++ w.drop (k + 1) = y2 at *
  generalize hy3 : x1 ++ w.drop (k + 1) = y3 at *
  generalize w.take k = z1 at *
  generalize w.drop k = z2 at *
  generalize w.drop (k + 1) = z3 at *
  have m1 := mkS_len w'
  have htold := told35_ok C (mkS w') (by rw [m1]; omega)
  rw [mkS_ch] at htold
  have hw1 : w'.length ≤ 16777216 := by omega
  refine ⟨w', tn (tn (tn ds)), hw', ?_⟩
  cases hr : readP w' with
  | inl px =>
    obtain ⟨p, x⟩ := px
    rw [hr] at htold
    dsimp only at htold
    have hp := read_pos hr
    have p1 : (0 : Int) ≤ p := by omega
    have p2 : (p : Int) ≤ w'.length := by omega
    have p3 : (1 : Int) ≤ (p : Int) + 1 := by omega
    have p4 : (p : Int) + 1 ≤ (w'.length : Int) + 1 := by omega
    have kk1 : kitB "tuple" "list" = some false := by decide +kernel
    have kk2 : kitB "str" "str" = some true := by decide +kernel
    simp -implicitDefEqProofs [E35, E_law_k35, fb_law_k35_l1b, m0, hw0, sizeL, t1, t2, t3, hc, ixDD, s1, s2, s3, a1, a2, a3, a4, l1, l2, l3, l4, l5, q1, q2, q3, q4, hu', htold, m1, hw1, p1, p2, p3, p4, kk1, kk2]
  | inr v =>
    rw [hr] at htold
    dsimp only at htold
    obtain ⟨q, rfl, hq2, hq3, hq4, hq5⟩ := write_read hr
    have hdp := dp_of_ok 2 q 1 (by omega) hq4
    have hpr := is_proper_ok C q (by omega) (by rw [← hq2]; omega)
    have hwr := write_question_ok C q 4 1 hq4 (by omega) (by rw [← hq2]; omega)
    rw [← hq2] at hwr
    have hform : form 1 q = true := by unfold form; rw [hq3, hq4]; rfl
    rw [hform, decide_eq_true hq5] at hpr
    have kk1 : kitB "list" "list" = some true := by decide +kernel
    simp -implicitDefEqProofs at hwr hpr
    simp -implicitDefEqProofs [E35, E_law_k35, fb_law_k35_l1b, m0, hw0, sizeL, t1, t2, t3, hc, ixDD, s1, s2, s3, a1, a2, a3, a4, l1, l2, l3, l4, l5, q1, q2, q3, q4, hu', htold, m1, hw1, kk1, hpr, hwr]
theorem k35_t1 (C : Cs) (S Q P : D) (w : List Nat) (hw : w.length ≤ 4900) (ds : List Int) : mfK (fb_law_k35_t1 C (E35 S Q (.str (mkS w)) P ds)) 0 0 = .ok (.d (.bl true)) [] := by
  obtain ⟨⟨w', ds'⟩, h1, h2⟩ : ∃ s : List Nat × List Int, fb_law_k35_l1 C (E35 S Q (.str (mkS w)) P ds) = .nx (E35 S Q (.str (mkS s.1)) P s.2) ∧ s.1.length ≤ w.length + (rangeL 0 4).length ∧ (rangeL 0 4).length ≤ 4 := by
    unfold fb_law_k35_l1
    refine for_i (it := iRg1 (eC (.int 4))) (g := tgName 5) (fg := [5, 6, 7, 8]) (body := fb_law_k35_l1b C) (items := rangeL 0 4) (chk := fun _ => True) (S := List Nat × List Int)
      (fun s => E35 S Q (.str (mkS s.1)) P s.2) (fun i s => s.1.length ≤ w.length + i ∧ i ≤ 4) (w, ds) (by simp -implicitDefEqProofs [E35, E_law_k35]) ⟨Nat.le_refl _, by omega⟩ (fun i x ⟨w1, d1⟩ hx hi => ⟨trivial, by
        obtain ⟨hi2, rfl⟩ := rangeL_at hx
        obtain ⟨i1, i2⟩ := hi
        dsimp only at i1 ⊢
        obtain ⟨w2, d2, g1, g2⟩ := k35_turn C S Q P w1 (by omega) d1 (i : Nat)
        exact ⟨(w2, d2), g2, by show w2.length ≤ _; omega, by omega⟩⟩) (fun _ _ => trivial)
  simp -implicitDefEqProofs [E35, E_law_k35] at h1
  simp -implicitDefEqProofs [E35, E_law_k35, fb_law_k35_t1, h1]
def deepQ : Qn := .cons false [97] (.has (.cons false [97] (.has (.cons false [97] (.has (.cons false [97] .nil .nil) .nil) .nil) .nil) .nil) .nil) .nil
theorem deepQ_ds : deepQ.ds = [.tup [.str "child", .str "a", .lst [.tup [.str "has", .lst [.tup [.str "child", .str "a", .lst [.tup [.str "has", .lst [.tup [.str "child", .str "a", .lst [.tup [.str "has", .lst [.tup [.str "child", .str "a", .lst []]]]]]]]]]]]]]] := by
  rw [lit_a]
  unfold deepQ
  simp only [Qn.ds, Fs.ds]
  rfl
@[simp] abbrev F35 (S Q T : D) (ds : List Int) : Dl.Env := E_law_k35 (x_script := some (.d S)) (x_row := some (.loc 0)) (x_question_here := some (.d Q)) (x_text := some (.d T)) (c0 := some (dk ds))
theorem k35_t2 (C : Cs) (S : D) (q : Qn) (hok : q.ok 1 = true) (hl : (wq q).length ≤ 4000) (ds : List Int) : mfK (fb_law_k35_t2 C (F35 S (.lst q.ds) (.str (mkS (wq q))) ds)) 0 0 = .ok (.d (.bl true)) [] := by
  obtain ⟨bad, k, ds', hb, h1⟩ := improper_ok C q hl ds
  have h2 := not_proper C q hok hl bad hb k
  have h3 := is_proper_ok C deepQ (by decide) (by decide)
  have h4 := is_proper_ok C .nil (by decide) (by decide)
  rw [show form 1 deepQ = false by decide, deepQ_ds] at h3
  rw [show form 1 Qn.nil = false by decide, Qn.ds] at h4
  have tl := k35_t1 C S (.lst q.ds) (.lst deepQ.ds) (wq q) (by omega) ds'
  rw [deepQ_ds] at tl
  generalize q.ds.take k ++ [bad] ++ q.ds.drop k = L at *
  simp -implicitDefEqProofs [E35, E_law_k35] at tl
  simp -implicitDefEqProofs only [Bool.false_and] at h3 h4
  simp -implicitDefEqProofs [F35, E_law_k35, fb_law_k35_t2, sizeL, h1, h2, h3, h4, tl]
theorem k35_t3 (C : Cs) (S : D) (q : Qn) (hN : q.isN = false) (hok : q.ok 1 = true) (hc : q.cnt ≤ 12) (hl : (wq q).length ≤ 4000) (ds : List Int) (T : Option W) : mfK (fb_law_k35_t3 C (E_law_k35 (x_script := some (.d S)) (x_row := some (.loc 0)) (x_question_here := some (.d (.lst q.ds))) (c0 := some (dk ds)))) 0 0 = .ok (.d (.bl true)) [] := by
  have hdp := dp_of_ok 2 q 1 (by omega) hok
  have h1 := law_written_ok C q 4 1 hok (by omega) (by omega)
  have h2 := is_proper_ok C q (by omega) (by omega)
  have h3 := write_question_ok C q 4 1 hok (by omega) (by omega)
  have h4 := read_question_ok C (mkS (wq q)) (by rw [mkS_len]; omega)
  rw [mkS_ch, read_write hN hok hc] at h4
  dsimp only at h4
  rw [show form 1 q = true by unfold form; rw [hN, hok]; rfl, decide_eq_true hc] at h2
  have h5 : okN 64 (.lst q.ds) = true := by
    rw [okN_lst, okN_q q 1 63 hok (by omega)]
    rfl
  have h6 := eqvD_self h5
  have tl := k35_t2 C S q hok hl ds
  have e5 : eqB (.lst q.ds) (.lst q.ds) = some true := by
    rw [eqB_lst, h5, h6]
    rfl
  simp -implicitDefEqProofs [F35, E_law_k35] at tl
  simp -implicitDefEqProofs at h1 h2 h3
  simp -implicitDefEqProofs [E_law_k35, fb_law_k35_t3, h1, h2, h3, h4, e5, tl, -eqB_lst]
theorem law_k35_true (C : Cs) (hx : C.TopiaryError ≠ C.InvalidQuestion) (ns : List Int) (hns : ns.length ≤ 63) : ∃ cs, F_law_k35 C [.d (.rd (ns.map .int))] [] = .ok (.d (.bl true)) cs := by
  obtain ⟨d0, h0⟩ := numbers_ok C ns hns 130 (by omega)
  obtain ⟨q0, d1, h1, a2, a3, a4, a5, a6⟩ := law_question_ok C 4 2 1 (by omega) rfl d0
  have w5 : Wq 2 = 3495 := rfl
  have wl0 := wq_w q0 a6
  obtain ⟨q, d2, h2, b1, b2, b3, b4, b5⟩ := law_dressed_ok C q0 4 (by omega) (by omega) a6 d1
  have hok := b1 1 a3
  have hN : q.isN = false := by rw [b5]; exact a2
  have wl := wq_w q b4
  have hdp := dp_of_ok 2 q 1 (by omega) hok
  have hlen : (wq q).length ≤ 4000 := by omega
  have h3 := law_count_ok C q 4 (by omega) (by omega)
  refine ⟨[], ?_⟩
  simp -implicitDefEqProofs at h0 h1 h2 h3
  by_cases hc : q.cnt ≤ 12
  · have tl := k35_t3 C (.rd (ns.map .int)) q hN hok hc hlen d2 none
    have hc' : ¬ (12 : Int) < q.cnt := by omega
    have hc2 : ¬ 12 < q.cnt := by omega
    simp -implicitDefEqProofs [E_law_k35] at tl
    simp -implicitDefEqProofs [F_law_k35, fb_law_k35, env0, h0, h1, h2, h3, hc', hc2, tl]
  · have h4 := is_proper_ok C q (by omega) (by omega)
    rw [decide_eq_false hc, Bool.and_false] at h4
    have hc' : (12 : Int) < q.cnt := by omega
    have hc2 : 12 < q.cnt := by omega
    simp -implicitDefEqProofs [F_law_k35, fb_law_k35, env0, h0, h1, h2, h3, hc', hc2, h4]
end Tp
end
section
set_option Elab.async false
set_option linter.all false
set_option maxRecDepth 100000
set_option maxHeartbeats 0
namespace Wk
open PySem PySem.Spec PyProof.Rows L2 Dl Tp
def hd_InvalidQuestion_init : He.DefD := ⟨("InvalidQuestion", some "__init__"), "__init__", "InvalidQuestion.__init__", defArgs s_InvalidQuestion_init, defBody s_InvalidQuestion_init, defScope s_InvalidQuestion_init, [], []⟩
def hd_is_sign : He.DefD := ⟨("is_sign", none), "is_sign", "is_sign", defArgs s_is_sign, defBody s_is_sign, defScope s_is_sign, [], []⟩
def hd_QuestionReader_init : He.DefD := ⟨("QuestionReader", some "__init__"), "__init__", "QuestionReader.__init__", defArgs s_QuestionReader_init, defBody s_QuestionReader_init, defScope s_QuestionReader_init, [], []⟩
def hd_QuestionReader_fail : He.DefD := ⟨("QuestionReader", some "fail"), "fail", "QuestionReader.fail", defArgs s_QuestionReader_fail, defBody s_QuestionReader_fail, defScope s_QuestionReader_fail, [], []⟩
def hd_QuestionReader_sign : He.DefD := ⟨("QuestionReader", some "sign"), "sign", "QuestionReader.sign", defArgs s_QuestionReader_sign, defBody s_QuestionReader_sign, defScope s_QuestionReader_sign, [], []⟩
def hd_QuestionReader_test : He.DefD := ⟨("QuestionReader", some "test"), "test", "QuestionReader.test", defArgs s_QuestionReader_test, defBody s_QuestionReader_test, defScope s_QuestionReader_test, [], []⟩
def hd_QuestionReader_one_sign : He.DefD := ⟨("QuestionReader", some "one_sign"), "one_sign", "QuestionReader.one_sign", defArgs s_QuestionReader_one_sign, defBody s_QuestionReader_one_sign, defScope s_QuestionReader_one_sign, [], []⟩
def hd_QuestionReader_string : He.DefD := ⟨("QuestionReader", some "string"), "string", "QuestionReader.string", defArgs s_QuestionReader_string, defBody s_QuestionReader_string, defScope s_QuestionReader_string, [], []⟩
def hd_QuestionReader_filter : He.DefD := ⟨("QuestionReader", some "filter"), "filter", "QuestionReader.filter", defArgs s_QuestionReader_filter, defBody s_QuestionReader_filter, defScope s_QuestionReader_filter, [], []⟩
def hd_QuestionReader_step : He.DefD := ⟨("QuestionReader", some "step"), "step", "QuestionReader.step", defArgs s_QuestionReader_step, defBody s_QuestionReader_step, defScope s_QuestionReader_step, [], []⟩
def hd_QuestionReader_question : He.DefD := ⟨("QuestionReader", some "question"), "question", "QuestionReader.question", defArgs s_QuestionReader_question, defBody s_QuestionReader_question, defScope s_QuestionReader_question, [], []⟩
def hd_read_question : He.DefD := ⟨("read_question", none), "read_question", "read_question", defArgs s_read_question, defBody s_read_question, defScope s_read_question, [], []⟩
def hd_is_name_questions : He.DefD := ⟨("is_name", none), "is_name", "is_name", defArgs s_is_name_questions, defBody s_is_name_questions, defScope s_is_name_questions, [], []⟩
def hd_step_count : He.DefD := ⟨("step_count", none), "step_count", "step_count", defArgs s_step_count, defBody s_step_count, defScope s_step_count, [], []⟩
def hd_is_filter : He.DefD := ⟨("is_filter", none), "is_filter", "is_filter", defArgs s_is_filter, defBody s_is_filter, defScope s_is_filter, [], []⟩
def hd_has_form : He.DefD := ⟨("has_form", none), "has_form", "has_form", defArgs s_has_form, defBody s_has_form, defScope s_has_form, [], []⟩
def hd_is_proper : He.DefD := ⟨("is_proper", none), "is_proper", "is_proper", defArgs s_is_proper, defBody s_is_proper, defScope s_is_proper, [], []⟩
def hd_written_string : He.DefD := ⟨("written_string", none), "written_string", "written_string", defArgs s_written_string, defBody s_written_string, defScope s_written_string, [], []⟩
def hd_write_question : He.DefD := ⟨("write_question", none), "write_question", "write_question", defArgs s_write_question, defBody s_write_question, defScope s_write_question, [], []⟩
def hd_law_mix : He.DefD := ⟨("_law_mix", none), "_law_mix", "_law_mix", defArgs s_law_mix, defBody s_law_mix, defScope s_law_mix, [], []⟩
def hd_law_numbers : He.DefD := ⟨("_law_numbers", none), "_law_numbers", "_law_numbers", defArgs s_law_numbers, defBody s_law_numbers, defScope s_law_numbers, [], []⟩
def hd_law_take_k35 : He.DefD := ⟨("_law_take", none), "_law_take", "_law_take", defArgs s_law_take_k35, defBody s_law_take_k35, defScope s_law_take_k35, [], []⟩
def hd_law_filter : He.DefD := ⟨("_law_filter", none), "_law_filter", "_law_filter", defArgs s_law_filter, defBody s_law_filter, defScope s_law_filter, [], []⟩
def hd_law_step : He.DefD := ⟨("_law_step", none), "_law_step", "_law_step", defArgs s_law_step, defBody s_law_step, defScope s_law_step, [], []⟩
def hd_law_question : He.DefD := ⟨("_law_question", none), "_law_question", "_law_question", defArgs s_law_question, defBody s_law_question, defScope s_law_question, [], []⟩
def hd_law_count : He.DefD := ⟨("_law_count", none), "_law_count", "_law_count", defArgs s_law_count, defBody s_law_count, defScope s_law_count, [], []⟩
def hd_law_string_k35 : He.DefD := ⟨("_law_string", none), "_law_string", "_law_string", defArgs s_law_string_k35, defBody s_law_string_k35, defScope s_law_string_k35, [], []⟩
def hd_law_dressed : He.DefD := ⟨("_law_dressed", none), "_law_dressed", "_law_dressed", defArgs s_law_dressed, defBody s_law_dressed, defScope s_law_dressed, [], []⟩
def hd_law_quoted : He.DefD := ⟨("_law_quoted", none), "_law_quoted", "_law_quoted", defArgs s_law_quoted, defBody s_law_quoted, defScope s_law_quoted, [], []⟩
def hd_law_written_k35 : He.DefD := ⟨("_law_written", none), "_law_written", "_law_written", defArgs s_law_written_k35, defBody s_law_written_k35, defScope s_law_written_k35, [], []⟩
def hd_law_improper : He.DefD := ⟨("_law_improper", none), "_law_improper", "_law_improper", defArgs s_law_improper, defBody s_law_improper, defScope s_law_improper, [], []⟩
def hd_law_told_k35 : He.DefD := ⟨("_law_told", none), "_law_told", "_law_told", defArgs s_law_told_k35, defBody s_law_told_k35, defScope s_law_told_k35, [], []⟩
def hd_law_k35 : He.DefD := ⟨("law", none), "law", "law", defArgs s_law_k35, defBody s_law_k35, defScope s_law_k35, [], []⟩
def hd_fn : List He.DefD := [hd_InvalidQuestion_init, hd_is_sign, hd_QuestionReader_init, hd_QuestionReader_fail, hd_QuestionReader_sign, hd_QuestionReader_test, hd_QuestionReader_one_sign, hd_QuestionReader_string, hd_QuestionReader_filter, hd_QuestionReader_step, hd_QuestionReader_question, hd_read_question, hd_is_name_questions, hd_step_count, hd_is_filter, hd_has_form, hd_is_proper, hd_written_string, hd_write_question, hd_law_mix, hd_law_numbers, hd_law_take_k35, hd_law_filter, hd_law_step, hd_law_question, hd_law_count, hd_law_string_k35, hd_law_dressed, hd_law_quoted, hd_law_written_k35, hd_law_improper, hd_law_told_k35, hd_law_k35]
def hd_fa : List He.Fa := [.glo "TopiaryError", .glo "InvalidQuestion", .cls "QuestionReader", .glo "QuestionReader", .glo "is_sign", .mkr "QuestionReader", .meth "QuestionReader" "fail", .meth "QuestionReader" "sign", .meth "QuestionReader" "test", .meth "QuestionReader" "one_sign", .meth "QuestionReader" "string", .meth "QuestionReader" "filter", .meth "QuestionReader" "step", .meth "QuestionReader" "question", .glo "read_question", .glo "is_name", .glo "step_count", .glo "is_filter", .glo "has_form", .glo "is_proper", .glo "written_string", .glo "write_question", .glo "_law_mix", .glo "_law_numbers", .glo "_law_take", .glo "_law_filter", .glo "_law_step", .glo "_law_question", .glo "_law_count", .glo "_law_string", .glo "_law_dressed", .glo "_law_quoted", .glo "_law_written", .glo "_law_improper", .glo "_law_told", .glo "law", .noat "QuestionReader" "at", .noat "QuestionReader" "steps", .noat "QuestionReader" "text", .str "LETTERS" "abcdefghijklmnopqrstuvwxyz", .int "MOST_DEPTH" 3, .int "MOST_PLACE" 5000, .int "MOST_SIGNS" 40, .int "MOST_STEPS" 12, .glo "ESCAPES", .free "all", .free "int", .free "isinstance", .free "len", .free "list", .free "range", .free "str"]
def hd_t : List TabX := [("ESCAPES", gt_ESCAPES)]
def hd_z : List PySem.Str := ["TopiaryError"]
def hd_x : List (PySem.Str × List PySem.Str) := [("InvalidQuestion", ["column", "reason"])]
def hd_p : List XPair := [("TopiaryError", "InvalidQuestion", false)]
theorem tx {w : World} {K : PySem.W.Frag} {h : Heap} {mg : Str → Option Value} (X : K.In h) (G : h.Ns mainGlobals mg) (c00 : SaysXt hd_x hd_z hd_p hd_t hd_fa hd_fn w K) : ∃ T : Tx w K mg, T.f_law_k35 = He.ga K "law" := by
  have c0 := c00.z0
  have c := c0.d
  obtain ⟨fd0, FD0⟩ := c.def_ 0 (d := hd_InvalidQuestion_init) rfl
  obtain ⟨fd1, FD1⟩ := c.def_ 1 (d := hd_is_sign) rfl
  obtain ⟨fd2, FD2⟩ := c.def_ 2 (d := hd_QuestionReader_init) rfl
  obtain ⟨fd3, FD3⟩ := c.def_ 3 (d := hd_QuestionReader_fail) rfl
  obtain ⟨fd4, FD4⟩ := c.def_ 4 (d := hd_QuestionReader_sign) rfl
  obtain ⟨fd5, FD5⟩ := c.def_ 5 (d := hd_QuestionReader_test) rfl
  obtain ⟨fd6, FD6⟩ := c.def_ 6 (d := hd_QuestionReader_one_sign) rfl
  obtain ⟨fd7, FD7⟩ := c.def_ 7 (d := hd_QuestionReader_string) rfl
  obtain ⟨fd8, FD8⟩ := c.def_ 8 (d := hd_QuestionReader_filter) rfl
  obtain ⟨fd9, FD9⟩ := c.def_ 9 (d := hd_QuestionReader_step) rfl
  obtain ⟨fd10, FD10⟩ := c.def_ 10 (d := hd_QuestionReader_question) rfl
  obtain ⟨fd11, FD11⟩ := c.def_ 11 (d := hd_read_question) rfl
  obtain ⟨fd12, FD12⟩ := c.def_ 12 (d := hd_is_name_questions) rfl
  obtain ⟨fd13, FD13⟩ := c.def_ 13 (d := hd_step_count) rfl
  obtain ⟨fd14, FD14⟩ := c.def_ 14 (d := hd_is_filter) rfl
  obtain ⟨fd15, FD15⟩ := c.def_ 15 (d := hd_has_form) rfl
  obtain ⟨fd16, FD16⟩ := c.def_ 16 (d := hd_is_proper) rfl
  obtain ⟨fd17, FD17⟩ := c.def_ 17 (d := hd_written_string) rfl
  obtain ⟨fd18, FD18⟩ := c.def_ 18 (d := hd_write_question) rfl
  obtain ⟨fd19, FD19⟩ := c.def_ 19 (d := hd_law_mix) rfl
  obtain ⟨fd20, FD20⟩ := c.def_ 20 (d := hd_law_numbers) rfl
  obtain ⟨fd21, FD21⟩ := c.def_ 21 (d := hd_law_take_k35) rfl
  obtain ⟨fd22, FD22⟩ := c.def_ 22 (d := hd_law_filter) rfl
  obtain ⟨fd23, FD23⟩ := c.def_ 23 (d := hd_law_step) rfl
  obtain ⟨fd24, FD24⟩ := c.def_ 24 (d := hd_law_question) rfl
  obtain ⟨fd25, FD25⟩ := c.def_ 25 (d := hd_law_count) rfl
  obtain ⟨fd26, FD26⟩ := c.def_ 26 (d := hd_law_string_k35) rfl
  obtain ⟨fd27, FD27⟩ := c.def_ 27 (d := hd_law_dressed) rfl
  obtain ⟨fd28, FD28⟩ := c.def_ 28 (d := hd_law_quoted) rfl
  obtain ⟨fd29, FD29⟩ := c.def_ 29 (d := hd_law_written_k35) rfl
  obtain ⟨fd30, FD30⟩ := c.def_ 30 (d := hd_law_improper) rfl
  obtain ⟨fd31, FD31⟩ := c.def_ 31 (d := hd_law_told_k35) rfl
  obtain ⟨fd32, FD32⟩ := c.def_ 32 (d := hd_law_k35) rfl
  obtain ⟨t_LETTERS, tk_LETTERS⟩ := He.str_ok X G (c.fact 39 (f := .str "LETTERS" "abcdefghijklmnopqrstuvwxyz") rfl)
  obtain ⟨t_MOST_DEPTH, tk_MOST_DEPTH⟩ := He.int_ok X G (c.fact 40 (f := .int "MOST_DEPTH" 3) rfl)
  obtain ⟨t_MOST_PLACE, tk_MOST_PLACE⟩ := He.int_ok X G (c.fact 41 (f := .int "MOST_PLACE" 5000) rfl)
  obtain ⟨t_MOST_SIGNS, tk_MOST_SIGNS⟩ := He.int_ok X G (c.fact 42 (f := .int "MOST_SIGNS" 40) rfl)
  obtain ⟨t_MOST_STEPS, tk_MOST_STEPS⟩ := He.int_ok X G (c.fact 43 (f := .int "MOST_STEPS" 12) rfl)
  exact ⟨{ C_TopiaryError := He.ga K "TopiaryError", C_InvalidQuestion := He.ga K "InvalidQuestion", C_QuestionReader := He.ga K "QuestionReader", f_InvalidQuestion_init := He.ma K (He.ga K "InvalidQuestion") "__init__", d_InvalidQuestion_init := fd0, f_is_sign := He.ga K "is_sign", d_is_sign := fd1, f_QuestionReader_init := He.ma K (He.ga K "QuestionReader") "__init__", d_QuestionReader_init := fd2, f_QuestionReader_fail := He.ma K (He.ga K "QuestionReader") "fail", d_QuestionReader_fail := fd3, f_QuestionReader_sign := He.ma K (He.ga K "QuestionReader") "sign", d_QuestionReader_sign := fd4, f_QuestionReader_test := He.ma K (He.ga K "QuestionReader") "test", d_QuestionReader_test := fd5, f_QuestionReader_one_sign := He.ma K (He.ga K "QuestionReader") "one_sign", d_QuestionReader_one_sign := fd6, f_QuestionReader_string := He.ma K (He.ga K "QuestionReader") "string", d_QuestionReader_string := fd7, f_QuestionReader_filter := He.ma K (He.ga K "QuestionReader") "filter", d_QuestionReader_filter := fd8, f_QuestionReader_step := He.ma K (He.ga K "QuestionReader") "step", d_QuestionReader_step := fd9, f_QuestionReader_question := He.ma K (He.ga K "QuestionReader") "question", d_QuestionReader_question := fd10, f_read_question := He.ga K "read_question", d_read_question := fd11, f_is_name_questions := He.ga K "is_name", d_is_name_questions := fd12, f_step_count := He.ga K "step_count", d_step_count := fd13, f_is_filter := He.ga K "is_filter", d_is_filter := fd14, f_has_form := He.ga K "has_form", d_has_form := fd15, f_is_proper := He.ga K "is_proper", d_is_proper := fd16, f_written_string := He.ga K "written_string", d_written_string := fd17, f_write_question := He.ga K "write_question", d_write_question := fd18, f_law_mix := He.ga K "_law_mix", d_law_mix := fd19, f_law_numbers := He.ga K "_law_numbers", d_law_numbers := fd20, f_law_take_k35 := He.ga K "_law_take", d_law_take_k35 := fd21, f_law_filter := He.ga K "_law_filter", d_law_filter := fd22, f_law_step := He.ga K "_law_step", d_law_step := fd23, f_law_question := He.ga K "_law_question", d_law_question := fd24, f_law_count := He.ga K "_law_count", d_law_count := fd25, f_law_string_k35 := He.ga K "_law_string", d_law_string_k35 := fd26, f_law_dressed := He.ga K "_law_dressed", d_law_dressed := fd27, f_law_quoted := He.ga K "_law_quoted", d_law_quoted := fd28, f_law_written_k35 := He.ga K "_law_written", d_law_written_k35 := fd29, f_law_improper := He.ga K "_law_improper", d_law_improper := fd30, f_law_told_k35 := He.ga K "_law_told", d_law_told_k35 := fd31, f_law_k35 := He.ga K "law", d_law_k35 := fd32, t_LETTERS := t_LETTERS, t_MOST_DEPTH := t_MOST_DEPTH, t_MOST_PLACE := t_MOST_PLACE, t_MOST_SIGNS := t_MOST_SIGNS, t_MOST_STEPS := t_MOST_STEPS, a_ESCAPES := He.ga K "ESCAPES", F_InvalidQuestion_init := FD0, F_is_sign := FD1, F_QuestionReader_init := FD2, F_QuestionReader_fail := FD3, F_QuestionReader_sign := FD4, F_QuestionReader_test := FD5, F_QuestionReader_one_sign := FD6, F_QuestionReader_string := FD7, F_QuestionReader_filter := FD8, F_QuestionReader_step := FD9, F_QuestionReader_question := FD10, F_read_question := FD11, F_is_name_questions := FD12, F_step_count := FD13, F_is_filter := FD14, F_has_form := FD15, F_is_proper := FD16, F_written_string := FD17, F_write_question := FD18, F_law_mix := FD19, F_law_numbers := FD20, F_law_take_k35 := FD21, F_law_filter := FD22, F_law_step := FD23, F_law_question := FD24, F_law_count := FD25, F_law_string_k35 := FD26, F_law_dressed := FD27, F_law_quoted := FD28, F_law_written_k35 := FD29, F_law_improper := FD30, F_law_told_k35 := FD31, F_law_k35 := FD32, xn_TopiaryError_InvalidQuestion := (c0.p 0 (x := ("TopiaryError", "InvalidQuestion", false)) rfl), g_TopiaryError := He.glo_ok X G (c.fact 0 (f := .glo "TopiaryError") rfl), z_TopiaryError := (xB0_ok (x := "TopiaryError") (c0.z 0)).1, xe_TopiaryError := (xB0_ok (x := "TopiaryError") (c0.z 0)).2, g_InvalidQuestion := He.glo_ok X G (c.fact 1 (f := .glo "InvalidQuestion") rfl), x_InvalidQuestion := (xBn_ok (x := "InvalidQuestion") (fs := ["column", "reason"]) (c0.x 0)).1, xf_InvalidQuestion := (xBn_ok (x := "InvalidQuestion") (fs := ["column", "reason"]) (c0.x 0)).2.1, xe_InvalidQuestion := (xBn_ok (x := "InvalidQuestion") (fs := ["column", "reason"]) (c0.x 0)).2.2.1, xv_InvalidQuestion := (xBn_ok (x := "InvalidQuestion") (fs := ["column", "reason"]) (c0.x 0)).2.2.2, c_QuestionReader := He.cls_ok (c.fact 2 (f := .cls "QuestionReader") rfl), g_QuestionReader := He.glo_ok X G (c.fact 3 (f := .glo "QuestionReader") rfl), m_is_sign := He.glo_ok X G (c.fact 4 (f := .glo "is_sign") rfl), k_is_sign := FD1.kp, mk_QuestionReader := He.mkr_ok (c.fact 5 (f := .mkr "QuestionReader") rfl), me_QuestionReader_fail := He.meth_ok (c.fact 6 (f := .meth "QuestionReader" "fail") rfl), me_QuestionReader_sign := He.meth_ok (c.fact 7 (f := .meth "QuestionReader" "sign") rfl), me_QuestionReader_test := He.meth_ok (c.fact 8 (f := .meth "QuestionReader" "test") rfl), me_QuestionReader_one_sign := He.meth_ok (c.fact 9 (f := .meth "QuestionReader" "one_sign") rfl), me_QuestionReader_string := He.meth_ok (c.fact 10 (f := .meth "QuestionReader" "string") rfl), me_QuestionReader_filter := He.meth_ok (c.fact 11 (f := .meth "QuestionReader" "filter") rfl), me_QuestionReader_step := He.meth_ok (c.fact 12 (f := .meth "QuestionReader" "step") rfl), me_QuestionReader_question := He.meth_ok (c.fact 13 (f := .meth "QuestionReader" "question") rfl), m_read_question := He.glo_ok X G (c.fact 14 (f := .glo "read_question") rfl), k_read_question := FD11.kp, m_is_name_questions := He.glo_ok X G (c.fact 15 (f := .glo "is_name") rfl), k_is_name_questions := FD12.kp, m_step_count := He.glo_ok X G (c.fact 16 (f := .glo "step_count") rfl), k_step_count := FD13.kp, m_is_filter := He.glo_ok X G (c.fact 17 (f := .glo "is_filter") rfl), k_is_filter := FD14.kp, m_has_form := He.glo_ok X G (c.fact 18 (f := .glo "has_form") rfl), k_has_form := FD15.kp, m_is_proper := He.glo_ok X G (c.fact 19 (f := .glo "is_proper") rfl), k_is_proper := FD16.kp, m_written_string := He.glo_ok X G (c.fact 20 (f := .glo "written_string") rfl), k_written_string := FD17.kp, m_write_question := He.glo_ok X G (c.fact 21 (f := .glo "write_question") rfl), k_write_question := FD18.kp, m_law_mix := He.glo_ok X G (c.fact 22 (f := .glo "_law_mix") rfl), k_law_mix := FD19.kp, m_law_numbers := He.glo_ok X G (c.fact 23 (f := .glo "_law_numbers") rfl), k_law_numbers := FD20.kp, m_law_take_k35 := He.glo_ok X G (c.fact 24 (f := .glo "_law_take") rfl), k_law_take_k35 := FD21.kp, m_law_filter := He.glo_ok X G (c.fact 25 (f := .glo "_law_filter") rfl), k_law_filter := FD22.kp, m_law_step := He.glo_ok X G (c.fact 26 (f := .glo "_law_step") rfl), k_law_step := FD23.kp, m_law_question := He.glo_ok X G (c.fact 27 (f := .glo "_law_question") rfl), k_law_question := FD24.kp, m_law_count := He.glo_ok X G (c.fact 28 (f := .glo "_law_count") rfl), k_law_count := FD25.kp, m_law_string_k35 := He.glo_ok X G (c.fact 29 (f := .glo "_law_string") rfl), k_law_string_k35 := FD26.kp, m_law_dressed := He.glo_ok X G (c.fact 30 (f := .glo "_law_dressed") rfl), k_law_dressed := FD27.kp, m_law_quoted := He.glo_ok X G (c.fact 31 (f := .glo "_law_quoted") rfl), k_law_quoted := FD28.kp, m_law_written_k35 := He.glo_ok X G (c.fact 32 (f := .glo "_law_written") rfl), k_law_written_k35 := FD29.kp, m_law_improper := He.glo_ok X G (c.fact 33 (f := .glo "_law_improper") rfl), k_law_improper := FD30.kp, m_law_told_k35 := He.glo_ok X G (c.fact 34 (f := .glo "_law_told") rfl), k_law_told_k35 := FD31.kp, m_law_k35 := He.glo_ok X G (c.fact 35 (f := .glo "law") rfl), k_law_k35 := FD32.kp, n_QuestionReader_at := He.noat_ok (c.fact 36 (f := .noat "QuestionReader" "at") rfl), n_QuestionReader_steps := He.noat_ok (c.fact 37 (f := .noat "QuestionReader" "steps") rfl), n_QuestionReader_text := He.noat_ok (c.fact 38 (f := .noat "QuestionReader" "text") rfl), g_LETTERS := tk_LETTERS, g_MOST_DEPTH := tk_MOST_DEPTH, g_MOST_PLACE := tk_MOST_PLACE, g_MOST_SIGNS := tk_MOST_SIGNS, g_MOST_STEPS := tk_MOST_STEPS, g_ESCAPES := He.glo_ok X G (c.fact 44 (f := .glo "ESCAPES") rfl), G_ESCAPES := (c00.tab 0 (t := ("ESCAPES", gt_ESCAPES)) rfl), b_all := He.free_ok X G (c.fact 45 (f := .free "all") rfl), b_int := He.free_ok X G (c.fact 46 (f := .free "int") rfl), b_isinstance := He.free_ok X G (c.fact 47 (f := .free "isinstance") rfl), b_len := He.free_ok X G (c.fact 48 (f := .free "len") rfl), b_list := He.free_ok X G (c.fact 49 (f := .free "list") rfl), b_range := He.free_ok X G (c.fact 50 (f := .free "range") rfl), b_str := He.free_ok X G (c.fact 51 (f := .free "str") rfl) }, rfl⟩
section
variable {P : Program} {w : World} {K : PySem.W.Frag} {mg : Str → Option Value} {base : Heap}
theorem al_is_sign (T : Tx w K mg) : FnOk P w K mg base (L2.CX P w) 1 T.f_is_sign T.d_is_sign ["sign"] (spD K 1 (F_is_sign T.C)) := ok_is_sign T
theorem al_QuestionReader_init (T : Tx w K mg) : FnOk P w K mg base (L2.CX P w) 1 T.f_QuestionReader_init T.d_QuestionReader_init ["self", "text"] (spD K 2 (F_QuestionReader_init T.C)) := ok_QuestionReader_init T
theorem al_QuestionReader_fail (T : Tx w K mg) : FnOk P w K mg base (L2.CX P w) 3 T.f_QuestionReader_fail T.d_QuestionReader_fail ["self", "place", "reason"] (spD K 3 (F_QuestionReader_fail T.C)) := ok_QuestionReader_fail T
theorem al_QuestionReader_sign (T : Tx w K mg) : FnOk P w K mg base (L2.CX P w) 1 T.f_QuestionReader_sign T.d_QuestionReader_sign ["self"] (spD K 1 (F_QuestionReader_sign T.C)) := ok_QuestionReader_sign T
theorem al_QuestionReader_test (T : Tx w K mg) : FnOk P w K mg base (L2.CX P w) 4 T.f_QuestionReader_test T.d_QuestionReader_test ["self"] (spD K 1 (F_QuestionReader_test T.C)) := ok_QuestionReader_test T (al_QuestionReader_fail T) (al_QuestionReader_sign T)
theorem al_QuestionReader_one_sign (T : Tx w K mg) : FnOk P w K mg base (L2.CX P w) 4 T.f_QuestionReader_one_sign T.d_QuestionReader_one_sign ["self", "start"] (spD K 2 (F_QuestionReader_one_sign T.C)) := ok_QuestionReader_one_sign T (al_QuestionReader_fail T) (al_QuestionReader_sign T) (al_is_sign T)
theorem al_QuestionReader_string (T : Tx w K mg) : FnOk P w K mg base (L2.CX P w) 5 T.f_QuestionReader_string T.d_QuestionReader_string ["self"] (spD K 1 (F_QuestionReader_string T.C)) := ok_QuestionReader_string T (al_QuestionReader_fail T) (al_QuestionReader_one_sign T) (al_QuestionReader_sign T)
theorem al_QuestionReader_question_n (T : Tx w K mg) : ∀ n : Nat, FnOk P w K mg base (L2.CX P w) (5 + 3 * n) T.f_QuestionReader_question T.d_QuestionReader_question ["self", "depth"] (spD K 2 (F_QuestionReader_question T.C n))
  | 0 => fn_fail rfl
  | n + 1 => by
    have ih := al_QuestionReader_question_n T n
    have g_QuestionReader_filter := ok_QuestionReader_filter T (P := P) (w := w) (base := base) (lv := 5 + 3 * n) (F_QuestionReader_question := F_QuestionReader_question T.C n) (by omega) ih (al_QuestionReader_fail T) (al_QuestionReader_sign T) (al_QuestionReader_string T)
    have g_QuestionReader_step := ok_QuestionReader_step T (P := P) (w := w) (base := base) (lv := 5 + 3 * n) (F_QuestionReader_question := F_QuestionReader_question T.C n) (by omega) (al_QuestionReader_fail T) g_QuestionReader_filter (al_QuestionReader_sign T) (al_QuestionReader_test T)
    have z := ok_QuestionReader_question T (P := P) (w := w) (base := base) (lv := 5 + 3 * n) (F_QuestionReader_question := F_QuestionReader_question T.C n) (by omega) (al_QuestionReader_fail T) (al_QuestionReader_sign T) g_QuestionReader_step
    have e : 5 + 3 * (n + 1) = 5 + 3 * n + 3 := by omega
    rw [e]
    exact z
theorem al_QuestionReader_question (T : Tx w K mg) : FnOk P w K mg base (L2.CX P w) 23 T.f_QuestionReader_question T.d_QuestionReader_question ["self", "depth"] (spD K 2 (F_QuestionReader_question T.C 6)) := al_QuestionReader_question_n T 6
theorem al_read_question (T : Tx w K mg) : FnOk P w K mg base (L2.CX P w) 24 T.f_read_question T.d_read_question ["text"] (spD K 1 (F_read_question T.C)) := ok_read_question T (al_QuestionReader_init T) (al_QuestionReader_fail T) (al_QuestionReader_question T)
theorem al_is_name_questions (T : Tx w K mg) : FnOk P w K mg base (L2.CX P w) 1 T.f_is_name_questions T.d_is_name_questions ["text"] (spD K 1 (F_is_name_questions T.C)) := ok_is_name_questions T
theorem al_step_count_n (T : Tx w K mg) : ∀ n : Nat, FnOk P w K mg base (L2.CX P w) (0 + n) T.f_step_count T.d_step_count ["question"] (spD K 1 (F_step_count T.C n))
  | 0 => fn_fail rfl
  | n + 1 => by
    have ih := al_step_count_n T n
    exact ok_step_count T (lv := 0 + n) (by omega) ih
theorem al_step_count (T : Tx w K mg) : FnOk P w K mg base (L2.CX P w) 5 T.f_step_count T.d_step_count ["question"] (spD K 1 (F_step_count T.C 5)) := al_step_count_n T 5
theorem al_has_form_n (T : Tx w K mg) : ∀ n : Nat, FnOk P w K mg base (L2.CX P w) (1 + 2 * n) T.f_has_form T.d_has_form ["question", "depth"] (spD K 2 (F_has_form T.C n))
  | 0 => fn_fail rfl
  | n + 1 => by
    have ih := al_has_form_n T n
    have g_is_filter := ok_is_filter T (P := P) (w := w) (base := base) (lv := 1 + 2 * n) (F_has_form := F_has_form T.C n) (by omega) ih (al_is_sign T)
    have z := ok_has_form T (P := P) (w := w) (base := base) (lv := 1 + 2 * n) (F_has_form := F_has_form T.C n) (by omega) g_is_filter (al_is_name_questions T)
    have e : 1 + 2 * (n + 1) = 1 + 2 * n + 2 := by omega
    rw [e]
    exact z
theorem al_has_form (T : Tx w K mg) : FnOk P w K mg base (L2.CX P w) 11 T.f_has_form T.d_has_form ["question", "depth"] (spD K 2 (F_has_form T.C 5)) := al_has_form_n T 5
theorem al_is_proper (T : Tx w K mg) : FnOk P w K mg base (L2.CX P w) 12 T.f_is_proper T.d_is_proper ["question"] (spD K 1 (F_is_proper T.C)) := ok_is_proper T (al_has_form T) (al_step_count T)
theorem al_written_string (T : Tx w K mg) : FnOk P w K mg base (L2.CX P w) 1 T.f_written_string T.d_written_string ["string"] (spD K 1 (F_written_string T.C)) := ok_written_string T
theorem al_write_question_n (T : Tx w K mg) : ∀ n : Nat, FnOk P w K mg base (L2.CX P w) (1 + n) T.f_write_question T.d_write_question ["question"] (spD K 1 (F_write_question T.C n))
  | 0 => fn_fail rfl
  | n + 1 => by
    have ih := al_write_question_n T n
    exact ok_write_question T (lv := 1 + n) (by omega) ih (al_written_string T)
theorem al_write_question (T : Tx w K mg) : FnOk P w K mg base (L2.CX P w) 6 T.f_write_question T.d_write_question ["question"] (spD K 1 (F_write_question T.C 5)) := al_write_question_n T 5
theorem al_law_mix (T : Tx w K mg) : FnOk P w K mg base (L2.CX P w) 1 T.f_law_mix T.d_law_mix ["_law_number", "_law_k"] (spD K 2 (F_law_mix T.C)) := ok_law_mix T
theorem al_law_numbers (T : Tx w K mg) : FnOk P w K mg base (L2.CX P w) 2 T.f_law_numbers T.d_law_numbers ["_law_script", "_law_count_here"] (spD K 2 (F_law_numbers T.C)) := ok_law_numbers T (al_law_mix T)
theorem al_law_take_k35 (T : Tx w K mg) : FnOk P w K mg base (L2.CX P w) 1 T.f_law_take_k35 T.d_law_take_k35 ["_law_row", "_law_bound"] (spD K 2 (F_law_take_k35 T.C)) := ok_law_take_k35 T
theorem al_law_question_n (T : Tx w K mg) : ∀ n : Nat, FnOk P w K mg base (L2.CX P w) (1 + 3 * n) T.f_law_question T.d_law_question ["_law_row", "_law_depth"] (spD K 2 (F_law_question T.C n))
  | 0 => fn_fail rfl
  | n + 1 => by
    have ih := al_law_question_n T n
    have g_law_filter := ok_law_filter T (P := P) (w := w) (base := base) (lv := 1 + 3 * n) (F_law_question := F_law_question T.C n) (by omega) ih (al_law_take_k35 T)
    have g_law_step := ok_law_step T (P := P) (w := w) (base := base) (lv := 1 + 3 * n) (F_law_question := F_law_question T.C n) (by omega) g_law_filter (al_law_take_k35 T)
    have z := ok_law_question T (P := P) (w := w) (base := base) (lv := 1 + 3 * n) (F_law_question := F_law_question T.C n) (by omega) g_law_step (al_law_take_k35 T)
    have e : 1 + 3 * (n + 1) = 1 + 3 * n + 3 := by omega
    rw [e]
    exact z
theorem al_law_question (T : Tx w K mg) : FnOk P w K mg base (L2.CX P w) 13 T.f_law_question T.d_law_question ["_law_row", "_law_depth"] (spD K 2 (F_law_question T.C 4)) := al_law_question_n T 4
theorem al_law_count_n (T : Tx w K mg) : ∀ n : Nat, FnOk P w K mg base (L2.CX P w) (0 + n) T.f_law_count T.d_law_count ["_law_question_here"] (spD K 1 (F_law_count T.C n))
  | 0 => fn_fail rfl
  | n + 1 => by
    have ih := al_law_count_n T n
    exact ok_law_count T (lv := 0 + n) (by omega) ih
theorem al_law_count (T : Tx w K mg) : FnOk P w K mg base (L2.CX P w) 5 T.f_law_count T.d_law_count ["_law_question_here"] (spD K 1 (F_law_count T.C 5)) := al_law_count_n T 5
theorem al_law_string_k35 (T : Tx w K mg) : FnOk P w K mg base (L2.CX P w) 2 T.f_law_string_k35 T.d_law_string_k35 ["_law_row"] (spD K 1 (F_law_string_k35 T.C)) := ok_law_string_k35 T (al_law_take_k35 T)
theorem al_law_dressed_n (T : Tx w K mg) : ∀ n : Nat, FnOk P w K mg base (L2.CX P w) (2 + n) T.f_law_dressed T.d_law_dressed ["_law_row", "_law_question_here"] (spD K 2 (F_law_dressed T.C n))
  | 0 => fn_fail rfl
  | n + 1 => by
    have ih := al_law_dressed_n T n
    exact ok_law_dressed T (lv := 2 + n) (by omega) ih (al_law_string_k35 T) (al_law_take_k35 T)
theorem al_law_dressed (T : Tx w K mg) : FnOk P w K mg base (L2.CX P w) 7 T.f_law_dressed T.d_law_dressed ["_law_row", "_law_question_here"] (spD K 2 (F_law_dressed T.C 5)) := al_law_dressed_n T 5
theorem al_law_quoted (T : Tx w K mg) : FnOk P w K mg base (L2.CX P w) 1 T.f_law_quoted T.d_law_quoted ["_law_string_here"] (spD K 1 (F_law_quoted T.C)) := ok_law_quoted T
theorem al_law_written_k35_n (T : Tx w K mg) : ∀ n : Nat, FnOk P w K mg base (L2.CX P w) (1 + n) T.f_law_written_k35 T.d_law_written_k35 ["_law_question_here"] (spD K 1 (F_law_written_k35 T.C n))
  | 0 => fn_fail rfl
  | n + 1 => by
    have ih := al_law_written_k35_n T n
    exact ok_law_written_k35 T (lv := 1 + n) (by omega) ih (al_law_quoted T)
theorem al_law_written_k35 (T : Tx w K mg) : FnOk P w K mg base (L2.CX P w) 6 T.f_law_written_k35 T.d_law_written_k35 ["_law_question_here"] (spD K 1 (F_law_written_k35 T.C 5)) := al_law_written_k35_n T 5
theorem al_law_improper (T : Tx w K mg) : FnOk P w K mg base (L2.CX P w) 2 T.f_law_improper T.d_law_improper ["_law_row", "_law_question_here"] (spD K 2 (F_law_improper T.C)) := ok_law_improper T (al_law_take_k35 T)
theorem al_law_told_k35 (T : Tx w K mg) : FnOk P w K mg base (L2.CX P w) 25 T.f_law_told_k35 T.d_law_told_k35 ["_law_text"] (spD K 1 (F_law_told_k35 T.C)) := ok_law_told_k35 T (al_read_question T)
theorem al_law_k35 (T : Tx w K mg) : FnOk P w K mg base (L2.CX P w) 26 T.f_law_k35 T.d_law_k35 ["_law_script"] (spD K 1 (F_law_k35 T.C)) := ok_law_k35 T (al_law_count T) (al_law_dressed T) (al_law_improper T) (al_law_numbers T) (al_law_question T) (al_law_take_k35 T) (al_law_told_k35 T) (al_law_written_k35 T) (al_is_proper T) (al_read_question T) (al_write_question T)
end
abbrev hd_R : PySem.W.OpenRow := PySem.W.OpenLaw.row PySem.Challenge.rw_topiary_k35_questions_as_texts
abbrev hd_k : PySem.W.Hook := hookXt 5 hd_x hd_z hd_p hd_t hd_fa hd_fn
def hd_ob (s : PySem.W.SharedT) : AlT := obsXtG 5 hd_x hd_z hd_p hd_t hd_fa hd_fn (HandSHeadRun.getT s)
theorem hd_ob_eq (s : PySem.W.SharedT) : hd_ob s = hd_k.obs s.abs := obsXtG_eq (HandSHeadRun.getT_eq s)
abbrev hd_loose : List PySem.Str := ["ESCAPES", "InvalidQuestion", "LETTERS", "MOST_DEPTH", "MOST_PLACE", "MOST_SIGNS", "MOST_STEPS", "QuestionReader", "TopiaryError", "__name__", "_law_count", "_law_dressed", "_law_filter", "_law_improper", "_law_mix", "_law_numbers", "_law_question", "_law_quoted", "_law_step", "_law_string", "_law_take", "_law_told", "_law_written", "has_form", "is_filter", "is_name", "is_proper", "is_sign", "read_question", "step_count", "write_question", "written_string"]
def setFT (w : World) (b : Bool) : World := { w with params := { w.params with followText := fun s => if s = "special-get-raises" then b else w.params.followText s } }
theorem setFT_eq (w : World) : setFT w (w.params.followText "special-get-raises") = w := by
  unfold setFT
  have e : (fun s => if s = "special-get-raises" then w.params.followText "special-get-raises" else w.params.followText s) = w.params.followText := by
    funext s
    by_cases h : s = "special-get-raises"
    · rw [if_pos h, h]
    · rw [if_neg h]
  rw [e]
theorem hd_run_true (w : World) : HandSHeadRun.RunEq hd_R (PySem.W.view hd_R.prog [34]) hd_k hd_ob 3000 hd_loose (setFT w true) := by
  intro os
  kernel_rfl
theorem hd_run_false (w : World) : HandSHeadRun.RunEq hd_R (PySem.W.view hd_R.prog [34]) hd_k hd_ob 3000 hd_loose (setFT w false) := by
  intro os
  kernel_rfl
theorem hd_run (w : World) : HandSHeadRun.RunEq hd_R (PySem.W.view hd_R.prog [34]) hd_k hd_ob 3000 hd_loose w := by
  have e := setFT_eq w
  cases h : w.params.followText "special-get-raises" with
  | true => rw [h] at e; rw [← e]; exact hd_run_true w
  | false => rw [h] at e; rw [← e]; exact hd_run_false w
end Wk
open PySem PySem.W PySem.Calls PyProof.Rows
set_option maxRecDepth 100000 in
set_option maxHeartbeats 0 in
theorem PySem.Challenge.cw_topiary_k35_questions_as_texts_holds : PySem.Challenge.rw_topiary_k35_questions_as_texts.Holds := by
  w_on; o_law
  refine HandSHeadRun.head_any (r := OpenLaw.row PySem.Challenge.rw_topiary_k35_questions_as_texts) (q := view (OpenLaw.row PySem.Challenge.rw_topiary_k35_questions_as_texts).prog [34]) (H := Wk.hd_k) (ob := Wk.hd_ob) (M := 3000) (loose := Wk.hd_loose) (d := HandSHeadRun.topDef (OpenLaw.row PySem.Challenge.rw_topiary_k35_questions_as_texts).prog 34) (kwd := []) Wk.hd_ob_eq
    (by kernel_rfl) (fun s => by kernel_rfl) Wk.hd_run (by kernel_rfl) (by kernel_rfl) (by kernel_rfl) (by rfl) (by first | assumption | decide +kernel) (by decide +kernel) ⟨rfl, rfl, rfl, rfl, rfl, by decide +kernel⟩ ?hw ?hc
  case hw => w_witness2
  case hc =>
    refine Dl.walkE (l := PySem.Challenge.rw_topiary_k35_questions_as_texts) (k := 26) (x := "_law_script") rfl (by kernel_rfl) ⟨rfl, by decide, by decide⟩ ?F
    intro w mg fa h Y G hmg0
    obtain ⟨K, KX, c⟩ := Y
    have hmg : mg ("law" : PySem.Str) = some (.ref fa) := by
      have e : (HandSHeadRun.topDef (OpenLaw.row PySem.Challenge.rw_topiary_k35_questions_as_texts).prog 34).name = ("law" : PySem.Str) := by kernel_rfl
      rw [← e]
      exact hmg0
    obtain ⟨T, eT⟩ := Wk.tx KX G c
    have e := hmg.symm.trans T.m_law_k35
    cases e
    exact ⟨K, T.d_law_k35, KX, Dl.binds_one T.F_law_k35 (fun _ _ _ _ _ _ us hl => match us, hl with | [_], _ => rfl), fun base _ _ => L2.FnOk.imp (Wk.al_law_k35 T) (Dl.law_sp (Tp.law_k35_true T.C (Dl.xne T.xn_TopiaryError_InvalidQuestion T.xe_InvalidQuestion)))⟩
end
