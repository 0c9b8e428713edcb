import PyProof.Rows.All
import Wide.All
import OpenK.AllK
import Wide.FinOn
import HandS.ForMost
import HandS.ForExc
import HandS.CallSlots
import HandS.Lambda
import HandS.Deep
import HandS.TupAny
import HandS.IsInst
import HandS.Text
import HandS.Flow
import HandS.TupLen
import HandS.Walk
import HandS.Zip
import HandS.RevRange
import HandS.Rev
import HandS.Defaults
import HandS.Iter
import HandS.ExcInit
import HandS.ExcField
import KE.KStateDown
import HandS.Head0
import HandS.Head1
import HandS.Head2
import HandS.HeadEnd
import HandS.HeadHook1
import HandS.HeadHook2
import HandS.ExcIs
import HandS.Conv
import HandS.WideBits
import KE.KDictZip
import KE.KDictItemsList
import HandS.MapObj
import HandS.ListItems
import HandS.ExcOwn
import HandS.Exc
import HandS.SetFor
import HandS.Strs
import HandS.Dict
import KE.SortData
import HandS.MakeKwOnly
import HandS.RevTup
import PyProof.StrOps
import HandS.BytesMake
import KE.KBytesDec
import PyProof.JoinWalk
import HandS.Bytes
import KE.SortKeyHeap
import HandS.SortKw
import PyProof.DictUpdate
import HandS.EndTab
import HandS.HeadWalk
import HandS.HeadHook4
import HandS.DictComp
import HandS.More
import PyProof.Rows.StrMeet
import PyProof.StrOps2
import HandS.Flt
import PyProof.NeKinds
import HandS.CallLocal
import HandS.TryOnly
import HandS.HeadHook3
import Wide.WTab
import HandS.FStr
import HandS.Replace
import HandS.ReplaceLit
import HandS.ReplaceDef
import HandS.StrMore
import PyProof.P3Eq
import PyProof.StrLawsIn
import PyProof.Rows.StrLast
import PyProof.Rows.StrCountLaw
import PySem.Challenge.RW_topiary_k19_first_error_of_a_text
section
set_option Elab.async false
set_option linter.all false
set_option maxRecDepth 100000
set_option maxHeartbeats 4000000
namespace Dl
open PySem L2
inductive D where
  | non | bl (b : Bool) | int (i : Int) | str (x : Str)
  | lst (xs : List D) | tup (xs : List D) | rd (xs : List D)
  | dic (kvs : List (Key × D)) | obj (C : Addr) (fs : List (Str × D)) | dct (kvs : List (List Key × D)) | fn (f : Addr)
deriving Inhabited
mutual
inductive Rep (K : PySem.W.Frag) (R : Hp) : D → V → Prop
  | non : Rep K R .non .non
  | bl (b : Bool) : Rep K R (.bl b) (.bl b)
  | int (i : Int) : Rep K R (.int i) (.int i)
  | str (x : Str) : Rep K R (.str x) (.str x)
  | lst {xs : List D} {p : Addr} {vs : List V} : R p = some (.lst vs) → RepL K R xs vs → Rep K R (.lst xs) (.ref p)
  | rd {xs : List D} {p : Addr} {vs : List V} : SqL K R p vs → RepL K R xs vs → Rep K R (.rd xs) (.ref p)
  | tup {xs : List D} {p : Addr} {vs : List V} : R p = some (.tup vs) → RepL K R xs vs → Rep K R (.tup xs) (.ref p)
  | dic {kvs : List (Key × D)} {p : Addr} {ws : List (Key × V)} : R p = some (.dK ws) → ws.map (·.1) = kvs.map (·.1) → RepL K R (kvs.map (·.2)) (ws.map (·.2)) → Rep K R (.dic kvs) (.ref p)
  | obj {C : Addr} {fs : List (Str × D)} {p dx : Addr} {ws : List (Str × V)} : R p = some (.ins C dx ws) → ws.map (·.1) = fs.map (·.1) → RepL K R (fs.map (·.2)) (ws.map (·.2)) → Rep K R (.obj C fs) (.ref p)
  | dct {kvs : List (List Key × D)} {p : Addr} {ws : List (List Key × V)} : R p = some (.dT ws) → ws.map (·.1) = kvs.map (·.1) → RepL K R (kvs.map (·.2)) (ws.map (·.2)) → Rep K R (.dct kvs) (.ref p)
  | fn (f : Addr) : Rep K R (.fn f) (.ref f)
inductive RepL (K : PySem.W.Frag) (R : Hp) : List D → List V → Prop
  | nil : RepL K R [] []
  | cons {d : D} {v : V} {ds : List D} {vs : List V} : Rep K R d v → RepL K R ds vs → RepL K R (d :: ds) (v :: vs)
end
theorem sameT {K : PySem.W.Frag} {H H' : Hp} {a : Addr} {xs : List V} (e : Same H H') (h : SqT K H a xs) : SqT K H' a xs := by
  rcases h with (h | ⟨o, h⟩) | h
  · exact .inl (.inl (e _ _ h))
  · exact .inl (.inr ⟨o, e _ _ h⟩)
  · exact .inr h
mutual
theorem Rep.mono {K : PySem.W.Frag} {R R' : Hp} (s : Same R R') : ∀ {d : D} {v : V}, Rep K R d v → Rep K R' d v
  | _, _, .non => .non
  | _, _, .bl b => .bl b
  | _, _, .int i => .int i
  | _, _, .str x => .str x
  | _, _, .lst a b => .lst (s _ _ a) (RepL.mono s b)
  | _, _, .rd a b => .rd (s.seq a) (RepL.mono s b)
  | _, _, .tup a b => .tup (s _ _ a) (RepL.mono s b)
  | _, _, .dic a e b => .dic (s _ _ a) e (RepL.mono s b)
  | _, _, .obj a e b => .obj (s _ _ a) e (RepL.mono s b)
  | _, _, .dct a e b => .dct (s _ _ a) e (RepL.mono s b)
  | _, _, .fn f => .fn f
theorem RepL.mono {K : PySem.W.Frag} {R R' : Hp} (s : Same R R') : ∀ {ds : List D} {vs : List V}, RepL K R ds vs → RepL K R' ds vs
  | _, _, .nil => .nil
  | _, _, .cons a b => .cons (Rep.mono s a) (RepL.mono s b)
end
section
variable {K : PySem.W.Frag} {R : Hp}
theorem RepL.length : ∀ {ds : List D} {vs : List V}, RepL K R ds vs → ds.length = vs.length
  | _, _, .nil => rfl
  | _, _, .cons _ b => by simp [b.length]
theorem RepL.get : ∀ {ds : List D} {vs : List V} {i : Nat} {d : D}, RepL K R ds vs → ds[i]? = some d → ∃ v, vs[i]? = some v ∧ Rep K R d v
  | _, _, i, _, .nil, e => by simp at e
  | _, _, 0, _, .cons a _, e => by simp at e; subst e; exact ⟨_, rfl, a⟩
  | _, _, i + 1, _, .cons _ b, e => by
    obtain ⟨v, h1, h2⟩ := b.get (i := i) (by simpa using e)
    exact ⟨v, by simpa using h1, h2⟩
theorem RepL.get2 : ∀ {ds : List D} {vs : List V} {i : Nat} {v : V}, RepL K R ds vs → vs[i]? = some v → ∃ d, ds[i]? = some d ∧ Rep K R d v
  | _, _, i, _, .nil, e => by simp at e
  | _, _, 0, _, .cons a _, e => by simp at e; subst e; exact ⟨_, rfl, a⟩
  | _, _, i + 1, _, .cons _ b, e => by
    obtain ⟨v, h1, h2⟩ := b.get2 (i := i) (by simpa using e)
    exact ⟨v, by simpa using h1, h2⟩
theorem RepL.append : ∀ {ds es : List D} {vs us : List V}, RepL K R ds vs → RepL K R es us → RepL K R (ds ++ es) (vs ++ us)
  | _, _, _, _, .nil, h => h
  | _, _, _, _, .cons a b, h => .cons a (b.append h)
theorem RepL.take : ∀ {ds : List D} {vs : List V} (n : Nat), RepL K R ds vs → RepL K R (ds.take n) (vs.take n)
  | _, _, 0, _ => by simp; exact .nil
  | _, _, _ + 1, .nil => .nil
  | _, _, n + 1, .cons a b => .cons a (b.take n)
theorem RepL.drop : ∀ {ds : List D} {vs : List V} (n : Nat), RepL K R ds vs → RepL K R (ds.drop n) (vs.drop n)
  | _, _, 0, h => h
  | _, _, _ + 1, .nil => .nil
  | _, _, n + 1, .cons a b => b.drop n
theorem RepL.set : ∀ {ds : List D} {vs : List V} {d : D} {v : V} (i : Nat), RepL K R ds vs → Rep K R d v → RepL K R (ds.set i d) (vs.set i v)
  | _, _, _, _, _, .nil, _ => .nil
  | _, _, _, _, 0, .cons _ b, h => .cons h b
  | _, _, _, _, i + 1, .cons a b, h => .cons a (b.set i h)
theorem RepL.reverse : ∀ {ds : List D} {vs : List V}, RepL K R ds vs → RepL K R ds.reverse vs.reverse
  | _, _, .nil => .nil
  | _, _, .cons a b => by
    rw [List.reverse_cons, List.reverse_cons]
    exact b.reverse.append (.cons a .nil)
theorem RepL.ints : ∀ {ns : List Int}, RepL K R (ns.map D.int) (ns.map V.int)
  | [] => .nil
  | n :: ns => .cons (.int n) RepL.ints
end
inductive W where
  | d (x : D) | loc (n : Nat)
deriving Inhabited
inductive Cell where
  | lst (xs : List D) | dic (kvs : List (Key × D)) | obj (C : Addr) (fs : List (Str × W)) | lw (ws : List W) | tw (ws : List W) | dct (kvs : List (List Key × D)) | tbl (P : Addr) (q : Str)
deriving Inhabited
def RepW (K : PySem.W.Frag) (R : Hp) (ρ : Nat → Addr) : W → V → Prop
  | .d x, v => Rep K R x v
  | .loc n, v => v = .ref (ρ n)
theorem RepW.mono {K : PySem.W.Frag} {R R' : Hp} {ρ : Nat → Addr} (s : Same R R') : ∀ {w : W} {v : V}, RepW K R ρ w v → RepW K R' ρ w v
  | .d _, _, h => Rep.mono s h
  | .loc _, _, h => h
def CellAt (K : PySem.W.Frag) (R : Hp) (ρ : Nat → Addr) (H : Hp) (a : Addr) : Cell → Prop
  | .lst xs => ∃ vs, H a = some (.lst vs) ∧ RepL K R xs vs
  | .dic kvs => ∃ ws, H a = some (.dK ws) ∧ ws.map (·.1) = kvs.map (·.1) ∧ RepL K R (kvs.map (·.2)) (ws.map (·.2))
  | .obj C fs => ∃ dx ws, H a = some (.ins C dx ws) ∧ ws.map (·.1) = fs.map (·.1) ∧ Paired (RepW K R ρ) (fs.map (·.2)) (ws.map (·.2))
  | .lw us => ∃ vs, H a = some (.lst vs) ∧ Paired (RepW K R ρ) us vs
  | .tw us => ∃ vs, H a = some (.tup vs) ∧ Paired (RepW K R ρ) us vs
  | .dct kvs => ∃ ws, H a = some (.dT ws) ∧ ws.map (·.1) = kvs.map (·.1) ∧ RepL K R (kvs.map (·.2)) (ws.map (·.2))
  | .tbl P q => a = P ∧ ∃ ps : Array Value, H a = some (.tbl ps) ∧ TriplesOk ps.toList ∧ ∀ (pos : Pos) (cv : Value), codeAmong pos ps.toList = some cv → ∃ c, cv = .ref c ∧ R c = some (LamX.CodeO c q)
theorem CellAt.some {K : PySem.W.Frag} {R : Hp} {ρ : Nat → Addr} {H : Hp} {a : Addr} {c : Cell} (h : CellAt K R ρ H a c) : ∃ o, H a = some o := by
  cases c with
  | lst xs => obtain ⟨_, h, _⟩ := h; exact ⟨_, h⟩
  | dic xs => obtain ⟨_, h, _⟩ := h; exact ⟨_, h⟩
  | obj C fs => obtain ⟨_, _, h, _⟩ := h; exact ⟨_, h⟩
  | lw xs => obtain ⟨_, h, _⟩ := h; exact ⟨_, h⟩
  | tw xs => obtain ⟨_, h, _⟩ := h; exact ⟨_, h⟩
  | dct xs => obtain ⟨_, h, _⟩ := h; exact ⟨_, h⟩
  | tbl P q => obtain ⟨_, _, h, _⟩ := h; exact ⟨_, h⟩
/-- does w stand for the cell n -/
def isLoc (n : Nat) : W → Bool
  | .loc m => m == n
  | .d _ => false
def Cell.refs (n : Nat) : Cell → Bool
  | .obj _ fs => fs.any fun f => isLoc n f.2
  | .lw us => us.any (isLoc n)
  | .tw us => us.any (isLoc n)
  | _ => false
theorem Paired.monoMem {α β : Type} {F G : α → β → Prop} : ∀ {l : List α} {m : List β}, Paired F l m → (∀ a b, a ∈ l → F a b → G a b) → Paired G l m
  | _, _, .nil, _ => .nil
  | _, _, .cons r t, f => .cons (f _ _ List.mem_cons_self r) (Paired.monoMem t fun a b h => f a b (List.mem_cons_of_mem _ h))
/-- the cell's description leans on its own address, on R, and on ρ at the cells that it names -/
theorem CellAt.mono {K : PySem.W.Frag} {R R' : Hp} {ρ ρ' : Nat → Addr} {H H' : Hp} {a : Addr} {c : Cell} (h : CellAt K R ρ H a c) (s : Same R R') (e : H' a = H a)
    (r : ∀ n, c.refs n = true → ρ' n = ρ n) : CellAt K R' ρ' H' a c := by
  have wm : ∀ (w : W) (v : V), (∀ n, isLoc n w = true → ρ' n = ρ n) → RepW K R ρ w v → RepW K R' ρ' w v := fun w v q x => by
    cases w with
    | d y => exact Rep.mono s x
    | loc n =>
      show v = .ref (ρ' n)
      rw [q n (by simp [isLoc])]
      exact x
  cases c with
  | lst xs => obtain ⟨vs, h1, h2⟩ := h; exact ⟨vs, by rw [e]; exact h1, RepL.mono s h2⟩
  | dic kvs => obtain ⟨vs, h1, h2, h3⟩ := h; exact ⟨vs, by rw [e]; exact h1, h2, RepL.mono s h3⟩
  | dct kvs => obtain ⟨vs, h1, h2, h3⟩ := h; exact ⟨vs, by rw [e]; exact h1, h2, RepL.mono s h3⟩
  | tbl P q =>
    obtain ⟨e0, ps, h1, h2, h3⟩ := h
    exact ⟨e0, ps, by rw [e]; exact h1, h2, fun pos cv hc => let ⟨c, e1, e2⟩ := h3 pos cv hc; ⟨c, e1, s _ _ e2⟩⟩
  | obj C fs =>
    obtain ⟨dx, ws, h1, h2, h3⟩ := h
    refine ⟨dx, ws, by rw [e]; exact h1, h2, Paired.monoMem h3 fun u v hm x => wm u v (fun n hn => r n ?_) x⟩
    obtain ⟨f, hf, hq⟩ := List.mem_map.mp hm
    show fs.any _ = true
    rw [List.any_eq_true]
    exact ⟨f, hf, by rw [hq]; exact hn⟩
  | lw us =>
    obtain ⟨vs, h1, h2⟩ := h
    refine ⟨vs, by rw [e]; exact h1, Paired.monoMem h2 fun u v hm x => wm u v (fun n hn => r n ?_) x⟩
    show us.any _ = true
    rw [List.any_eq_true]
    exact ⟨u, hm, hn⟩
  | tw us =>
    obtain ⟨vs, h1, h2⟩ := h
    refine ⟨vs, by rw [e]; exact h1, Paired.monoMem h2 fun u v hm x => wm u v (fun n hn => r n ?_) x⟩
    show us.any _ = true
    rw [List.any_eq_true]
    exact ⟨u, hm, hn⟩
structure Env where
  ws : List (Option W)
  M : List (Option Cell)
  np : Nat
def Env.slot (e : Env) (i : Nat) : Option W := (e.ws[i]?).join
def Env.cell (e : Env) (n : Nat) : Option Cell := (e.M[n]?).join
def Env.setS (e : Env) (i : Nat) (w : Option W) : Env := { e with ws := e.ws.set i w }
def Env.setC (e : Env) (n : Nat) (c : Option Cell) : Env := { e with M := e.M.set n c }
/-- no slot and no cell names the cell n -/
def Env.noRef (e : Env) (n : Nat) : Bool := (e.ws.all fun o => match o with | some w => !isLoc n w | none => true) && (e.M.all fun o => match o with | some c => !c.refs n | none => true)
theorem Env.cell_setC (e : Env) (n m : Nat) (c : Option Cell) : (e.setC n c).cell m = if n = m then (if n < e.M.length then c else none) else e.cell m := by
  unfold Env.setC Env.cell
  rw [List.getElem?_set]
  by_cases h : n = m
  · subst h
    by_cases h2 : n < e.M.length
    · simp [h2]
    · simp [h2]
  · simp [h]
theorem Env.cell_lt {e : Env} {n : Nat} {c : Cell} (h : e.cell n = some c) : n < e.M.length := by
  unfold Env.cell at h
  by_cases q : n < e.M.length
  · exact q
  · rw [List.getElem?_eq_none (by omega)] at h; cases h
theorem Env.slot_setS (e : Env) (i j : Nat) (w : Option W) : (e.setS i w).slot j = if i = j then (if i < e.ws.length then w else none) else e.slot j := by
  unfold Env.setS Env.slot
  rw [List.getElem?_set]
  by_cases h : i = j
  · subst h
    by_cases h2 : i < e.ws.length
    · simp [h2]
    · simp [h2]
  · simp [h]
theorem Env.noRef_slot {e : Env} {n i : Nat} {w : W} (h : e.noRef n = true) (hs : e.slot i = some w) : isLoc n w = false := by
  unfold Env.noRef at h
  rw [Bool.and_eq_true] at h
  have h1 := List.all_eq_true.mp h.1
  unfold Env.slot at hs
  cases q : e.ws[i]? with
  | none => rw [q] at hs; cases hs
  | some o =>
    rw [q] at hs
    have e1 : o = some w := hs
    have h2 := h1 o (List.mem_of_getElem? q)
    rw [e1] at h2
    simpa using h2
theorem Env.noRef_cell {e : Env} {n m : Nat} {c : Cell} (h : e.noRef n = true) (hs : e.cell m = some c) : c.refs n = false := by
  unfold Env.noRef at h
  rw [Bool.and_eq_true] at h
  have h1 := List.all_eq_true.mp h.2
  unfold Env.cell at hs
  cases q : e.M[m]? with
  | none => rw [q] at hs; cases hs
  | some o =>
    rw [q] at hs
    have e1 : o = some c := hs
    have h2 := h1 o (List.mem_of_getElem? q)
    rw [e1] at h2
    simpa using h2
structure Bs where
  R_0 : Hp
  H_0 : Hp
  r_0 : List Addr
structure Md (K : PySem.W.Frag) (b : Bs) (R : Hp) (ρ : Nat → Addr) (e : Env) (σ : St) (H : Hp) : Prop where
  slot : ∀ i w, e.slot i = some w → ∃ v, σ[i]? = some (some v) ∧ RepW K R ρ w v
  cell : ∀ n c, e.cell n = some c → CellAt K R ρ H (ρ n) c
  inj : ∀ n m c c', e.cell n = some c → e.cell m = some c' → ρ n = ρ m → n = m
  own : ∀ n c, e.cell n = some c → R (ρ n) = none ∧ (n < e.np ∨ b.H_0 (ρ n) = none)
  par : ∀ n, n < e.np → b.r_0[n]? = some (ρ n)
  npl : b.r_0.length = e.np
  sub : Same R H
  ext : Same b.R_0 R
  new : ∀ a o, R a = some o → b.R_0 a = some o ∨ b.H_0 a = none
  frame : ∀ a o, b.H_0 a = some o → a ∉ b.r_0 → H a = some o
  there : ∀ a o, b.H_0 a = some o → ∃ o', H a = some o'
  len : σ.length = e.ws.length
section
variable {K : PySem.W.Frag} {b : Bs} {R : Hp} {ρ : Nat → Addr} {e : Env} {σ : St} {H : Hp}
theorem Md.fresh0 (m : Md K b R ρ e σ H) {p : Addr} (hp : H p = none) : b.H_0 p = none := by
  cases q : b.H_0 p with
  | none => rfl
  | some o => obtain ⟨o', h⟩ := m.there p o q; rw [hp] at h; cases h
theorem Md.freshR (m : Md K b R ρ e σ H) {p : Addr} (hp : H p = none) : R p = none := m.sub.free hp
theorem Md.ne (m : Md K b R ρ e σ H) {p : Addr} (hp : H p = none) {n : Nat} {c : Cell} (hc : e.cell n = some c) : ρ n ≠ p := by
  obtain ⟨o, h⟩ := (m.cell n c hc).some
  exact ne_of_none h hp
theorem same_upd {H : Hp} {p : Addr} {o : HO} (hp : H p = none) : Same H (upd H p o) := fun a u h => by
  rw [upd_ne (ne_of_none h hp)]
  exact h
theorem same_upd2 {R H : Hp} {p : Addr} {o : HO} (s : Same R H) : Same (upd R p o) (upd H p o) := fun a u h => by
  by_cases q : a = p
  · subst q; rw [upd_same] at h ⊢; exact h
  · rw [upd_ne q] at h ⊢; exact s a u h
/-- only the heap grows (nothing of it is tracked by us) -/
theorem Md.grow (m : Md K b R ρ e σ H) {H' : Hp} (s : Same H H') : Md K b R ρ e σ H' where
  slot := m.slot
  cell := fun n c hc => by
    have h := m.cell n c hc
    obtain ⟨o, ho⟩ := h.some
    exact h.mono (Same.refl R) (by rw [s _ _ ho, ho]) fun _ _ => rfl
  inj := m.inj
  own := m.own
  par := m.par
  npl := m.npl
  sub := m.sub.trans s
  ext := m.ext
  new := m.new
  frame := fun a o h n => s _ _ (m.frame a o h n)
  there := fun a o h => let ⟨o', q⟩ := m.there a o h; ⟨o', s _ _ q⟩
  len := m.len
/-- a new frozen object -/
theorem Md.freshD (m : Md K b R ρ e σ H) {p : Addr} (hp : H p = none) (o : HO) : Md K b (upd R p o) ρ e σ (upd H p o) where
  slot := fun i w h => let ⟨v, h1, h2⟩ := m.slot i w h; ⟨v, h1, h2.mono (same_upd (m.freshR hp))⟩
  cell := fun n c hc => (m.cell n c hc).mono (same_upd (m.freshR hp)) (upd_ne (m.ne hp hc)) fun _ _ => rfl
  inj := m.inj
  own := fun n c hc => ⟨by rw [upd_ne (m.ne hp hc)]; exact (m.own n c hc).1, (m.own n c hc).2⟩
  par := m.par
  npl := m.npl
  sub := same_upd2 m.sub
  ext := m.ext.trans (same_upd (m.freshR hp))
  new := fun a u h => by
    by_cases q : a = p
    · subst q; exact .inr (m.fresh0 hp)
    · rw [upd_ne q] at h; exact m.new a u h
  frame := fun a u h n => by
    rw [upd_ne (fun q => by subst q; rw [m.fresh0 hp] at h; cases h)]
    exact m.frame a u h n
  there := fun a u h => by
    rw [upd_ne (fun q => by subst q; rw [m.fresh0 hp] at h; cases h)]
    exact m.there a u h
  len := m.len
def setR (ρ : Nat → Addr) (k : Nat) (p : Addr) : Nat → Addr := fun n => if n = k then p else ρ n
theorem setR_same (ρ : Nat → Addr) (k : Nat) (p : Addr) : setR ρ k p k = p := if_pos rfl
theorem setR_ne {ρ : Nat → Addr} {k n : Nat} {p : Addr} (h : n ≠ k) : setR ρ k p n = ρ n := if_neg h
/-- a new own object in the free register k -/
theorem Md.freshC (m : Md K b R ρ e σ H) {p : Addr} (hp : H p = none) {o : HO} {k : Nat} {c : Cell} (hk : e.cell k = none) (hnp : e.np ≤ k) (hr : e.noRef k = true) (hc : CellAt K R (setR ρ k p) (upd H p o) p c) :
    Md K b R (setR ρ k p) (e.setC k (some c)) σ (upd H p o) where
  slot := fun i w h => by
    obtain ⟨v, h1, h2⟩ := m.slot i w h
    refine ⟨v, h1, ?_⟩
    have q := Env.noRef_slot hr h
    cases w with
    | d x => exact h2
    | loc n =>
      show v = .ref (setR ρ k p n)
      rw [setR_ne (fun z => by subst z; simp [isLoc] at q)]
      exact h2
  cell := fun n c' h => by
    rw [Env.cell_setC] at h
    by_cases q : k = n
    · subst q
      rw [if_pos rfl] at h
      split at h
      · cases h; rw [setR_same]; exact hc
      · cases h
    · rw [if_neg q] at h
      rw [setR_ne (Ne.symm q)]
      refine (m.cell n c' h).mono (Same.refl R) (upd_ne (m.ne hp h)) fun j hj => setR_ne fun z => ?_
      subst z
      rw [Env.noRef_cell hr h] at hj
      cases hj
  inj := fun n n' c1 c2 h1 h2 hq => by
    rw [Env.cell_setC] at h1 h2
    by_cases q1 : k = n
    · by_cases q2 : k = n'
      · exact q1.symm.trans q2
      · rw [if_neg q2] at h2
        subst q1
        rw [setR_same, setR_ne (Ne.symm q2)] at hq
        exact absurd hq.symm (m.ne hp h2)
    · rw [if_neg q1] at h1
      by_cases q2 : k = n'
      · subst q2
        rw [setR_same, setR_ne (Ne.symm q1)] at hq
        exact absurd hq (m.ne hp h1)
      · rw [if_neg q2] at h2
        rw [setR_ne (Ne.symm q1), setR_ne (Ne.symm q2)] at hq
        exact m.inj n n' c1 c2 h1 h2 hq
  own := fun n c' h => by
    rw [Env.cell_setC] at h
    by_cases q : k = n
    · subst q; rw [setR_same]; exact ⟨m.freshR hp, .inr (m.fresh0 hp)⟩
    · rw [if_neg q] at h; rw [setR_ne (Ne.symm q)]; exact m.own n c' h
  par := fun n h => by
    have h' : n < e.np := h
    rw [setR_ne (by omega)]
    exact m.par n h
  npl := m.npl
  sub := m.sub.trans (same_upd hp)
  ext := m.ext
  new := m.new
  frame := fun a u h n => by
    rw [upd_ne (fun q => by subst q; rw [m.fresh0 hp] at h; cases h)]
    exact m.frame a u h n
  there := fun a u h => by
    rw [upd_ne (fun q => by subst q; rw [m.fresh0 hp] at h; cases h)]
    exact m.there a u h
  len := m.len
/-- a cell is written -/
theorem Md.write (m : Md K b R ρ e σ H) {n : Nat} {c c' : Cell} {o : HO} (hc : e.cell n = some c) (hc' : CellAt K R ρ (upd H (ρ n) o) (ρ n) c') : Md K b R ρ (e.setC n (some c')) σ (upd H (ρ n) o) where
  slot := m.slot
  cell := fun k c1 h => by
    rw [Env.cell_setC] at h
    by_cases q : n = k
    · subst q
      rw [if_pos rfl, if_pos (Env.cell_lt hc)] at h
      cases h
      exact hc'
    · rw [if_neg q] at h
      exact (m.cell k c1 h).mono (Same.refl R) (upd_ne fun z => q (m.inj n k c c1 hc h z.symm)) fun _ _ => rfl
  inj := fun k j c1 c2 h1 h2 hq => by
    have lv : ∀ {i : Nat} {c3 : Cell}, (e.setC n (some c')).cell i = some c3 → ∃ c4, e.cell i = some c4 := fun {i c3} h => by
      rw [Env.cell_setC] at h
      by_cases q : n = i
      · subst q; exact ⟨c, hc⟩
      · rw [if_neg q] at h; exact ⟨_, h⟩
    obtain ⟨c3, h3⟩ := lv h1
    obtain ⟨c4, h4⟩ := lv h2
    exact m.inj k j c3 c4 h3 h4 hq
  own := fun k c1 h => by
    rw [Env.cell_setC] at h
    by_cases q : n = k
    · subst q; exact m.own n c hc
    · rw [if_neg q] at h; exact m.own k c1 h
  par := m.par
  npl := m.npl
  sub := fun a u h => by
    rw [upd_ne fun q => by subst q; rw [(m.own n c hc).1] at h; cases h]
    exact m.sub a u h
  ext := m.ext
  new := m.new
  frame := fun a u h hn => by
    rw [upd_ne fun q => by
      subst q
      rcases (m.own n c hc).2 with z | z
      · exact hn (List.mem_of_getElem? (m.par n z))
      · rw [z] at h; cases h]
    exact m.frame a u h hn
  there := fun a u h => by
    by_cases q : a = ρ n
    · subst q; exact ⟨_, upd_same⟩
    · rw [upd_ne q]; exact m.there a u h
  len := m.len
theorem Md.setS (m : Md K b R ρ e σ H) {i : Nat} {w : W} {v : V} (r : RepW K R ρ w v) : Md K b R ρ (e.setS i (some w)) (σ.set i (some v)) H where
  slot := fun j w' h => by
    rw [Env.slot_setS] at h
    by_cases q : i = j
    · subst q
      rw [if_pos rfl] at h
      split at h
      · rename_i hl
        cases h
        refine ⟨v, ?_, r⟩
        rw [List.getElem?_set_self (by rw [m.len]; exact hl)]
      · cases h
    · rw [if_neg q] at h
      rw [List.getElem?_set_ne q]
      exact m.slot j w' h
  cell := m.cell
  inj := m.inj
  own := m.own
  par := m.par
  npl := m.npl
  sub := m.sub
  ext := m.ext
  new := m.new
  frame := m.frame
  there := m.there
  len := by
    show (σ.set i (some v)).length = (e.ws.set i (some w)).length
    rw [List.length_set, List.length_set]; exact m.len
/-- fewer claims -/
theorem Md.less (m : Md K b R ρ e σ H) {e' : Env} (hs : ∀ i w, e'.slot i = some w → e.slot i = some w) (hc : ∀ n c, e'.cell n = some c → e.cell n = some c) (hnp : e'.np = e.np) (hl : e'.ws.length = e.ws.length) : Md K b R ρ e' σ H where
  slot := fun i w h => m.slot i w (hs i w h)
  cell := fun n c h => m.cell n c (hc n c h)
  inj := fun n k c c' h h' q => m.inj n k c c' (hc n c h) (hc k c' h') q
  own := fun n c h => by rw [hnp]; exact m.own n c (hc n c h)
  par := fun n h => m.par n (by rw [← hnp]; exact h)
  npl := m.npl.trans hnp.symm
  sub := m.sub
  ext := m.ext
  new := m.new
  frame := m.frame
  there := m.there
  len := m.len.trans hl.symm
end
end Dl
end
section
set_option Elab.async false
set_option linter.all false
set_option maxRecDepth 100000
set_option maxHeartbeats 4000000
namespace Dl
open PySem L2
def substW (k : Nat) (x : D) : W → W
  | .loc n => if n = k then .d x else .loc n
  | .d y => .d y
def Cell.subst (k : Nat) (x : D) : Cell → Cell
  | .obj C fs => .obj C (fs.map fun f => (f.1, substW k x f.2))
  | .lw us => .lw (us.map (substW k x))
  | .tw us => .tw (us.map (substW k x))
  | .lst xs => .lst xs
  | .dic kvs => .dic kvs
  | .dct kvs => .dct kvs
  | .tbl P q => .tbl P q
def toDs : List W → Option (List D)
  | [] => some []
  | .d x :: r => (toDs r).map (x :: ·)
  | .loc _ :: _ => none
def toDf : List (Str × W) → Option (List (Str × D))
  | [] => some []
  | (n, .d x) :: r => (toDf r).map ((n, x) :: ·)
  | (_, .loc _) :: _ => none
def Cell.toD : Cell → Option D
  | .lst xs => some (.lst xs)
  | .dic kvs => some (.dic kvs)
  | .dct kvs => some (.dct kvs)
  | .obj C fs => (toDf fs).map (.obj C)
  | .lw us => (toDs us).map .lst
  | .tw us => (toDs us).map .tup
  | .tbl _ _ => none
def mapO {α β : Type} (f : α → β) : List (Option α) → List (Option β)
  | [] => []
  | some x :: r => some (f x) :: mapO f r
  | none :: r => none :: mapO f r
theorem mapO_eq {α β : Type} (f : α → β) : ∀ l : List (Option α), mapO f l = l.map (Option.map f)
  | [] => rfl
  | some x :: r => by rw [mapO, List.map_cons, mapO_eq f r]; rfl
  | none :: r => by rw [mapO, List.map_cons, mapO_eq f r]; rfl
def Env.sub (e : Env) (k : Nat) (x : D) : Env := { ws := mapO (substW k x) e.ws, M := (mapO (Cell.subst k x) e.M).set k none, np := e.np }
def frz (k : Nat) (e : Env) : Option Env :=
  if e.np ≤ k then
    match e.cell k with
    | some c => match c.toD with
      | some x => some (e.sub k x)
      | none => none
    | none => none
  else none
theorem toDs_rep {K : PySem.W.Frag} {R : Hp} {ρ : Nat → Addr} : ∀ {us : List W} {ds : List D} {vs : List V}, toDs us = some ds → Paired (RepW K R ρ) us vs → RepL K R ds vs
  | [], ds, _, h, .nil => by
    have e : [] = ds := Option.some.inj h
    subst e; exact .nil
  | .d x :: r, ds, _, h, .cons a t => by
    unfold toDs at h
    cases q : toDs r with
    | none => rw [q] at h; cases h
    | some es =>
      rw [q] at h
      have e : x :: es = ds := Option.some.inj h
      subst e
      exact .cons a (toDs_rep q t)
  | .loc _ :: _, _, _, h, _ => by cases h
theorem toDf_rep {K : PySem.W.Frag} {R : Hp} {ρ : Nat → Addr} : ∀ {us : List (Str × W)} {ds : List (Str × D)} {vs : List V}, toDf us = some ds → Paired (RepW K R ρ) (us.map (·.2)) vs → RepL K R (ds.map (·.2)) vs ∧ ds.map (·.1) = us.map (·.1)
  | [], ds, _, h, .nil => by
    have e : [] = ds := Option.some.inj h
    subst e; exact ⟨.nil, rfl⟩
  | (n, .d x) :: r, ds, _, h, .cons a t => by
    unfold toDf at h
    cases q : toDf r with
    | none => rw [q] at h; cases h
    | some es =>
      rw [q] at h
      have e : (n, x) :: es = ds := Option.some.inj h
      subst e
      obtain ⟨h1, h2⟩ := toDf_rep q t
      exact ⟨.cons a h1, by rw [List.map_cons, List.map_cons, h2]⟩
  | (_, .loc _) :: _, _, _, h, _ => by cases h
section
variable {K : PySem.W.Frag} {b : Bs} {R : Hp} {ρ : Nat → Addr} {e e' : Env} {σ : St} {H : Hp}
theorem slot_sub {k : Nat} {x : D} {i : Nat} {w : W} (h : (e.sub k x).slot i = some w) : ∃ w0, e.slot i = some w0 ∧ w = substW k x w0 := by
  unfold Env.slot Env.sub at h
  rw [mapO_eq, List.getElem?_map] at h
  unfold Env.slot
  cases q : e.ws[i]? with
  | none => rw [q] at h; cases h
  | some o =>
    rw [q] at h
    cases o with
    | none => cases h
    | some w0 => exact ⟨w0, rfl, (Option.some.inj h).symm⟩
theorem cell_sub {k : Nat} {x : D} {n : Nat} {c : Cell} (h : (e.sub k x).cell n = some c) : n ≠ k ∧ ∃ c0, e.cell n = some c0 ∧ c = c0.subst k x := by
  unfold Env.cell Env.sub at h
  simp only [mapO_eq] at h
  rw [List.getElem?_set] at h
  unfold Env.cell
  by_cases q : k = n
  · subst q
    rw [if_pos rfl] at h
    split at h <;> cases h
  · rw [if_neg q, List.getElem?_map] at h
    refine ⟨Ne.symm q, ?_⟩
    cases q2 : e.M[n]? with
    | none => rw [q2] at h; cases h
    | some o =>
      rw [q2] at h
      cases o with
      | none => cases h
      | some c0 => exact ⟨c0, rfl, (Option.some.inj h).symm⟩
theorem Md.frz {k : Nat} (m : Md K b R ρ e σ H) (h : frz k e = some e') : ∃ R', Same R R' ∧ Md K b R' ρ e' σ H := by
  unfold Dl.frz at h
  split at h
  · rename_i hnp
    cases hc : e.cell k with
    | none => rw [hc] at h; cases h
    | some c =>
      rw [hc] at h
      cases hx : c.toD with
      | none => simp only [hx] at h; cases h
      | some x =>
        simp only [hx] at h
        have h := Option.some.inj h
        subst h
        obtain ⟨o, ho⟩ := (m.cell k c hc).some
        have hRk : R (ρ k) = none := (m.own k c hc).1
        have sR : Same R (upd R (ρ k) o) := same_upd hRk
        have rep : Rep K (upd R (ρ k) o) x (.ref (ρ k)) := by
          have hk := m.cell k c hc
          cases c with
          | lst xs =>
            obtain ⟨vs, h1, h2⟩ := hk
            have e1 : D.lst xs = x := Option.some.inj hx
            subst e1
            rw [h1] at ho; cases ho
            exact .lst upd_same (RepL.mono sR h2)
          | dic kvs =>
            obtain ⟨ws, h1, h2, h3⟩ := hk
            have e1 : D.dic kvs = x := Option.some.inj hx
            subst e1
            rw [h1] at ho; cases ho
            exact .dic upd_same h2 (RepL.mono sR h3)
          | dct kvs =>
            obtain ⟨ws, h1, h2, h3⟩ := hk
            have e1 : D.dct kvs = x := Option.some.inj hx
            subst e1
            rw [h1] at ho; cases ho
            exact .dct upd_same h2 (RepL.mono sR h3)
          | obj C fs =>
            obtain ⟨dx, ws, h1, h2, h3⟩ := hk
            have hx : (toDf fs).map (D.obj C) = some x := hx
            cases q : toDf fs with
            | none => rw [q] at hx; cases hx
            | some ds =>
              rw [q] at hx
              have e1 : D.obj C ds = x := Option.some.inj hx
              subst e1
              rw [h1] at ho; cases ho
              obtain ⟨r1, r2⟩ := toDf_rep q h3
              exact .obj upd_same (h2.trans r2.symm) (RepL.mono sR r1)
          | tbl P q => cases hx
          | lw us =>
            obtain ⟨vs, h1, h2⟩ := hk
            have hx : (toDs us).map D.lst = some x := hx
            cases q : toDs us with
            | none => rw [q] at hx; cases hx
            | some ds =>
              rw [q] at hx
              have e1 : D.lst ds = x := Option.some.inj hx
              subst e1
              rw [h1] at ho; cases ho
              exact .lst upd_same (RepL.mono sR (toDs_rep q h2))
          | tw us =>
            obtain ⟨vs, h1, h2⟩ := hk
            have hx : (toDs us).map D.tup = some x := hx
            cases q : toDs us with
            | none => rw [q] at hx; cases hx
            | some ds =>
              rw [q] at hx
              have e1 : D.tup ds = x := Option.some.inj hx
              subst e1
              rw [h1] at ho; cases ho
              exact .tup upd_same (RepL.mono sR (toDs_rep q h2))
        have wsub : ∀ (w : W) (v : V), RepW K R ρ w v → RepW K (upd R (ρ k) o) ρ (substW k x w) v := fun w v r => by
          cases w with
          | d y => exact Rep.mono sR r
          | loc n =>
            show RepW K (upd R (ρ k) o) ρ (if n = k then .d x else .loc n) v
            by_cases q : n = k
            · rw [if_pos q]
              have r' : v = .ref (ρ n) := r
              subst q; subst r'
              exact rep
            · rw [if_neg q]; exact r
        refine ⟨upd R (ρ k) o, sR, ?_⟩
        refine ⟨fun i w h => ?_, fun n c' h => ?_, fun n n' c1 c2 h1 h2 q => ?_, fun n c' h => ?_, m.par, m.npl, fun a u h => ?_, m.ext.trans sR, fun a u h => ?_, m.frame, m.there, ?_⟩
        · obtain ⟨w0, h0, rfl⟩ := slot_sub h
          obtain ⟨v, h1, h2⟩ := m.slot i w0 h0
          exact ⟨v, h1, wsub _ _ h2⟩
        · obtain ⟨hn, c0, h0, rfl⟩ := cell_sub h
          have hc0 := m.cell n c0 h0
          cases c0 with
          | lst xs => exact hc0.mono (R' := upd R (ρ k) o) sR rfl fun _ _ => rfl
          | dic xs => exact hc0.mono (R' := upd R (ρ k) o) sR rfl fun _ _ => rfl
          | dct xs => exact hc0.mono (R' := upd R (ρ k) o) sR rfl fun _ _ => rfl
          | tbl P q => exact hc0.mono (R' := upd R (ρ k) o) sR rfl fun _ _ => rfl
          | obj C fs =>
            obtain ⟨dx, ws, q1, q2, q3⟩ := hc0
            refine ⟨dx, ws, q1, by rw [q2, List.map_map]; rfl, ?_⟩
            have e1 : (fs.map fun f => (f.1, substW k x f.2)).map (·.2) = (fs.map (·.2)).map (substW k x) := by rw [List.map_map, List.map_map]; rfl
            rw [e1]
            exact go wsub q3
          | lw us =>
            obtain ⟨vs, q1, q2⟩ := hc0
            exact ⟨vs, q1, go wsub q2⟩
          | tw us =>
            obtain ⟨vs, q1, q2⟩ := hc0
            exact ⟨vs, q1, go wsub q2⟩
        · obtain ⟨_, c3, h3, _⟩ := cell_sub h1
          obtain ⟨_, c4, h4, _⟩ := cell_sub h2
          exact m.inj n n' c3 c4 h3 h4 q
        · obtain ⟨hn, c0, h0, _⟩ := cell_sub h
          exact ⟨by rw [upd_ne fun z => hn (m.inj n k c0 c h0 hc z)]; exact (m.own n c0 h0).1, (m.own n c0 h0).2⟩
        · by_cases q : a = ρ k
          · subst q; rw [upd_same] at h; cases h; exact ho
          · rw [upd_ne q] at h; exact m.sub a u h
        · by_cases q : a = ρ k
          · subst q
            rcases (m.own k c hc).2 with z | z
            · omega
            · exact .inr z
          · rw [upd_ne q] at h; exact m.new a u h
        · show σ.length = (mapO (substW k x) e.ws).length
          rw [mapO_eq, List.length_map]; exact m.len
  · cases h
where
  go {F G : W → V → Prop} {g : W → W} (f : ∀ w v, F w v → G (g w) v) : ∀ {us : List W} {vs : List V}, Paired F us vs → Paired G (us.map g) vs
    | _, _, .nil => .nil
    | _, _, .cons a t => .cons (f _ _ a) (go f t)
end
end Dl
end
section
set_option Elab.async false
set_option linter.all false
set_option maxRecDepth 100000
set_option maxHeartbeats 4000000
namespace Dl
open PySem L2
structure Xn where
  C : Addr
  fs : Option (List (Str × D))
def ExR (K : PySem.W.Frag) (R : Hp) (x : Xn) (cls : Value) (d : Option Addr) : Prop :=
  cls = .ref x.C ∧ match x.fs with
    | none => d = none
    | some fs => ∃ a ws, d = some a ∧ R a = some (.xd ws) ∧ ws.map (·.1) = fs.map (·.1) ∧ RepL K R (fs.map (·.2)) (ws.map (·.2))
theorem ExR.mono {K : PySem.W.Frag} {R R' : Hp} {x : Xn} {cls : Value} {d : Option Addr} (s : Same R R') (h : ExR K R x cls d) : ExR K R' x cls d := by
  refine ⟨h.1, ?_⟩
  have q := h.2
  cases e : x.fs with
  | none => rw [e] at q; exact q
  | some fs =>
    rw [e] at q
    obtain ⟨a, ws, h1, h2, h3, h4⟩ := q
    exact ⟨a, ws, h1, s _ _ h2, h3, RepL.mono s h4⟩
inductive Rs (α : Type) where
  | ok (a : α) (e : Env)
  | exn (x : Xn) (e : Env)
  | fail
def Rs.bind {α γ : Type} (r : Rs α) (k : α → Env → Rs γ) : Rs γ :=
  match r with
  | .ok a e => k a e
  | .exn x e => .exn x e
  | .fail => .fail
abbrev Ev := Env → Rs W
def Live (e e' : Env) (ρ ρ' : Nat → Addr) : Prop := ∀ n c, e.cell n = some c → ρ' n = ρ n ∧ ∃ c', e'.cell n = some c'
theorem Live.refl (e : Env) (ρ : Nat → Addr) : Live e e ρ ρ := fun n c h => ⟨rfl, c, h⟩
theorem Live.trans {e e1 e2 : Env} {ρ ρ1 ρ2 : Nat → Addr} (a : Live e e1 ρ ρ1) (b : Live e1 e2 ρ1 ρ2) : Live e e2 ρ ρ2 := fun n c h => by
  obtain ⟨h1, c1, h2⟩ := a n c h
  obtain ⟨h3, c2, h4⟩ := b n c1 h2
  exact ⟨h3.trans h1, c2, h4⟩
def wl (e : Env) : W → Bool
  | .d _ => true
  | .loc n => (e.cell n).isSome
theorem RepW.later {K : PySem.W.Frag} {R R' : Hp} {e e' : Env} {ρ ρ' : Nat → Addr} {w : W} {v : V} (h : RepW K R ρ w v) (l : wl e w = true) (s : Same R R') (lv : Live e e' ρ ρ') : RepW K R' ρ' w v := by
  cases w with
  | d x => exact Rep.mono s h
  | loc n =>
    obtain ⟨c, hc⟩ := Option.isSome_iff_exists.mp (show (e.cell n).isSome = true from l)
    show v = .ref (ρ' n)
    rw [(lv n c hc).1]
    exact h
section
variable {K : PySem.W.Frag} {Wx : WX} {b : Bs} {R : Hp} {ρ : Nat → Addr} {e : Env} {σ : St} {H : Hp} {α β γ δ : Type}
/-- the relation of a result and what the machine hands over -/
abbrev Rl (α β : Type) := Hp → (Nat → Addr) → α → β → Prop
def OkR (K : PySem.W.Frag) (Wx : WX) (L : Rl α β) (b : Bs) (R : Hp) (ρ : Nat → Addr) (e : Env) (σ : St) (Q : β → Hp → Prop) : Rs α → Prop
  | .ok a e' => ∀ R' ρ' v H', Same R R' → Live e e' ρ ρ' → Md K b R' ρ' e' σ H' → L R' ρ' a v → Q v H'
  | .exn x e' => ∀ R' ρ' σ' H' cls d, Same R R' → Md K b R' ρ' e' σ' H' → ExR K R' x cls d → Wx cls d σ' H'
  | .fail => False
def tG (K : PySem.W.Frag) (Wx : WX) (L : Rl α β) (f : Env → Rs α) : St → Hp → (β → Hp → Prop) → Prop := fun σ H Q => ∃ b R ρ e, Md K b R ρ e σ H ∧ OkR K Wx L b R ρ e σ Q (f e)
abbrev lW (K : PySem.W.Frag) : Rl W V := fun R ρ => RepW K R ρ
abbrev lA (K : PySem.W.Frag) : Rl (List W) (List V) := fun R ρ => Paired (RepW K R ρ)
abbrev lB : Rl Bool Bool := fun _ _ => Eq
abbrev tD (K : PySem.W.Frag) (Wx : WX) (f : Ev) : TE := tG K Wx (lW K) f
abbrev tDA (K : PySem.W.Frag) (Wx : WX) (f : Env → Rs (List W)) : TA := tG K Wx (lA K) f
abbrev tDT (K : PySem.W.Frag) (Wx : WX) (f : Env → Rs Bool) : TT := tG K Wx lB f
theorem OkR.rebase {L : Rl α β} {R1 : Hp} {ρ1 : Nat → Addr} {e1 : Env} {Q : β → Hp → Prop} {r : Rs α} (s : Same R R1) (l : Live e e1 ρ ρ1) (h : OkR K Wx L b R ρ e σ Q r) : OkR K Wx L b R1 ρ1 e1 σ Q r := by
  cases r with
  | ok a e' => exact fun R' ρ' v H' s' l' m r => h R' ρ' v H' (s.trans s') (l.trans l') m r
  | exn x e' => exact fun R' ρ' σ' H' cls d s' m r => h R' ρ' σ' H' cls d (s.trans s') m r
  | fail => exact h
theorem OkR.bind {L : Rl α β} {L2 : Rl γ δ} {Q : δ → Hp → Prop} {r : Rs α} {k : α → Env → Rs γ} (h : OkR K Wx L2 b R ρ e σ Q (r.bind k)) :
    OkR K Wx L b R ρ e σ (fun v H1 => ∃ R1 ρ1 e1 a, Same R R1 ∧ Live e e1 ρ ρ1 ∧ Md K b R1 ρ1 e1 σ H1 ∧ L R1 ρ1 a v ∧ r = .ok a e1 ∧ OkR K Wx L2 b R1 ρ1 e1 σ Q (k a e1)) r := by
  cases r with
  | ok a e' => exact fun R' ρ' v H' s l m rp => ⟨R', ρ', e', a, s, l, m, rp, rfl, h.rebase s l⟩
  | exn x e' => exact h
  | fail => exact h
theorem OkR.imp {L : Rl α β} {Q Q' : β → Hp → Prop} {r : Rs α} (h : OkR K Wx L b R ρ e σ Q r) (hq : ∀ v H, Q v H → Q' v H) : OkR K Wx L b R ρ e σ Q' r := by
  cases r with
  | ok a e' => exact fun R' ρ' v H' s l m rp => hq _ _ (h R' ρ' v H' s l m rp)
  | exn x e' => exact h
  | fail => exact h
/-- one operand, then what the rule asks -/
theorem tG_one {L : Rl α β} {L2 : Rl γ δ} {f : Env → Rs α} {k : α → Env → Rs γ} {Q : δ → Hp → Prop} {Z : β → Hp → Prop} (h : tG K Wx L2 (fun e => (f e).bind k) σ H Q)
    (z : ∀ b R ρ e H a v, Md K b R ρ e σ H → L R ρ a v → OkR K Wx L2 b R ρ e σ Q (k a e) → Z v H) : tG K Wx L f σ H Z := by
  obtain ⟨b, R, ρ, e, m, h⟩ := h
  refine ⟨b, R, ρ, e, m, (OkR.bind (L := L) h).imp fun v H1 h1 => ?_⟩
  obtain ⟨R1, ρ1, e1, a, _, _, m1, r1, _, q⟩ := h1
  exact z b R1 ρ1 e1 H1 a v m1 r1 q
def bin2 (f1 f2 : Ev) (k : W → W → Env → Rs γ) : Env → Rs γ := fun e => (f1 e).bind fun w1 e1 => if wl e1 w1 = true then (f2 e1).bind (k w1) else .fail
theorem tG_two {L2 : Rl γ δ} {f1 f2 : Ev} {k : W → W → Env → Rs γ} {Q : δ → Hp → Prop} {Z : V → V → Hp → Prop} (h : tG K Wx L2 (bin2 f1 f2 k) σ H Q)
    (z : ∀ b R ρ e H w1 w2 v1 v2, Md K b R ρ e σ H → RepW K R ρ w1 v1 → RepW K R ρ w2 v2 → OkR K Wx L2 b R ρ e σ Q (k w1 w2 e) → Z v1 v2 H) : tD K Wx f1 σ H fun x H1 => tD K Wx f2 σ H1 fun y H2 => Z x y H2 := by
  refine tG_one h fun b R ρ e H1 w1 v1 m1 r1 q => ?_
  split at q
  · rename_i hl
    refine ⟨b, R, ρ, e, m1, (OkR.bind (L := lW K) q).imp fun v H2 h2 => ?_⟩
    obtain ⟨R2, ρ2, e2, w2, s2, l2, m2, r2, _, q2⟩ := h2
    exact z b R2 ρ2 e2 H2 w1 w2 v1 v m2 (r1.later hl s2 l2) r2 q2
  · exact q.elim
/-- the end of an operation that changes nothing -/
theorem OkR.fin {L : Rl α β} {Q : β → Hp → Prop} {a : α} {v : β} (h : OkR K Wx L b R ρ e σ Q (.ok a e)) (m : Md K b R ρ e σ H) (r : L R ρ a v) : Q v H := h R ρ v H (Same.refl R) (Live.refl e ρ) m r
/-- .. that lays a new frozen object -/
theorem OkR.finD {Q : VK} {z : D} {p : Addr} {o : HO} (h : OkR K Wx (lW K) b R ρ e σ Q (.ok (.d z) e)) (m : Md K b R ρ e σ H) (hp : H p = none) (r : Rep K (upd R p o) z (.ref p)) : Q (.ref p) (upd H p o) :=
  h _ ρ _ _ (same_upd (m.freshR hp)) (Live.refl e ρ) (m.freshD hp o) r
end
theorem _root_.L2.PE.imp {X : Cx} {a : Expr} {t t' : TE} (h : PE X a t) (i : ∀ σ H Q, t' σ H Q → t σ H Q) : PE X a t' := ⟨fun pins s σ H Q I q => h.run pins s σ H Q I (i σ H Q q)⟩
theorem _root_.L2.PT.imp {X : Cx} {a : Expr} {t t' : TT} (h : PT X a t) (i : ∀ σ H Q, t' σ H Q → t σ H Q) : PT X a t' := ⟨fun pins s σ H Q I q => h.run pins s σ H Q I (i σ H Q q)⟩
theorem _root_.L2.PW.imp {X : Cx} {a : Expr} {t t' : TT} (h : PW X a t) (i : ∀ σ H Q, t' σ H Q → t σ H Q) : PW X a t' := ⟨fun wh pins s σ H Q I q => h.run wh pins s σ H Q I (i σ H Q q)⟩
theorem _root_.L2.PA.imp {X : Cx} {a : List Expr} {t t' : TA} (h : PA X a t) (i : ∀ σ H Q, t' σ H Q → t σ H Q) : PA X a t' := ⟨fun pos pins s σ H Q I q => h.run pos pins s σ H Q I (i σ H Q q)⟩
theorem _root_.L2.PS.imp {X : Cx} {a : Stmt} {t t' : TS} (h : PS X a t) (i : ∀ D σ H, t' D σ H → t D σ H) : PS X a t' := ⟨fun pins s σ H D I q => h.run pins s σ H D I (i D σ H q)⟩
theorem _root_.L2.PSs.imp {X : Cx} {a : List Stmt} {t t' : TS} (h : PSs X a t) (i : ∀ D σ H, t' D σ H → t D σ H) : PSs X a t' := ⟨fun pins s σ H D I q => h.run pins s σ H D I (i D σ H q)⟩
theorem _root_.L2.PI.imp {X : Cx} {tg a : Expr} {t t' : TI} (h : PI X tg a t) (i : ∀ σ H Q, t' σ H Q → t σ H Q) : PI X tg a t' := ⟨fun pins s σ H Q I q => h.run pins s σ H Q I (i σ H Q q)⟩
section
variable {X : Cx} {Wx : WX} {a b c : Expr} {es : List Expr} {pos : Pos}
def eVar (i : Nat) : Ev := fun e => match e.slot i with | some w => .ok w e | none => .fail
def eC (d : D) : Ev := fun e => .ok (.d d) e
theorem d_var {i : Nat} {x : Str} {pos : Pos} (h : PE X (.Name x pos) (tVar i)) : PE X (.Name x pos) (tD X.K Wx (eVar i)) := h.imp fun σ H Q ⟨b, R, ρ, e, m, q⟩ => by
  unfold eVar at q
  cases hw : e.slot i with
  | none => rw [hw] at q; exact q.elim
  | some w =>
    rw [hw] at q
    obtain ⟨v, h1, h2⟩ := m.slot i w hw
    exact ⟨v, h1, q.fin m h2⟩
theorem d_c {d : D} {v : V} (h : PE X a (tC v)) (r : ∀ R, Rep X.K R d v) : PE X a (tD X.K Wx (eC d)) := h.imp fun σ H Q ⟨b, R, ρ, e, m, q⟩ => q.fin m (r R)
theorem d_int {i j pos} : PE X (.Constant (.int i) j pos) (tD X.K Wx (eC (.int i))) := d_c pe_int fun _ => .int i
theorem d_bl {i j pos} : PE X (.Constant (.bool i) j pos) (tD X.K Wx (eC (.bl i))) := d_c pe_bl fun _ => .bl i
theorem d_str {i j pos} : PE X (.Constant (.str i) j pos) (tD X.K Wx (eC (.str i))) := d_c pe_str fun _ => .str i
theorem d_non {j pos} : PE X (.Constant .none j pos) (tD X.K Wx (eC .non)) := d_c pe_non fun _ => .non
/-- a two-place operation on frozen data, no new object -/
def kD2 (g : D → D → Option D) (w1 w2 : W) : Ev := fun e => match w1, w2 with
  | .d x, .d y => match g x y with | some z => .ok (.d z) e | none => .fail
  | _, _ => .fail
def eOp (g : D → D → Option D) (f1 f2 : Ev) : Ev := bin2 f1 f2 (kD2 g)
/-- what a rule asks follows from the data's answer: it changes nothing, or lays one new object -/
def OpD (K : PySem.W.Frag) (g : D → D → Option D) (r : R2) : Prop :=
  ∀ (x y z : D) (v u : V) (R H : Hp) (Q : VK), g x y = some z → Rep K R x v → Rep K R y u → Same R H → (∀ q, Rep K R z q → Q q H) → (∀ p o, H p = none → Rep K (upd R p o) z (.ref p) → Q (.ref p) (upd H p o)) → r v u H Q
theorem OpD.run {K : PySem.W.Frag} {g : D → D → Option D} {r : R2} (o : OpD K g r) {bs : Bs} {R : Hp} {ρ : Nat → Addr} {e : Env} {σ : St} {H : Hp} {w1 w2 : W} {v1 v2 : V} {Q : VK} (m : Md K bs R ρ e σ H) (r1 : RepW K R ρ w1 v1) (r2 : RepW K R ρ w2 v2)
    (q : OkR K Wx (lW K) bs R ρ e σ Q (kD2 g w1 w2 e)) : r v1 v2 H Q := by
  cases w1 with
  | loc n => exact q.elim
  | d x =>
    cases w2 with
    | loc n => exact q.elim
    | d y =>
      unfold kD2 at q
      cases hg : g x y with
      | none => simp only [hg] at q; exact q.elim
      | some z =>
        simp only [hg] at q
        exact o x y z v1 v2 R H Q hg r1 r2 m.sub (fun u ru => q.fin m ru) fun p ob hp rp => q.finD m hp rp
theorem d_op {op : Operator} {r : R2} {g : D → D → Option D} {f1 f2 : Ev} (ho : OpR X (binaryOp op) r) (hd : OpD X.K g r) (ha : PE X a (tD X.K Wx f1)) (hb : PE X b (tD X.K Wx f2)) : PE X (.BinOp a op b pos) (tD X.K Wx (eOp g f1 f2)) :=
  (pe_op ho ha hb).imp fun σ H Q h => tG_two h fun bs R ρ e H w1 w2 v1 v2 m r1 r2 q => hd.run (Wx := Wx) m r1 r2 q
theorem d_cmp {op : CmpOp} {r : R2} {g : D → D → Option D} {f1 f2 : Ev} (ho : OpR X (compareOp op) r) (hd : OpD X.K g r) (ha : PE X a (tD X.K Wx f1)) (hb : PE X b (tD X.K Wx f2)) (hm : behindInMarks op b = false) : PE X (.Compare a [op] [b] pos) (tD X.K Wx (eOp g f1 f2)) :=
  (pe_cmpR ho ha hb hm).imp fun σ H Q h => tG_two h fun bs R ρ e H w1 w2 v1 v2 m r1 r2 q => hd.run (Wx := Wx) m r1 r2 q
/-- .. as a test -/
def kB2 (g : D → D → Option Bool) (w1 w2 : W) : Env → Rs Bool := fun e => match w1, w2 with
  | .d x, .d y => match g x y with | some z => .ok z e | none => .fail
  | _, _ => .fail
def bOp (g : D → D → Option Bool) (f1 f2 : Ev) : Env → Rs Bool := bin2 f1 f2 (kB2 g)
def blG (g : D → D → Option Bool) : D → D → Option D := fun x y => match g x y with | some z => some (.bl z) | none => none
def OpB (K : PySem.W.Frag) (g : D → D → Option Bool) (r : R2) : Prop :=
  ∀ (x y : D) (z : Bool) (v u : V) (R H : Hp) (Q : VK), g x y = some z → Rep K R x v → Rep K R y u → Same R H → Q (.bl z) H → r v u H Q
theorem OpB.d {K : PySem.W.Frag} {g : D → D → Option Bool} {r : R2} (o : OpB K g r) : OpD K (blG g) r := fun x y z v u R H Q hg r1 r2 s q _ => by
  unfold blG at hg
  cases hz : g x y with
  | none => rw [hz] at hg; cases hg
  | some k =>
    rw [hz] at hg
    have e : D.bl k = z := Option.some.inj hg
    subst e
    exact o x y k v u R H Q hz r1 r2 s (q _ (.bl k))
theorem OpB.run {K : PySem.W.Frag} {g : D → D → Option Bool} {r : R2} (o : OpB K g r) {bs : Bs} {R : Hp} {ρ : Nat → Addr} {e : Env} {σ : St} {H : Hp} {w1 w2 : W} {v1 v2 : V} {Q : Bool → Hp → Prop} (m : Md K bs R ρ e σ H) (r1 : RepW K R ρ w1 v1) (r2 : RepW K R ρ w2 v2)
    (q : OkR K Wx lB bs R ρ e σ Q (kB2 g w1 w2 e)) : r v1 v2 H (fun x H' => ∃ k, x = .bl k ∧ Q k H') := by
  cases w1 with
  | loc n => exact q.elim
  | d x =>
    cases w2 with
    | loc n => exact q.elim
    | d y =>
      unfold kB2 at q
      cases hg : g x y with
      | none => simp only [hg] at q; exact q.elim
      | some z =>
        simp only [hg] at q
        exact o x y z v1 v2 R H _ hg r1 r2 m.sub ⟨z, rfl, q.fin m rfl⟩
theorem t_cmp {op : CmpOp} {r : R2} {g : D → D → Option Bool} {f1 f2 : Ev} (ho : OpR X (compareOp op) r) (hd : OpB X.K g r) (ha : PE X a (tD X.K Wx f1)) (hb : PE X b (tD X.K Wx f2)) (hm : behindInMarks op b = false) : PT X (.Compare a [op] [b] pos) (tDT X.K Wx (bOp g f1 f2)) :=
  (pt_cmpR ho ha hb hm).imp fun σ H Q h => tG_two h fun bs R ρ e H w1 w2 v1 v2 m r1 r2 q => hd.run (Wx := Wx) m r1 r2 q
/-- a op b op c -/
def bChain (g g' : D → D → Option Bool) (f1 f2 f3 : Ev) : Env → Rs Bool := bin2 f1 f2 fun w1 w2 e => (kB2 g w1 w2 e).bind fun k e1 => if k = true then (if wl e1 w2 = true then (f3 e1).bind (kB2 g' w2) else .fail) else .ok false e1
/-- .. as a value -/
theorem d_test {f : Env → Rs Bool} (h : PE X a (fun σ H Q => tDT X.K Wx f σ H fun k H1 => Q (.bl k) H1)) : PE X a (tD X.K Wx fun e => (f e).bind fun k e1 => .ok (.d (.bl k)) e1) := h.imp fun σ H Q q =>
  tG_one q fun bs R ρ e H k v m r q2 => by
    have e1 : k = v := r
    subst e1
    exact q2.fin m (Rep.bl k)
theorem t_not {f : Env → Rs Bool} (h : PT X a (tDT X.K Wx f)) : PT X (.UnaryOp .Not a pos) (tDT X.K Wx fun e => (f e).bind fun k e1 => .ok (!k) e1) := (pt_not h).imp fun σ H Q q =>
  tG_one q fun bs R ρ e H k v m r q2 => by
    have e1 : k = v := r
    subst e1
    exact q2.fin m rfl
def bAnd (f g : Env → Rs Bool) : Env → Rs Bool := fun e => (f e).bind fun k e1 => if k = true then g e1 else .ok false e1
def bOr (f g : Env → Rs Bool) : Env → Rs Bool := fun e => (f e).bind fun k e1 => if k = true then .ok true e1 else g e1
theorem w_and1 {f : Env → Rs Bool} (h : PT X a (tDT X.K Wx f)) : PW X (.BoolOp .And [a] pos) (tDT X.K Wx f) := pw_and1 h
theorem w_or1 {f : Env → Rs Bool} (h : PT X a (tDT X.K Wx f)) : PW X (.BoolOp .Or [a] pos) (tDT X.K Wx f) := pw_or1 h
theorem w_and {f g : Env → Rs Bool} (h : PT X a (tDT X.K Wx f)) (h2 : PW X (.BoolOp .And (b :: es) pos) (tDT X.K Wx g)) : PW X (.BoolOp .And (a :: b :: es) pos) (tDT X.K Wx (bAnd f g)) := (pw_and h h2).imp fun σ H Q q =>
  tG_one q fun bs R ρ e H k v m r q2 => by
    have e1 : k = v := r
    subst e1
    cases k with
    | true => rw [if_pos rfl] at q2 ⊢; exact ⟨bs, R, ρ, e, m, q2⟩
    | false => exact q2.fin m rfl
theorem w_or {f g : Env → Rs Bool} (h : PT X a (tDT X.K Wx f)) (h2 : PW X (.BoolOp .Or (b :: es) pos) (tDT X.K Wx g)) : PW X (.BoolOp .Or (a :: b :: es) pos) (tDT X.K Wx (bOr f g)) := (pw_or h h2).imp fun σ H Q q =>
  tG_one q fun bs R ρ e H k v m r q2 => by
    have e1 : k = v := r
    subst e1
    cases k with
    | false => exact ⟨bs, R, ρ, e, m, q2⟩
    | true => exact q2.fin m rfl
/-- truth of a value -/
def truD : D → Option Bool
  | .non => some false
  | .bl b => some b
  | .int i => some (i != 0)
  | .str x => if x.length ≤ sizeLine then some ((x.length : Int) != 0) else none
  | .lst xs => some (!xs.isEmpty)
  | .rd xs => some (!xs.isEmpty)
  | .tup xs => some (!xs.isEmpty)
  | .dic kvs => some (!kvs.isEmpty)
  | .obj _ _ => none
  | .dct _ => none
  | .fn _ => none
def kTru (w : W) : Env → Rs Bool := fun e => match w with
  | .d x => match truD x with | some k => .ok k e | none => .fail
  | .loc n => match e.cell n with
    | some (.lst xs) => .ok (!xs.isEmpty) e
    | _ => .fail
def bTru (f : Ev) : Env → Rs Bool := fun e => (f e).bind kTru
theorem RepL.isEmpty {K : PySem.W.Frag} {R : Hp} {ds : List D} {vs : List V} (h : RepL K R ds vs) : vs.isEmpty = ds.isEmpty := by cases h <;> rfl
theorem t_truth {f : Ev} (ha : PE X a (tD X.K Wx f)) (he : ∀ whole, isTrue a X.env whole = (do let v ← whole; standAt a.pos; holding [v] (truthy v))) : PT X a (tDT X.K Wx (bTru f)) := (pt_truth ha he).imp fun σ H Q q =>
  tG_one q fun bs R ρ e H w v m r q2 => by
    cases w with
    | loc n =>
      unfold kTru at q2
      cases hc : e.cell n with
      | none => simp only [hc] at q2; exact q2.elim
      | some c =>
        simp only [hc] at q2
        cases c with
        | lst xs =>
          obtain ⟨vs, h1, h2⟩ := m.cell n _ hc
          have e1 : v = .ref (ρ n) := r
          subst e1
          exact ⟨!xs.isEmpty, .inl ⟨vs, SqL.of h1, by rw [h2.isEmpty]⟩, q2.fin m rfl⟩
        | _ => exact q2.elim
    | d x =>
      unfold kTru at q2
      cases ht : truD x with
      | none => simp only [ht] at q2; exact q2.elim
      | some k =>
        simp only [ht] at q2
        refine ⟨k, ?_, q2.fin m rfl⟩
        have r : Rep X.K R x v := r
        cases r with
        | non => cases ht; rfl
        | bl c => cases ht; rfl
        | int i => cases ht; rfl
        | str y =>
          have ht : (if y.length ≤ sizeLine then some ((y.length : Int) != 0) else none) = some k := ht
          by_cases hl : y.length ≤ sizeLine
          · rw [if_pos hl] at ht
            cases ht
            exact ⟨hl, rfl⟩
          · rw [if_neg hl] at ht
            cases ht
        | lst h1 h2 => cases ht; exact .inl ⟨_, SqL.of (m.sub _ _ h1), by rw [h2.isEmpty]⟩
        | rd h1 h2 => cases ht; exact .inl ⟨_, m.sub.seq h1, by rw [h2.isEmpty]⟩
        | tup h1 h2 => cases ht; exact .inr (.inl ⟨_, (SqT.of (m.sub _ _ h1)), by rw [h2.isEmpty]⟩)
        | dic h1 h2 h3 =>
          cases ht
          refine .inr (.inr ⟨_, m.sub _ _ h1, ?_⟩)
          have e1 := congrArg List.isEmpty h2
          rw [List.isEmpty_map, List.isEmpty_map] at e1
          rw [e1]
        | obj h1 h2 h3 => cases ht
        | dct h1 h2 h3 => cases ht
        | fn f => cases ht
def evA : List Ev → Env → Rs (List W)
  | [], e => .ok [] e
  | f :: fs, e => (f e).bind fun w e1 => if wl e1 w = true then (evA fs e1).bind fun ws e2 => .ok (w :: ws) e2 else .fail
theorem a_nil : PA X [] (tDA X.K Wx (evA [])) := pa_nil.imp fun σ H Q ⟨b, R, ρ, e, m, q⟩ => q.fin m .nil
theorem a_cons {f : Ev} {fs : List Ev} (ha : PE X a (tD X.K Wx f)) (hr : PA X es (tDA X.K Wx (evA fs))) (hs : starEach (a :: es) X.env = (false, eval a X.env) :: starEach es X.env := by rfl) : PA X (a :: es) (tDA X.K Wx (evA (f :: fs))) := (pa_cons ha hr hs).imp fun σ H Q q =>
  tG_one q fun bs R ρ e H w v m r q2 => by
    split at q2
    · rename_i hl
      refine ⟨bs, R, ρ, e, m, (OkR.bind (L := lA X.K) q2).imp fun vs H2 h2 => ?_⟩
      obtain ⟨R2, ρ2, e2, ws, s2, l2, m2, r2, _, q3⟩ := h2
      exact q3.fin m2 (.cons (r.later hl s2 l2) r2)
    · exact q2.elim
end
end Dl
end
section
set_option Elab.async false
set_option linter.all false
set_option maxRecDepth 100000
set_option maxHeartbeats 4000000
namespace Dl
open PySem L2
section
variable {K : PySem.W.Frag}
def addD : D → D → Option D
  | .int i, .int j => some (.int (i + j))
  | .str x, .str y => if x.length + y.length ≤ sizeLine then some (.str (x ++ y)) else none
  | .lst xs, .lst ys => if xs.length + ys.length ≤ sizeLine then some (.lst (xs ++ ys)) else none
  | .tup xs, .tup ys => if xs.length + ys.length ≤ sizeLine then some (.tup (xs ++ ys)) else none
  | _, _ => none
abbrev rAddS : R2 := fun x y H Q => ∃ i j, x = .str i ∧ y = .str j ∧ i.length + j.length ≤ sizeLine ∧ Q (.str (i ++ j)) H
abbrev rAddD (K : PySem.W.Frag) : R2 := fun x y H Q => rI0 (fun i j => .int (i + j)) x y H Q ∨ rAddS x y H Q ∨ rCat x y H Q ∨ rCatA K x y H Q
theorem op_addD {X : Cx} : OpR X (binaryOp .Add) (rAddD X.K) := op_add.or (op_add_str.or (op_cat.or op_catA))
theorem addD_ok : OpD K addD (rAddD K) := fun x y z v u R H Q hg r1 r2 s q n => by
  unfold addD at hg
  split at hg
  · cases hg; cases r1; cases r2
    exact .inl ⟨_, _, rfl, rfl, q _ (.int _)⟩
  · split at hg
    · rename_i hl
      cases hg; cases r1; cases r2
      exact .inr (.inl ⟨_, _, rfl, rfl, hl, q _ (.str _)⟩)
    · cases hg
  · split at hg
    · rename_i hl
      cases hg
      cases r1 with
      | lst h1 l1 =>
        cases r2 with
        | lst h2 l2 =>
          refine .inr (.inr (.inl ⟨_, _, _, _, rfl, rfl, s _ _ h1, s _ _ h2, by rw [← l1.length, ← l2.length]; exact hl, fun p hp => n p _ hp ?_⟩))
          have fr := s.free hp
          exact .lst upd_same ((RepL.mono (same_upd fr) l1).append (RepL.mono (same_upd fr) l2))
    · cases hg
  · split at hg
    · rename_i hl
      cases hg
      cases r1 with
      | tup h1 l1 =>
        cases r2 with
        | tup h2 l2 =>
          refine .inr (.inr (.inr ⟨_, _, _, _, rfl, rfl, (SqT.of (s _ _ h1)), (SqT.of (s _ _ h2)), by rw [← l1.length, ← l2.length]; exact hl, fun e => ?_, fun e e' => ?_, fun e e' p hp => n p _ hp ?_⟩))
          · subst e
            cases l1
            exact q _ (.tup h2 l2)
          · subst e'
            cases l2
            rw [List.append_nil] at q
            exact q _ (.tup h1 l1)
          · have fr := s.free hp
            exact .tup upd_same ((RepL.mono (same_upd fr) l1).append (RepL.mono (same_upd fr) l2))
    · cases hg
  · cases hg
def intD (g : Int → Int → Option Int) : D → D → Option D
  | .int i, .int j => match g i j with | some k => some (.int k) | none => none
  | _, _ => none
theorem intD_ok {C : Int → Int → Prop} {f : Int → Int → Int} {g : Int → Int → Option Int} (h : ∀ i j k, g i j = some k → C i j ∧ k = f i j) : OpD K (intD g) (rI C fun i j => .int (f i j)) := fun x y z v u R H Q hg r1 r2 s q n => by
  unfold intD at hg
  split at hg
  · rename_i i j
    cases hk : g i j with
    | none => simp only [hk] at hg; cases hg
    | some k =>
      simp only [hk] at hg; cases hg; cases r1; cases r2
      obtain ⟨h1, h2⟩ := h i j k hk
      exact ⟨i, j, rfl, rfl, h1, by subst h2; exact q _ (.int _)⟩
  · cases hg
theorem intD_ok0 {f : Int → Int → Int} {g : Int → Int → Option Int} (h : ∀ i j k, g i j = some k → k = f i j) : OpD K (intD g) (rI0 fun i j => .int (f i j)) := fun x y z v u R H Q hg r1 r2 s q n => by
  unfold intD at hg
  split at hg
  · rename_i i j
    cases hk : g i j with
    | none => simp only [hk] at hg; cases hg
    | some k =>
      simp only [hk] at hg; cases hg; cases r1; cases r2
      exact ⟨i, j, rfl, rfl, by have h2 := h i j k hk; subst h2; exact q _ (.int _)⟩
  · cases hg
def subD : D → D → Option D := intD fun i j => some (i - j)
theorem subD_ok : OpD K subD (rI0 fun i j => .int (i - j)) := intD_ok0 fun i j k h => (Option.some.inj h).symm
instance (i j : Int) : Decidable (CMul i j) := by unfold CMul; infer_instance
def mulI (i j : Int) : Option Int := if CMul i j then some (i * j) else none
def mulD : D → D → Option D
  | .int i, .int j => match mulI i j with | some k => some (.int k) | none => none
  | .lst xs, .int j => if -(2 ^ 63) ≤ j ∧ j < 2 ^ 63 ∧ xs.length * j.toNat ≤ sizeLine then some (.lst (List.replicate j.toNat xs).flatten) else none
  | _, _ => none
abbrev rMulD : R2 := fun x y H Q => rI CMul (fun i j => .int (i * j)) x y H Q ∨ rRep x y H Q
theorem op_mulD {X : Cx} : OpR X (binaryOp .Mult) rMulD := op_mul.or op_rep
theorem RepL.flat {R : Hp} {ds : List D} {vs : List V} (h : RepL K R ds vs) : ∀ k : Nat, RepL K R (List.replicate k ds).flatten (List.replicate k vs).flatten
  | 0 => .nil
  | k + 1 => by
    rw [List.replicate_succ, List.replicate_succ, List.flatten_cons, List.flatten_cons]
    exact h.append (h.flat k)
theorem mulD_ok : OpD K mulD rMulD := fun x y z v u R H Q hg r1 r2 s q n => by
  unfold mulD at hg
  split at hg
  · rename_i i j
    unfold mulI at hg
    by_cases hc : CMul i j
    · rw [if_pos hc] at hg; cases hg; cases r1; cases r2
      exact .inl ⟨i, j, rfl, rfl, hc, q _ (.int _)⟩
    · rw [if_neg hc] at hg; cases hg
  · split at hg
    · rename_i hl
      cases hg
      cases r2
      cases r1 with
      | lst h1 l1 =>
        refine .inr ⟨_, _, _, rfl, rfl, s _ _ h1, hl.1, hl.2.1, by rw [← l1.length]; exact hl.2.2, fun p hp => n p _ hp ?_⟩
        exact .lst upd_same (RepL.flat (RepL.mono (same_upd (s.free hp)) l1) _)
    · cases hg
  · cases hg
instance (i j : Int) : Decidable (CDivN i j) := by unfold CDivN; infer_instance
instance (i j : Int) : Decidable (CPow i j) := by unfold CPow; infer_instance
def fdivD : D → D → Option D := intD fun i j => if CDivN i j then some (i.fdiv j) else none
theorem fdivD_ok : OpD K fdivD (rI CDivN fun i j => .int (i.fdiv j)) := intD_ok fun i j k h => by
  split at h
  · rename_i hc; exact ⟨hc, (Option.some.inj h).symm⟩
  · cases h
def modD : D → D → Option D := intD fun i j => if j ≠ 0 then some (i.fmod j) else none
theorem modD_ok : OpD K modD (rI (fun _ j => j ≠ 0) fun i j => .int (i.fmod j)) := intD_ok fun i j k h => by
  split at h
  · rename_i hc; exact ⟨hc, (Option.some.inj h).symm⟩
  · cases h
def cmpB (p : Int → Int → Bool) : D → D → Option Bool
  | .int i, .int j => some (p i j)
  | _, _ => none
theorem cmpB_ok (p : Int → Int → Bool) : OpB K (cmpB p) (rI0 fun i j => .bl (p i j)) := fun x y z v u R H Q hg r1 r2 s q => by
  unfold cmpB at hg
  split at hg
  · cases hg; cases r1; cases r2
    exact ⟨_, _, rfl, rfl, q⟩
  · cases hg
def strLt (x y : Str) : Bool := decide (x.cps.toList < y.cps.toList)
def ltB : D → D → Option Bool
  | .int i, .int j => some (decide (i < j))
  | .str x, .str y => some (strLt x y)
  | _, _ => none
theorem ltB_ok : OpB K ltB (fun x y H Q => rI0 (fun i j => .bl (decide (i < j))) x y H Q ∨ ∃ i j, x = .str i ∧ y = .str j ∧ Q (.bl (decide (i.cps.toList < j.cps.toList))) H) := fun x y z v u R H Q hg r1 r2 s q => by
  unfold ltB at hg
  split at hg
  · cases hg; cases r1; cases r2
    exact .inl ⟨_, _, rfl, rfl, q⟩
  · cases hg; cases r1; cases r2
    exact .inr ⟨_, _, rfl, rfl, q⟩
  · cases hg
theorem op_ltB {X : Cx} : OpR X (compareOp .Lt) (fun x y H Q => rI0 (fun i j => .bl (decide (i < j))) x y H Q ∨ ∃ i j, x = .str i ∧ y = .str j ∧ Q (.bl (decide (i.cps.toList < j.cps.toList))) H) := op_lt.or op_lt_str
abbrev gtB : D → D → Option Bool := cmpB fun i j => decide (j < i)
abbrev geB : D → D → Option Bool := cmpB fun i j => decide (j ≤ i)
mutual
def toPy : D → Option PyData
  | .non => some .none
  | .bl b => some (.bool b)
  | .int i => some (.int i)
  | .str x => some (.str x)
  | .lst xs => match toPyL xs with | some ys => some (.list ys) | none => none
  | .rd xs => match toPyL xs with | some ys => some (.list ys) | none => none
  | .tup xs => match toPyL xs with | some ys => some (.tuple ys) | none => none
  | .dic _ => none
  | .obj _ _ => none
  | .dct _ => none
  | .fn _ => none
def toPyL : List D → Option (List PyData)
  | [] => some []
  | x :: xs => match toPy x, toPyL xs with | some y, some ys => some (y :: ys) | _, _ => none
end
mutual
theorem toPy_dp {R H : Hp} (s : Same R H) : ∀ {d : D} {v : V} {p : PyData}, toPy d = some p → Rep K R d v → Dp K H v p
  | .non, _, _, h, r => by cases r; cases h; exact .non
  | .bl b, _, _, h, r => by cases r; cases h; exact .bl b
  | .int b, _, _, h, r => by cases r; cases h; exact .int b
  | .str b, _, _, h, r => by cases r; cases h; exact .str b
  | .lst xs, _, _, h, r => by
    unfold toPy at h
    cases e : toPyL xs with
    | none => rw [e] at h; cases h
    | some ys =>
      rw [e] at h; cases h
      cases r with
      | lst h1 l1 => exact .lst (SqL.of (s _ _ h1)) (toPyL_dp s e l1)
  | .rd xs, _, _, h, r => by
    unfold toPy at h
    cases e : toPyL xs with
    | none => rw [e] at h; cases h
    | some ys =>
      rw [e] at h; cases h
      cases r with
      | rd h1 l1 => exact .lst (s.seq h1) (toPyL_dp s e l1)
  | .tup xs, _, _, h, r => by
    unfold toPy at h
    cases e : toPyL xs with
    | none => rw [e] at h; cases h
    | some ys =>
      rw [e] at h; cases h
      cases r with
      | tup h1 l1 => exact .tup ((SqT.of (s _ _ h1))) (toPyL_dp s e l1)
  | .dic _, _, _, h, _ => by unfold toPy at h; cases h
  | .obj _ _, _, _, h, _ => by unfold toPy at h; cases h
  | .dct _, _, _, h, _ => by unfold toPy at h; cases h
theorem toPyL_dp {R H : Hp} (s : Same R H) : ∀ {ds : List D} {vs : List V} {ps : List PyData}, toPyL ds = some ps → RepL K R ds vs → DpAll K H vs ps
  | [], _, _, h, r => by cases r; unfold toPyL at h; cases h; exact .nil
  | x :: xs, _, _, h, r => by
    unfold toPyL at h
    cases r with
    | cons r1 r2 =>
      cases e1 : toPy x with
      | none => rw [e1] at h; cases h
      | some y =>
        cases e2 : toPyL xs with
        | none => rw [e1, e2] at h; cases h
        | some ys =>
          rw [e1, e2] at h; cases h
          exact .cons (toPy_dp s e1 r1) (toPyL_dp s e2 r2)
end
def eqG (x y : D) : Option Bool :=
  match toPy x, toPy y with
  | some p, some q => if SeqAt.shaped p = true ∧ SeqAt.shaped q = true then some (PyData.eqv p q) else none
  | _, _ => none
/-- ==: flat data plainly, else by the data's own equality -/
def eqB : D → D → Option Bool
  | .non, .non => some true
  | .non, .int _ => some false
  | .int _, .non => some false
  | .non, .bl _ => some false
  | .bl _, .non => some false
  | .non, .str _ => some false
  | .str _, .non => some false
  | .int i, .int j => some (i == j)
  | .bl i, .bl j => some (i == j)
  | .str i, .str j => some (i == j)
  | .int _, .str _ => some false
  | .str _, .int _ => some false
  | .bl _, .str _ => some false
  | .str _, .bl _ => some false
  | x, y => eqG x y
def neB (x y : D) : Option Bool := match eqB x y with | some b => some (!b) | none => none
theorem eqB_ok : OpB K eqB (fun x y H Q => rEq x y H Q ∨ rEqD K x y H Q) := fun x y z v u R H Q hg r1 r2 s q => by
  unfold eqB at hg
  split at hg
  case h_15 =>
    right
    unfold eqG at hg
    split at hg
    · rename_i p p' e1 e2
      split at hg
      · rename_i hs
        cases hg
        exact ⟨p, p', toPy_dp s e1 r1, toPy_dp s e2 r2, hs.1, hs.2, q⟩
      · cases hg
    · cases hg
  all_goals
    left
    cases hg
    cases r1
    cases r2
    refine ⟨rfl, ?_⟩
    first
      | exact q
      | (rw [show ∀ (a b : V), a ≠ b → decide (a = b) = false from fun a b h => decide_eq_false h] <;> first | exact q | (intro z; cases z))
      | (rw [dec_int]; exact q)
      | (rw [dec_bl]; exact q)
      | (rw [dec_str]; exact q)
theorem neB_ok : OpB K neB (fun x y H Q => rNe x y H Q ∨ rNeD K x y H Q) := fun x y z v u R H Q hg r1 r2 s q => by
  unfold neB at hg
  cases he : eqB x y with
  | none => rw [he] at hg; cases hg
  | some k =>
    rw [he] at hg
    have e : (!k) = z := Option.some.inj hg
    subst e
    have h := eqB_ok x y k v u R H (fun a H' => ∃ c, a = .bl c ∧ Q (.bl (!c)) H') he r1 r2 s ⟨k, rfl, q⟩
    rcases h with ⟨h1, c, h2, h3⟩ | ⟨d, e, h1, h2, h3, h4, c, h5, h6⟩
    · refine .inl ⟨h1, ?_⟩
      cases h2
      exact h3
    · refine .inr ⟨d, e, h1, h2, h3, h4, ?_⟩
      cases h5
      exact h6
theorem op_eqB {X : Cx} (hu : X.A.units + 64 < cLine) : OpR X (compareOp .Eq) (fun x y H Q => rEq x y H Q ∨ rEqD X.K x y H Q) := op_eq.or (op_eqD hu)
theorem op_neB {X : Cx} (hu : X.A.units + 64 < cLine) : OpR X (compareOp .NotEq) (fun x y H Q => rNe x y H Q ∨ rNeD X.K x y H Q) := op_ne.or (op_neD hu)
def isNoneD : D → Bool
  | .non => true
  | _ => false
theorem rep_none {R : Hp} {x : D} {v : V} (r : Rep K R x v) : decide (v = .non) = isNoneD x := by
  cases r <;> first | rfl | (apply decide_eq_false; intro z; cases z)
def isNB : D → D → Option Bool
  | x, .non => some (isNoneD x)
  | _, _ => none
theorem isNB_ok : OpB K isNB (fun x y H Q => y = .non ∧ Q (.bl (decide (x = .non))) H) := fun x y z v u R H Q hg r1 r2 s q => by
  unfold isNB at hg
  split at hg
  · cases hg; cases r2
    exact ⟨rfl, by rw [rep_none r1]; exact q⟩
  · cases hg
def notNB : D → D → Option Bool
  | x, .non => some (!isNoneD x)
  | _, _ => none
theorem notNB_ok : OpB K notNB (fun x y H Q => y = .non ∧ Q (.bl (!decide (x = .non))) H) := fun x y z v u R H Q hg r1 r2 s q => by
  unfold notNB at hg
  split at hg
  · cases hg; cases r2
    exact ⟨rfl, by rw [rep_none r1]; exact q⟩
  · cases hg
def flatD : D → Option V
  | .non => some .non
  | .bl b => some (.bl b)
  | .int i => some (.int i)
  | .str x => some (.str x)
  | _ => none
theorem flatD_rep {R : Hp} {x : D} {v w : V} (h : flatD x = some w) (r : Rep K R x v) : v = w ∧ flatV v = true := by
  cases r <;> first | (cases h; exact ⟨rfl, rfl⟩) | cases h
def flatL : List D → Option (List V)
  | [] => some []
  | x :: xs => match flatD x, flatL xs with | some v, some vs => some (v :: vs) | _, _ => none
theorem flatL_rep {R : Hp} : ∀ {xs : List D} {vs ws : List V}, flatL xs = some ws → RepL K R xs vs → vs = ws ∧ vs.all flatV = true
  | [], _, _, h, .nil => by cases h; exact ⟨rfl, rfl⟩
  | x :: xs, _, _, h, .cons a b => by
    unfold flatL at h
    cases e1 : flatD x with
    | none => rw [e1] at h; cases h
    | some w =>
      cases e2 : flatL xs with
      | none => rw [e1, e2] at h; cases h
      | some ws =>
        rw [e1, e2] at h; cases h
        obtain ⟨h1, h2⟩ := flatD_rep e1 a
        obtain ⟨h3, h4⟩ := flatL_rep e2 b
        subst h1; subst h3
        exact ⟨rfl, by rw [List.all_cons, h2, h4]; rfl⟩
def inSeq (x : D) (ys : List D) : Option Bool := match flatD x, flatL ys with
  | some v, some vs => some (inV v vs)
  | _, _ => none
def strIn (x y : Str) : Bool := !(Builtin.Str.occurrences y x 0 y.length 1).isEmpty
def inB (x : D) : D → Option Bool
  | .lst ys => inSeq x ys
  | .rd ys => inSeq x ys
  | .tup ys => inSeq x ys
  | .str y => match x with | .str z => some (strIn z y) | _ => none
  | _ => none
def notInB (x y : D) : Option Bool := match inB x y with | some b => some (!b) | none => none
abbrev rInD (K : PySem.W.Frag) (neg : Bool) : R2 := fun x y H Q => rIn K neg x y H Q ∨ ∃ i j, x = .str i ∧ y = .str j ∧ Q (.bl (if neg then !(strIn i j) else strIn i j)) H
theorem inB_gen {neg : Bool} {x y : D} {z : Bool} {v u : V} {R H : Hp} {Q : VK} (hg : inB x y = some z) (r1 : Rep K R x v) (r2 : Rep K R y u) (s : Same R H) (q : Q (.bl (if neg then !z else z)) H) : rInD K neg v u H Q := by
  have sq : ∀ {ys : List D} {vs : List V} {p : Addr}, inSeq x ys = some z → RepL K R ys vs → u = .ref p → (SqL K H p vs ∨ SqT K H p vs) → rInD K neg v u H Q := fun {ys vs p} h l e t => by
    unfold inSeq at h
    cases e1 : flatD x with
    | none => rw [e1] at h; cases h
    | some w =>
      cases e2 : flatL ys with
      | none => rw [e1, e2] at h; cases h
      | some ws =>
        rw [e1, e2] at h; cases h
        obtain ⟨h1, h2⟩ := flatD_rep e1 r1
        obtain ⟨h3, h4⟩ := flatL_rep e2 l
        subst h1; subst h3
        exact .inl ⟨p, vs, e, t, h2, h4, q⟩
  cases r2 with
  | lst h1 l1 => exact sq hg l1 rfl (.inl (SqL.of (s _ _ h1)))
  | rd h1 l1 => exact sq hg l1 rfl (.inl (s.seq h1))
  | tup h1 l1 => exact sq hg l1 rfl (.inr ((SqT.of (s _ _ h1))))
  | str y =>
    cases r1 with
    | str x => cases hg; exact .inr ⟨x, y, rfl, rfl, q⟩
    | _ => cases hg
  | _ => cases hg
theorem inB_ok : OpB K inB (rInD K false) := fun x y z v u R H Q hg r1 r2 s q => inB_gen (neg := false) hg r1 r2 s q
theorem notInB_ok : OpB K notInB (rInD K true) := fun x y z v u R H Q hg r1 r2 s q => by
  unfold notInB at hg
  cases he : inB x y with
  | none => rw [he] at hg; cases hg
  | some k =>
    rw [he] at hg
    have e : (!k) = z := Option.some.inj hg
    subst e
    exact inB_gen (neg := true) he r1 r2 s q
theorem op_inB {X : Cx} : OpR X (compareOp .In) (rInD X.K false) := op_in_seq.or op_in_str
theorem op_notInB {X : Cx} : OpR X (compareOp .NotIn) (rInD X.K true) := op_notIn_seq.or L2.op_notIn_str
end
end Dl
end
section
set_option Elab.async false
set_option linter.all false
set_option maxRecDepth 100000
set_option maxHeartbeats 4000000
namespace Dl
open PySem L2
section
variable {K : PySem.W.Frag} {Wx : WX} {b : Bs} {R : Hp} {ρ : Nat → Addr} {e : Env} {σ : St} {H : Hp}
def Env.open (e : Env) (k : Nat) : Bool := decide (e.np ≤ k) && (match e.M[k]? with | some none => true | _ => false) && e.noRef k
theorem Env.open_of {e : Env} {k : Nat} (h : e.open k = true) : e.np ≤ k ∧ e.cell k = none ∧ k < e.M.length ∧ e.noRef k = true := by
  unfold Env.open at h
  rw [Bool.and_eq_true, Bool.and_eq_true] at h
  obtain ⟨⟨h1, h2⟩, h3⟩ := h
  refine ⟨of_decide_eq_true h1, ?_, ?_, h3⟩
  · unfold Env.cell
    split at h2
    · rename_i q; rw [q]; rfl
    · cases h2
  · split at h2
    · rename_i q; exact (List.getElem?_eq_some_iff.mp q).1
    · cases h2
def newC (k : Nat) (c : Cell) : Ev := fun e => if e.open k = true then .ok (.loc k) (e.setC k (some c)) else .fail
def newL (keep : Option Nat) (xs : List D) : Ev := match keep with
  | none => fun e => .ok (.d (.lst xs)) e
  | some k => newC k (.lst xs)
theorem newC_ok {k : Nat} {c : Cell} {Q : VK} {p : Addr} {o : HO} (m : Md K b R ρ e σ H) (q : OkR K Wx (lW K) b R ρ e σ Q (newC k c e)) (hp : H p = none) (hc : CellAt K R (setR ρ k p) (upd H p o) p c) : Q (.ref p) (upd H p o) := by
  unfold newC at q
  split at q
  · rename_i ho
    obtain ⟨h1, h2, h3, h4⟩ := Env.open_of ho
    refine q R (setR ρ k p) (.ref p) (upd H p o) (Same.refl R) (fun n c' h => ?_) (m.freshC hp h2 h1 h4 hc) ?_
    · have hn : n ≠ k := fun z => by subst z; rw [h2] at h; cases h
      exact ⟨setR_ne hn, c', by rw [Env.cell_setC, if_neg (Ne.symm hn)]; exact h⟩
    · show V.ref p = .ref (setR ρ k p k)
      rw [setR_same]
  · exact q.elim
theorem newL_ok {keep : Option Nat} {xs : List D} {vs : List V} {Q : VK} {p : Addr} (m : Md K b R ρ e σ H) (q : OkR K Wx (lW K) b R ρ e σ Q (newL keep xs e)) (r : RepL K R xs vs) (hp : H p = none) : Q (.ref p) (upd H p (.lst vs)) := by
  cases keep with
  | none => exact OkR.finD q m hp (.lst upd_same (RepL.mono (same_upd (m.freshR hp)) r))
  | some k => exact newC_ok m q hp ⟨vs, upd_same, r⟩
theorem Paired.lengthEq {α β : Type} {F : α → β → Prop} : ∀ {l : List α} {m : List β}, Paired F l m → l.length = m.length
  | _, _, .nil => rfl
  | _, _, .cons _ t => by simp [Paired.lengthEq t]
theorem atI_rep {xs : List D} {vs : List V} {i : Int} {d : D} (r : RepL K R xs vs) (h : atI xs i = some d) : ∃ v, atI vs i = some v ∧ Rep K R d v := by
  unfold atI at h ⊢
  rw [← r.length]
  cases q : ixN xs.length i with
  | none => rw [q] at h; cases h
  | some j =>
    rw [q] at h
    exact r.get h
theorem Paired.get2 {α β : Type} {F : α → β → Prop} : ∀ {l : List α} {m : List β} {i : Nat} {a : α}, Paired F l m → l[i]? = some a → ∃ c, m[i]? = some c ∧ F a c
  | _, _, _, _, .nil, h => by simp at h
  | _, _, 0, _, .cons r _, h => by simp at h; subst h; exact ⟨_, rfl, r⟩
  | _, _, i + 1, _, .cons _ t, h => by
    obtain ⟨c, h1, h2⟩ := Paired.get2 (i := i) t (by simpa using h)
    exact ⟨c, by simpa using h1, h2⟩
theorem atI_repW {xs : List W} {vs : List V} {i : Int} {d : W} (r : Paired (RepW K R ρ) xs vs) (h : atI xs i = some d) : ∃ v, atI vs i = some v ∧ RepW K R ρ d v := by
  unfold atI at h ⊢
  rw [← Paired.lengthEq r]
  cases q : ixN xs.length i with
  | none => rw [q] at h; cases h
  | some j =>
    rw [q] at h
    exact Paired.get2 r h
def okO (o : Option D) : Ev := fun e => match o with | some d => .ok (.d d) e | none => .fail
def okW (o : Option W) : Ev := fun e => match o with | some w => .ok w e | none => .fail
theorem okO_ok {o : Option D} {Q : VK} (q : OkR K Wx (lW K) b R ρ e σ Q (okO o e)) : ∃ d, o = some d ∧ OkR K Wx (lW K) b R ρ e σ Q (.ok (.d d) e) := by
  cases o with
  | none => exact q.elim
  | some d => exact ⟨d, rfl, q⟩
theorem okW_ok {o : Option W} {Q : VK} (q : OkR K Wx (lW K) b R ρ e σ Q (okW o e)) : ∃ d, o = some d ∧ OkR K Wx (lW K) b R ρ e σ Q (.ok d e) := by
  cases o with
  | none => exact q.elim
  | some d => exact ⟨d, rfl, q⟩
def ixDD : D → Int → Option D
  | .lst xs, i => atI xs i
  | .rd xs, i => atI xs i
  | .tup xs, i => atI xs i
  | .str z, i => if z.length ≤ sizeLine then match atI z.cps.toList i with | some c => some (.str ⟨#[c]⟩) | none => none else none
  | _, _ => none
def ixC : Cell → Int → Option W
  | .lst xs, i => match atI xs i with | some d => some (.d d) | none => none
  | .lw us, i => atI us i
  | .tw us, i => atI us i
  | _, _ => none
def kIx (w1 w2 : W) : Ev := fun e => match w2 with
  | .d (.int i) => match w1 with
    | .d x => okO (ixDD x i) e
    | .loc n => match e.cell n with
      | some c => okW (ixC c i) e
      | none => .fail
  | _ => .fail
theorem kIx_ok {w1 w2 : W} {v1 v2 : V} {Q : VK} (m : Md K b R ρ e σ H) (r1 : RepW K R ρ w1 v1) (r2 : RepW K R ρ w2 v2) (q : OkR K Wx (lW K) b R ρ e σ Q (kIx w1 w2 e)) : rIx K v1 v2 H Q := by
  unfold kIx at q
  split at q
  · rename_i i
    have r2 : Rep K R (.int i) v2 := r2
    cases r2
    cases w1 with
    | d x =>
      obtain ⟨d, hd, q2⟩ := okO_ok q
      clear q
      have r1 : Rep K R x v1 := r1
      cases r1 with
      | lst h1 l1 =>
        obtain ⟨v, hv, rv⟩ := atI_rep l1 hd
        exact .inl ⟨_, _, i, v, rfl, rfl, SqL.of (m.sub _ _ h1), hv, q2.fin (L := lW K) (a := .d d) m rv⟩
      | rd h1 l1 =>
        obtain ⟨v, hv, rv⟩ := atI_rep l1 hd
        exact .inl ⟨_, _, i, v, rfl, rfl, m.sub.seq h1, hv, q2.fin (L := lW K) (a := .d d) m rv⟩
      | tup h1 l1 =>
        obtain ⟨v, hv, rv⟩ := atI_rep l1 hd
        exact .inr (.inl ⟨_, _, i, v, rfl, rfl, (SqT.of (m.sub _ _ h1)), hv, q2.fin (L := lW K) (a := .d d) m rv⟩)
      | str z =>
        have hd : (if z.length ≤ sizeLine then match atI z.cps.toList i with | some c => some (D.str ⟨#[c]⟩) | none => none else none) = some d := hd
        by_cases hl : z.length ≤ sizeLine
        · rw [if_pos hl] at hd
          cases hc : atI z.cps.toList i with
          | none => rw [hc] at hd; cases hd
          | some c =>
            rw [hc] at hd
            cases hd
            exact .inr (.inr ⟨z, i, c, rfl, rfl, hl, hc, q2.fin m (Rep.str _)⟩)
        · rw [if_neg hl] at hd; cases hd
      | _ => cases hd
    | loc n =>
      have e1 : v1 = .ref (ρ n) := r1
      subst e1
      cases hc : e.cell n with
      | none => simp only [hc] at q; exact q.elim
      | some c =>
        simp only [hc] at q
        obtain ⟨w, hw, q2⟩ := okW_ok q
        clear q
        have ca := m.cell n c hc
        cases c with
        | lst xs =>
          obtain ⟨vs, h1, l1⟩ := ca
          have hw : (match atI xs i with | some d => some (W.d d) | none => none) = some w := hw
          cases hd : atI xs i with
          | none => rw [hd] at hw; cases hw
          | some d =>
            rw [hd] at hw; cases hw
            obtain ⟨v, hv, rv⟩ := atI_rep l1 hd
            exact .inl ⟨_, _, i, v, rfl, rfl, SqL.of h1, hv, q2.fin (L := lW K) (a := .d d) m rv⟩
        | lw us =>
          obtain ⟨vs, h1, l1⟩ := ca
          obtain ⟨v, hv, rv⟩ := atI_repW l1 hw
          exact .inl ⟨_, _, i, v, rfl, rfl, SqL.of h1, hv, q2.fin m rv⟩
        | tw us =>
          obtain ⟨vs, h1, l1⟩ := ca
          obtain ⟨v, hv, rv⟩ := atI_repW l1 hw
          exact .inr (.inl ⟨_, _, i, v, rfl, rfl, SqT.of h1, hv, q2.fin m rv⟩)
        | _ => cases hw
  · exact q.elim
def cutL {α : Type} (xs : List α) (lo hi : Option Int) : List α := (xs.drop (HT.sIx xs.length 0 lo)).take (HT.sIx xs.length xs.length hi - HT.sIx xs.length 0 lo)
theorem RepL.cut {xs : List D} {vs : List V} (r : RepL K R xs vs) (lo hi : Option Int) : RepL K R (cutL xs lo hi) (cutV vs lo hi) := by
  unfold cutL cutV
  rw [r.length]
  exact (r.drop _).take _
def slD : D → Option Int → Option Int → Option D
  | .lst xs, lo, hi => some (.lst (cutL xs lo hi))
  | .rd xs, lo, hi => some (.lst (cutL xs lo hi))
  | .tup xs, lo, hi => some (.tup (cutL xs lo hi))
  | .str z, lo, hi => if z.length ≤ sizeLine then some (.str (cutS z lo hi)) else none
  | _, _, _ => none
def kSl (w : W) (lo hi : Option Int) : Ev := fun e => match w with
  | .d x => okO (slD x lo hi) e
  | .loc n => match e.cell n with
    | some (.lst xs) => .ok (.d (.lst (cutL xs lo hi))) e
    | _ => .fail
abbrev rSlD (K : PySem.W.Frag) : V → Option Int → Option Int → Hp → VK → Prop := fun x lo hi H Q => rSlL K x lo hi H Q ∨ rSlA K x lo hi H Q ∨ rSlS x lo hi H Q
theorem sl_D {X : Cx} : SlR X (rSlD X.K) := sl_list.or (sl_tupA.or sl_str)
theorem cutL_whole {α : Type} (xs : List α) {lo hi : Option Int} (h : HT.sIx xs.length 0 lo = 0 ∧ HT.sIx xs.length xs.length hi = xs.length) : cutL xs lo hi = xs := by
  unfold cutL
  rw [h.1, h.2]
  simp
theorem kSl_ok {w : W} {v : V} {lo hi : Option Int} {Q : VK} (m : Md K b R ρ e σ H) (r : RepW K R ρ w v) (q : OkR K Wx (lW K) b R ρ e σ Q (kSl w lo hi e)) : rSlD K v lo hi H Q := by
  cases w with
  | d x =>
    obtain ⟨d, hd, q2⟩ := okO_ok q
    clear q
    have r : Rep K R x v := r
    cases r with
    | lst h1 l1 =>
      cases hd
      exact .inl ⟨_, _, rfl, SqL.of (m.sub _ _ h1), fun p hp => q2.finD m hp (.lst upd_same (RepL.mono (same_upd (m.freshR hp)) (l1.cut lo hi)))⟩
    | rd h1 l1 =>
      cases hd
      exact .inl ⟨_, _, rfl, m.sub.seq h1, fun p hp => q2.finD m hp (.lst upd_same (RepL.mono (same_upd (m.freshR hp)) (l1.cut lo hi)))⟩
    | tup h1 l1 =>
      cases hd
      refine .inr (.inl ⟨_, _, rfl, (SqT.of (m.sub _ _ h1)), fun hw => ?_, fun hw p hp => q2.finD m hp (.tup upd_same (RepL.mono (same_upd (m.freshR hp)) (l1.cut lo hi)))⟩)
      rw [cutL_whole _ (by rw [l1.length]; exact hw)] at q2
      exact q2.fin m (Rep.tup h1 l1)
    | str z =>
      have hd : (if z.length ≤ sizeLine then some (D.str (cutS z lo hi)) else none) = some d := hd
      by_cases hl : z.length ≤ sizeLine
      · rw [if_pos hl] at hd
        cases hd
        exact .inr (.inr ⟨z, rfl, hl, q2.fin m (Rep.str _)⟩)
      · rw [if_neg hl] at hd; cases hd
    | _ => cases hd
  | loc n =>
    have e1 : v = .ref (ρ n) := r
    subst e1
    unfold kSl at q
    cases hc : e.cell n with
    | none => simp only [hc] at q; exact q.elim
    | some c =>
      simp only [hc] at q
      cases c with
      | lst xs =>
        obtain ⟨vs, h1, l1⟩ := m.cell n _ hc
        exact .inl ⟨_, _, rfl, SqL.of h1, fun p hp => OkR.finD q m hp (.lst upd_same (RepL.mono (same_upd (m.freshR hp)) (l1.cut lo hi)))⟩
      | _ => exact q.elim
end
section
variable {X : Cx} {Wx : WX} {a c : Expr} {es : List Expr} {pos : Pos}
def eIx (f g : Ev) : Ev := bin2 f g kIx
theorem d_ix {f g : Ev} (ha : PE X a (tD X.K Wx f)) (hb : PE X c (tD X.K Wx g)) (hs : PlainIx c) : PE X (.Subscript a c pos) (tD X.K Wx (eIx f g)) := (pe_ix ix_seq ha hb hs).imp fun σ H Q h =>
  tG_two h fun bs R ρ e H w1 w2 v1 v2 m r1 r2 q => kIx_ok m r1 r2 q
abbrev lO : Rl (Option Int) (Option Int) := fun _ _ => Eq
abbrev tDO (K : PySem.W.Frag) (Wx : WX) (f : Env → Rs (Option Int)) : TO := tG K Wx lO f
def oNone : Env → Rs (Option Int) := fun e => .ok none e
def oSome (f : Ev) : Env → Rs (Option Int) := fun e => (f e).bind fun w e1 => match w with | .d (.int i) => .ok (some i) e1 | _ => .fail
theorem _root_.L2.PO.imp {X : Cx} {a : Option Expr} {t t' : TO} (h : PO X a t) (i : ∀ σ H Q, t' σ H Q → t σ H Q) : PO X a t' := ⟨fun pins s σ H Q I q => h.run pins s σ H Q I (i σ H Q q)⟩
theorem o_none : PO X none (tDO X.K Wx oNone) := po_none.imp fun σ H Q ⟨b, R, ρ, e, m, q⟩ => q.fin m rfl
theorem o_some {f : Ev} (h : PE X a (tD X.K Wx f)) : PO X (some a) (tDO X.K Wx (oSome f)) := (po_some h).imp fun σ H Q q =>
  tG_one q fun bs R ρ e H w v m r q2 => by
    split at q2
    · rename_i i
      have r : Rep X.K R (.int i) v := r
      cases r
      exact ⟨i, rfl, q2.fin m rfl⟩
    · exact q2.elim
def eSl (f : Ev) (lo hi : Env → Rs (Option Int)) : Ev := fun e => (f e).bind fun w e1 => if wl e1 w = true then (lo e1).bind fun l e2 => if wl e2 w = true then (hi e2).bind fun h e3 => kSl w l h e3 else .fail else .fail
theorem d_sl {f : Ev} {lo hi : Option Expr} {fl fh : Env → Rs (Option Int)} {p2 : Pos} (ha : PE X a (tD X.K Wx f)) (hl : PO X lo (tDO X.K Wx fl)) (hh : PO X hi (tDO X.K Wx fh)) : PE X (.Subscript a (.Slice lo hi none p2) pos) (tD X.K Wx (eSl f fl fh)) := (pe_slice sl_D ha hl hh).imp fun σ H Q h =>
  tG_one h fun bs R ρ e H w v m r q => by
    split at q
    · rename_i h1
      refine ⟨bs, R, ρ, e, m, (OkR.bind (L := lO) q).imp fun l H2 h2 => ?_⟩
      obtain ⟨R2, ρ2, e2, l', s2, l2, m2, r2, _, q2⟩ := h2
      have e1 : l' = l := r2
      subst e1
      split at q2
      · rename_i h3
        refine ⟨bs, R2, ρ2, e2, m2, (OkR.bind (L := lO) q2).imp fun u H3 h3' => ?_⟩
        obtain ⟨R3, ρ3, e3, u', s3, l3, m3, r3, _, q3⟩ := h3'
        have e1 : u' = u := r3
        subst e1
        exact kSl_ok m3 ((r.later h1 s2 l2).later h3 s3 l3) q3
      · exact q2.elim
    · exact q.elim
/-- what the rule r of a call asks follows from k -/
def CallD (K : PySem.W.Frag) (Wx : WX) (k : List W → Ev) (r : List V → Hp → VK → Prop) : Prop :=
  ∀ (b : Bs) (R : Hp) (ρ : Nat → Addr) (e : Env) (σ : St) (H : Hp) (ws : List W) (vs : List V) (Q : VK), Md K b R ρ e σ H → Paired (RepW K R ρ) ws vs → OkR K Wx (lW K) b R ρ e σ Q (k ws e) → r vs H Q
def eCB (k : List W → Ev) (fs : List Ev) : Ev := fun e => (evA fs e).bind k
theorem d_callB {k : List W → Ev} {fs : List Ev} {id : String} {x : Str} {p : Pos} {r : List V → Hp → VK → Prop} (hc : CallR X (.builtin id) r) (hk : CallD X.K Wx k r) (hg : Gl X x) (hm : X.mg x = none) (hv : bootBuiltins x = some (.builtin id)) (ha : PA X (a :: es) (tDA X.K Wx (evA fs)))
    (hn : x ≠ "__name__" := by decide) (hdb : (x == ("__debug__" : Str)) = false := by decide) (he : starEach (a :: es) X.env = (false, eval a X.env) :: starEach es X.env := by rfl) (hpl : (backTo pos (starEach es X.env)).any (·.1) = false := by rfl) :
    PE X (.Call (.Name x p) (a :: es) [] pos) (tD X.K Wx (eCB k fs)) := (pe_callB hc hg hm hv ha hn hdb he hpl).imp fun σ H Q h =>
  tG_one h fun bs R ρ e H ws vs m r q => hk bs R ρ e σ H ws vs Q m r q
theorem d_callT {k : List W → Ev} {fs : List Ev} {T : String} {x : Str} {p : Pos} {r : List V → Hp → VK → Prop} (hc : CallR X (.type T) r) (hk : CallD X.K Wx k r) (hg : Gl X x) (hm : X.mg x = none) (hv : bootBuiltins x = some (.type T)) (ha : PA X (a :: es) (tDA X.K Wx (evA fs)))
    (hn : x ≠ "__name__" := by decide) (hdb : (x == ("__debug__" : Str)) = false := by decide) (he : starEach (a :: es) X.env = (false, eval a X.env) :: starEach es X.env := by rfl) (hpl : (backTo pos (starEach es X.env)).any (·.1) = false := by rfl) :
    PE X (.Call (.Name x p) (a :: es) [] pos) (tD X.K Wx (eCB k fs)) := (pe_callTy hc hg hm hv ha hn hdb he hpl).imp fun σ H Q h =>
  tG_one h fun bs R ρ e H ws vs m r q => hk bs R ρ e σ H ws vs Q m r q
variable {K : PySem.W.Frag}
theorem pair1 {F : W → V → Prop} {w : W} {vs : List V} (r : Paired F [w] vs) : ∃ v, vs = [v] ∧ F w v := by
  cases r with
  | cons a t => cases t; exact ⟨_, rfl, a⟩
/-- one frozen argument, a plain answer -/
def k1 (g : D → Option D) : List W → Ev := fun ws e => match ws with
  | [.d x] => okO (g x) e
  | _ => .fail
theorem k1_ok {g : D → Option D} {r : List V → Hp → VK → Prop} (h : ∀ (x z : D) (v : V) (R H : Hp) (Q : VK), g x = some z → Rep K R x v → Same R H → (∀ u, Rep K R z u → Q u H) → (∀ p o, H p = none → Rep K (upd R p o) z (.ref p) → Q (.ref p) (upd H p o)) → r [v] H Q) : CallD K Wx (k1 g) r := fun b R ρ e σ H ws vs Q m rp q => by
  unfold k1 at q
  split at q
  · rename_i x
    obtain ⟨v, e1, rv⟩ := pair1 rp
    subst e1
    obtain ⟨z, hz, q⟩ := okO_ok q
    exact h x z v R H Q hz rv m.sub (fun u ru => q.fin m ru) fun p o hp rp => q.finD m hp rp
  · exact q.elim
def lenD : D → Option D
  | .lst xs => some (.int xs.length)
  | .rd xs => some (.int xs.length)
  | .tup xs => some (.int xs.length)
  | .str z => if z.length ≤ sizeLine then some (.int z.length) else none
  | .dic kvs => some (.int kvs.length)
  | .dct kvs => some (.int kvs.length)
  | _ => none
def lenC : Cell → Option D
  | .lst xs => some (.int xs.length)
  | .lw xs => some (.int xs.length)
  | .dic kvs => some (.int kvs.length)
  | .dct kvs => some (.int kvs.length)
  | _ => none
def kLen : List W → Ev := fun ws e => match ws with
  | [.d x] => okO (lenD x) e
  | [.loc n] => match e.cell n with
    | some c => okO (lenC c) e
    | none => .fail
  | _ => .fail
abbrev rLenA0 (K : PySem.W.Frag) : List V → Hp → VK → Prop := fun xs H Q => (∃ x n, xs = [x] ∧ LenV K x H n ∧ Q (.int n) H) ∨ (∃ a kvs, xs = [V.ref a] ∧ H a = some (.dK kvs) ∧ Q (.int kvs.length) H)
abbrev rLenA (K : PySem.W.Frag) : List V → Hp → VK → Prop := fun xs H Q => rLenA0 K xs H Q ∨ rLenT xs H Q
theorem call_lenA : CallR X (.builtin "len") (rLenA X.K) := (call_len.or call_lenD).or call_len_dT
theorem kLen_ok : CallD K Wx kLen (rLenA K) := fun b R ρ e σ H ws vs Q m rp q => by
  unfold kLen at q
  split at q
  · rename_i x
    obtain ⟨v, e1, rv⟩ := pair1 rp
    subst e1
    obtain ⟨z, hz, q⟩ := okO_ok q
    have rv : Rep K R x v := rv
    cases rv with
    | lst h1 l1 => cases hz; exact .inl (.inl ⟨_, _, rfl, .inl ⟨_, SqL.of (m.sub _ _ h1), rfl⟩, q.fin m (by rw [l1.length]; exact Rep.int _)⟩)
    | rd h1 l1 => cases hz; exact .inl (.inl ⟨_, _, rfl, .inl ⟨_, m.sub.seq h1, rfl⟩, q.fin m (by rw [l1.length]; exact Rep.int _)⟩)
    | tup h1 l1 => cases hz; exact .inl (.inl ⟨_, _, rfl, .inr ⟨_, (SqT.of (m.sub _ _ h1)), rfl⟩, q.fin m (by rw [l1.length]; exact Rep.int _)⟩)
    | dic h1 h2 l1 =>
      cases hz
      have e2 := congrArg List.length h2
      rw [List.length_map, List.length_map] at e2
      exact .inl (.inr ⟨_, _, rfl, m.sub _ _ h1, q.fin m (by rw [← e2]; exact Rep.int _)⟩)
    | str z =>
      have hz : (if z.length ≤ sizeLine then some (D.int z.length) else none) = some _ := hz
      by_cases hl : z.length ≤ sizeLine
      · rw [if_pos hl] at hz
        cases hz
        exact .inl (.inl ⟨_, _, rfl, ⟨hl, rfl⟩, q.fin m (Rep.int _)⟩)
      · rw [if_neg hl] at hz; cases hz
    | dct h1 h2 l1 =>
      cases hz
      have e2 := congrArg List.length h2
      rw [List.length_map, List.length_map] at e2
      exact .inr ⟨_, _, rfl, m.sub _ _ h1, q.fin m (by rw [← e2]; exact Rep.int _)⟩
    | _ => cases hz
  · rename_i n
    obtain ⟨v, e1, rv⟩ := pair1 rp
    subst e1
    have e1 : v = .ref (ρ n) := rv
    subst e1
    cases hc : e.cell n with
    | none => simp only [hc] at q; exact q.elim
    | some c =>
      simp only [hc] at q
      obtain ⟨z, hz, q⟩ := okO_ok q
      have ca := m.cell n c hc
      cases c with
      | lst xs =>
        obtain ⟨vs, h1, l1⟩ := ca
        cases hz
        exact .inl (.inl ⟨_, _, rfl, .inl ⟨_, SqL.of h1, rfl⟩, q.fin m (by rw [l1.length]; exact Rep.int _)⟩)
      | lw xs =>
        obtain ⟨vs, h1, l1⟩ := ca
        cases hz
        exact .inl (.inl ⟨_, _, rfl, .inl ⟨_, SqL.of h1, rfl⟩, q.fin m (by rw [Paired.lengthEq l1]; exact Rep.int _)⟩)
      | dic kvs =>
        obtain ⟨ws, h1, h2, l1⟩ := ca
        cases hz
        have e2 := congrArg List.length h2
        rw [List.length_map, List.length_map] at e2
        exact .inl (.inr ⟨_, _, rfl, h1, q.fin m (by rw [← e2]; exact Rep.int _)⟩)
      | dct kvs =>
        obtain ⟨ws, h1, h2, l1⟩ := ca
        cases hz
        have e2 := congrArg List.length h2
        rw [List.length_map, List.length_map] at e2
        exact .inr ⟨_, _, rfl, h1, q.fin m (by rw [← e2]; exact Rep.int _)⟩
      | obj C fs => cases hz
      | tbl P q => cases hz
      | tw us => cases hz
  · exact q.elim
def intOf : D → Option D
  | .int i => some (.int i)
  | .bl k => some (.int (if k then 1 else 0))
  | _ => none
theorem kInt_ok : CallD K Wx (k1 intOf) (fun xs H Q => (∃ i, xs = [.int i] ∧ Q (.int i) H) ∨ ∃ k, xs = [.bl k] ∧ Q (.int (if k then 1 else 0)) H) := k1_ok fun x z v R H Q hz rv s q n => by
  cases rv <;> first | (cases hz; exact .inl ⟨_, rfl, q _ (.int _)⟩) | (cases hz; exact .inr ⟨_, rfl, q _ (.int _)⟩) | cases hz
def k2 (g : D → D → Option D) : List W → Ev := fun ws e => match ws with
  | [.d x, .d y] => okO (g x y) e
  | _ => .fail
def tyD : D → Option String
  | .non => some "NoneType"
  | .bl _ => some "bool"
  | .int _ => some "int"
  | .str _ => some "str"
  | .lst _ => some "list"
  | .rd _ => none
  | .tup _ => some "tuple"
  | .dic _ => some "dict"
  | .obj _ _ => none
  | .dct _ => none
  | .fn _ => none
theorem tyT {H : Hp} {p : Addr} {vs : List V} (h : SqT K H p vs) : TyX K H (.ref p) (.type "tuple") := by
  rcases h with (h | ⟨o, h⟩) | ⟨o, its, n, h, c, _⟩
  · exact .base (.tup h)
  · exact .fTuple h
  · exact .kTuple h c
theorem tyD_ok {R H : Hp} {x : D} {v : V} {t : String} (h : tyD x = some t) (r : Rep K R x v) (s : Same R H) : TyX K H v (.type t) := by
  cases r with
  | non => cases h; exact .base .non
  | bl k => cases h; exact .base (.bl k)
  | int k => cases h; exact .base (.int k)
  | str k => cases h; exact .base (.str k)
  | lst h1 l1 => cases h; exact .base (.lst (s _ _ h1))
  | rd h1 l1 => cases h
  | tup h1 l1 => cases h; exact tyT ((SqT.of (s _ _ h1)))
  | dic h1 h2 l1 => cases h; exact .base (.dK (s _ _ h1))
  | obj h1 h2 l1 => cases h
  | dct h1 h2 l1 => cases h
  | fn f => cases h
def isiD (T : String) : D → Option D := fun x => match tyD x with | some t => (match kitB t T with | some k => some (.bl k) | none => none) | none => none
/-- isinstance(x, T): the class's name is evaluated as a value that is no data -/
def eIsi (T : String) (f : Ev) : Ev := fun e => (f e).bind fun w e1 => match w with | .d x => okO (isiD T x) e1 | _ => .fail
theorem d_isi {T : String} {f : Ev} {y : Str} {p p2 : Pos} (hg : Gl X "isinstance") (hm : X.mg "isinstance" = none) (hf : PE X a (tD X.K Wx f)) (hT : PE X (.Name y p2) (tC (.ty T)))
    (he : starEach [a, .Name y p2] X.env = (false, eval a X.env) :: starEach [.Name y p2] X.env := by rfl) (he2 : starEach [.Name y p2] X.env = (false, eval (.Name y p2) X.env) :: starEach [] X.env := by rfl) (hpl : (backTo pos (starEach [.Name y p2] X.env)).any (·.1) = false := by rfl) :
    PE X (.Call (.Name "isinstance" p) [a, .Name y p2] [] pos) (tD X.K Wx (eIsi T f)) := by
  refine (pe_callB (x := "isinstance") call_isi hg hm (by decide +kernel) (pa_cons hf (pa_cons hT pa_nil he2) he) (by decide) (by decide) he hpl).imp fun σ H Q h => ?_
  refine tG_one h fun bs R ρ e H w v m r q => ?_
  split at q
  · rename_i x
    obtain ⟨z, hz, q⟩ := okO_ok q
    unfold isiD at hz
    cases ht : tyD x with
    | none => rw [ht] at hz; cases hz
    | some t =>
      rw [ht] at hz
      simp only at hz
      cases hk : kitB t T with
      | none => rw [hk] at hz; cases hz
      | some k =>
        rw [hk] at hz; cases hz
        exact ⟨v, .ty T, .type t, .type T, k, rfl, .ty T, tyD_ok ht r m.sub, kit_ty hk, q.fin m (Rep.bl k)⟩
  · exact q.elim
end
end Dl
end
section
set_option Elab.async false
set_option linter.all false
set_option maxRecDepth 100000
set_option maxHeartbeats 4000000
namespace Dl
open PySem L2
section
variable {X : Cx} {Wx : WX} {a c : Expr} {es : List Expr} {pos : Pos} {K : PySem.W.Frag}
def kDisp (keep : Option Nat) : List W → Ev := fun ws e => if ws.length ≤ sizeLine then
    (match toDs ws with
      | some ds => newL keep ds e
      | none => match keep with
        | some k => if (ws.all fun w => !isLoc k w) = true then newC k (.lw ws) e else .fail
        | none => .fail)
  else .fail
def kTup : List W → Ev := fun ws e => if ws.length ≤ sizeLine then
    (match toDs ws with
      | some ds => .ok (.d (.tup ds)) e
      | none => .fail)
  else .fail
theorem lw_setR {R : Hp} {e : Env} {ρ : Nat → Addr} {k : Nat} {p : Addr} : ∀ {ws : List W} {vs : List V}, Paired (RepW K R ρ) ws vs → (∀ w ∈ ws, isLoc k w = false) → Paired (RepW K R (setR ρ k p)) ws vs := fun h hn =>
  Paired.monoMem h fun w v hm r => by
    cases w with
    | d x => exact r
    | loc n =>
      show v = .ref (setR ρ k p n)
      rw [setR_ne (fun z => by have := hn _ hm; subst z; simp [isLoc] at this)]
      exact r
theorem d_list {keep : Option Nat} {fs : List Ev} (ha : PA X es (tDA X.K Wx (evA fs))) : PE X (.List es pos) (tD X.K Wx (eCB (kDisp keep) fs)) := (pe_lst ha).imp fun σ H Q h =>
  tG_one h fun bs R ρ e H ws vs m r q => by
    unfold kDisp at q
    split at q
    · rename_i hl
      refine ⟨by rw [← Paired.lengthEq r]; exact hl, fun p hp => ?_⟩
      split at q
      · rename_i ds hd
        exact newL_ok m q (toDs_rep hd r) hp
      · rename_i hd
        split at q
        · rename_i k
          split at q
          · rename_i hw
            exact newC_ok m q hp ⟨vs, upd_same, lw_setR (e := e) r fun w hm => by
              have := List.all_eq_true.mp hw w hm
              simpa using this⟩
          · exact q.elim
        · exact q.elim
    · exact q.elim
theorem d_tup {fs : List Ev} {x1} (ha : PA X es (tDA X.K Wx (evA fs))) : PE X (.Tuple es x1 pos) (tD X.K Wx (eCB kTup fs)) := (pe_tup ha).imp fun σ H Q h =>
  tG_one h fun bs R ρ e H ws vs m r q => by
    unfold kTup at q
    split at q
    · rename_i hl
      refine ⟨by rw [← Paired.lengthEq r]; exact hl, fun p hp => ?_⟩
      split at q
      · rename_i ds hd
        exact OkR.finD q m hp (.tup upd_same (RepL.mono (same_upd (m.freshR hp)) (toDs_rep hd r)))
      · exact q.elim
    · exact q.elim
def MethD (K : PySem.W.Frag) (Wx : WX) (k : W → List W → Ev) (r : V → List V → Hp → VK → Prop) : Prop :=
  ∀ (b : Bs) (R : Hp) (ρ : Nat → Addr) (e : Env) (σ : St) (H : Hp) (w : W) (v : V) (ws : List W) (vs : List V) (Q : VK), Md K b R ρ e σ H → RepW K R ρ w v → Paired (RepW K R ρ) ws vs → OkR K Wx (lW K) b R ρ e σ Q (k w ws e) → r v vs H Q
def TyD (K : PySem.W.Frag) (ty : Env → W → Bool) (T : String) : Prop := ∀ (b : Bs) (R : Hp) (ρ : Nat → Addr) (e : Env) (σ : St) (H : Hp) (w : W) (v : V), Md K b R ρ e σ H → RepW K R ρ w v → ty e w = true → tyV K T v H
def isLst (e : Env) : W → Bool
  | .d (.lst _) => true
  | .d (.rd _) => true
  | .d _ => false
  | .loc n => match e.cell n with | some (.lst _) => true | some (.lw _) => true | _ => false
def isStr (e : Env) : W → Bool
  | .d (.str _) => true
  | _ => false
theorem isLst_ok : TyD K isLst "list" := fun b R ρ e σ H w v m r h => by
  unfold isLst at h
  split at h
  · have r : Rep K R _ v := r
    cases r with
    | lst h1 l1 => exact .inl ⟨rfl, _, SqL.of (m.sub _ _ h1)⟩
  · have r : Rep K R _ v := r
    cases r with
    | rd h1 l1 => exact .inl ⟨rfl, _, m.sub.seq h1⟩
  · cases h
  · rename_i n
    have e1 : v = .ref (ρ n) := r
    subst e1
    split at h
    · rename_i hc
      obtain ⟨vs, h1, _⟩ := m.cell n _ hc
      exact .inl ⟨rfl, _, SqL.of h1⟩
    · rename_i hc
      obtain ⟨vs, h1, _⟩ := m.cell n _ hc
      exact .inl ⟨rfl, _, SqL.of h1⟩
    · cases h
theorem isStr_ok : TyD K isStr "str" := fun b R ρ e σ H w v m r h => by
  unfold isStr at h
  split at h
  · have r : Rep K R _ v := r
    cases r
    rfl
  · cases h
def eM (ty : Env → W → Bool) (k : W → List W → Ev) (f : Ev) (fs : List Ev) : Ev := fun e => (f e).bind fun w e1 => if (ty e1 w && wl e1 w) = true then (evA fs e1).bind (k w) else .fail
theorem d_meth {ty : Env → W → Bool} {k : W → List W → Ev} {T id : String} {r : V → List V → Hp → VK → Prop} {name : Str} {apos cpos : Pos} {o x : Expr} {f : Ev} {fs : List Ev} (pa : PlainAttrs T) (slot : Slot T name id) (hty : typeOf (.builtin id) = pure (.type "method_descriptor")) (hm : MtR X id r)
    (ht : TyD X.K ty T) (hk : MethD X.K Wx k r) (ho : PE X o (tD X.K Wx f)) (ha : PA X (x :: es) (tDA X.K Wx (evA fs)))
    (hbase : attributeBase o name X.env (eval o X.env) = eval o X.env := by rfl)
    (hfew : ((backTo cpos (starEach (x :: es) X.env)).all (fun x => !x.1) && (backToKw cpos (keywordEach [] X.env)).all (fun x => x.1.isSome)
      && decide ((x :: es).length + ([] : List Keyword).length + (if ([] : List Keyword).isEmpty then 0 else 1) < 30)) = true := by rfl)
    (hline : (apos.endLine == cpos.line) = true := by rfl) (hs : starEach (x :: es) X.env = (false, eval x X.env) :: starEach es X.env := by rfl) (hplain : (backTo cpos (starEach es X.env)).any (·.1) = false := by rfl) :
    PE X (.Call (.Attribute o name apos) (x :: es) [] cpos) (tD X.K Wx (eM ty k f fs)) := (pe_bm pa slot hty hm ho ha hbase hfew hline hs hplain).imp fun σ H Q h =>
  tG_one h fun bs R ρ e H w v m r q => by
    split at q
    · rename_i h1
      rw [Bool.and_eq_true] at h1
      refine ⟨ht bs R ρ e σ H w v m r h1.1, bs, R, ρ, e, m, (OkR.bind (L := lA X.K) q).imp fun vs H2 h2 => ?_⟩
      obtain ⟨R2, ρ2, e2, ws, s2, l2, m2, r2, _, q3⟩ := h2
      exact hk bs R2 ρ2 e2 σ H2 w v ws vs Q m2 (r.later h1.2 s2 l2) r2 q3
    · exact q.elim
theorem d_meth0 {ty : Env → W → Bool} {k : W → List W → Ev} {T id : String} {r : V → List V → Hp → VK → Prop} {name : Str} {apos cpos : Pos} {o : Expr} {f : Ev} (pa : PlainAttrs T) (slot : Slot T name id) (hty : typeOf (.builtin id) = pure (.type "method_descriptor")) (hm : MtR X id r)
    (ht : TyD X.K ty T) (hk : MethD X.K Wx k r) (ho : PE X o (tD X.K Wx f))
    (hbase : attributeBase o name X.env (eval o X.env) = eval o X.env := by rfl) (hline : (apos.endLine == cpos.line) = true := by rfl) :
    PE X (.Call (.Attribute o name apos) [] [] cpos) (tD X.K Wx (eM ty k f [])) := (pe_bm0 pa slot hty hm ho hbase hline).imp fun σ H Q h =>
  tG_one h fun bs R ρ e H w v m r q => by
    split at q
    · rename_i h1
      rw [Bool.and_eq_true] at h1
      exact ⟨ht bs R ρ e σ H w v m r h1.1, hk bs R ρ e σ H w v [] [] Q m r .nil q⟩
    · exact q.elim
section
variable {b : Bs} {R : Hp} {ρ : Nat → Addr} {e : Env} {σ : St} {H : Hp}
theorem wr_ok {n : Nat} {c c' : Cell} {o : HO} {z : D} {u : V} {Q : VK} (m : Md K b R ρ e σ H) (q : OkR K Wx (lW K) b R ρ e σ Q (.ok (.d z) (e.setC n (some c')))) (hc : e.cell n = some c) (hc' : CellAt K R ρ (upd H (ρ n) o) (ρ n) c') (r : Rep K R z u) : Q u (upd H (ρ n) o) :=
  q R ρ u _ (Same.refl R) (fun k c1 h => ⟨rfl, by
    rw [Env.cell_setC]
    by_cases z : n = k
    · subst z; rw [if_pos rfl, if_pos (Env.cell_lt hc)]; exact ⟨_, rfl⟩
    · rw [if_neg z]; exact ⟨c1, h⟩⟩) (m.write hc hc') r
theorem lst_lw {xs : List D} {vs : List V} (r : RepL K R xs vs) : Paired (RepW K R ρ) (xs.map W.d) vs := by
  induction xs generalizing vs with
  | nil => cases r; exact .nil
  | cons x xs ih => cases r with
    | cons a t => exact .cons a (ih t)
theorem Paired.app {α β : Type} {F : α → β → Prop} : ∀ {l l' : List α} {m m' : List β}, Paired F l m → Paired F l' m' → Paired F (l ++ l') (m ++ m')
  | _, _, _, _, .nil, h => h
  | _, _, _, _, .cons a t, h => .cons a (Paired.app t h)
theorem Paired.dropLastP {α β : Type} {F : α → β → Prop} {l : List α} {m : List β} (h : Paired F l m) : Paired F l.dropLast m.dropLast := by
  induction h with
  | nil => exact .nil
  | cons r t ih => cases t with
    | nil => exact .nil
    | cons q t' => exact .cons r ih
theorem RepL.dropLast {xs : List D} {vs : List V} (h : RepL K R xs vs) : RepL K R xs.dropLast vs.dropLast := by
  induction xs generalizing vs with
  | nil => cases h; exact .nil
  | cons x xs ih => cases h with
    | cons r t =>
      cases t with
      | nil => exact .nil
      | cons r2 t2 => exact .cons r (ih (.cons r2 t2))
end
def pushC (c : Cell) (w : W) : Option Cell := match c, w with
  | .lst xs, .d y => if xs.length < sizeLine then some (.lst (xs ++ [y])) else none
  | .lst xs, .loc m => if xs.length < sizeLine then some (.lw (xs.map W.d ++ [.loc m])) else none
  | .lw us, w => if us.length < sizeLine then some (.lw (us ++ [w])) else none
  | _, _ => none
theorem pushC_ok {R : Hp} {ρ : Nat → Addr} {H : Hp} {a : Addr} {c c' : Cell} {w : W} {v : V} (h : pushC c w = some c') (ca : CellAt K R ρ H a c) (r : RepW K R ρ w v) : ∃ vs, H a = some (.lst vs) ∧ vs.length < sizeLine ∧ CellAt K R ρ (upd H a (.lst (vs ++ [v]))) a c' := by
  cases c with
  | lst xs =>
    obtain ⟨vs, h1, l1⟩ := ca
    cases w with
    | d y =>
      have h : (if xs.length < sizeLine then some (Cell.lst (xs ++ [y])) else none) = some c' := h
      by_cases hl : xs.length < sizeLine
      · rw [if_pos hl] at h; cases h
        exact ⟨vs, h1, by rw [← l1.length]; exact hl, _, upd_same, l1.append (.cons r .nil)⟩
      · rw [if_neg hl] at h; cases h
    | loc m =>
      have h : (if xs.length < sizeLine then some (Cell.lw (xs.map W.d ++ [.loc m])) else none) = some c' := h
      by_cases hl : xs.length < sizeLine
      · rw [if_pos hl] at h; cases h
        exact ⟨vs, h1, by rw [← l1.length]; exact hl, _, upd_same, Paired.app (lst_lw l1) (.cons r .nil)⟩
      · rw [if_neg hl] at h; cases h
  | lw us =>
    obtain ⟨vs, h1, l1⟩ := ca
    have h : (if us.length < sizeLine then some (Cell.lw (us ++ [w])) else none) = some c' := by cases w <;> exact h
    by_cases hl : us.length < sizeLine
    · rw [if_pos hl] at h; cases h
      exact ⟨vs, h1, by rw [← Paired.lengthEq l1]; exact hl, _, upd_same, Paired.app l1 (.cons r .nil)⟩
    · rw [if_neg hl] at h; cases h
  | dic kvs => cases w <;> cases h
  | dct kvs => cases w <;> cases h
  | tbl P q => cases w <;> cases h
  | tw us => cases w <;> cases h
  | obj C fs => cases w <;> cases h
def kAppend (w : W) (ws : List W) : Ev := fun e => match w, ws with
  | .loc n, [y] => match e.cell n with
    | some c => match pushC c y with
      | some c' => .ok (.d .non) (e.setC n (some c'))
      | none => .fail
    | none => .fail
  | _, _ => .fail
theorem kAppend_ok : MethD K Wx kAppend rAppend := fun b R ρ e σ H w v ws vs Q m r rs q => by
  unfold kAppend at q
  split at q
  · rename_i n y
    have e1 : v = .ref (ρ n) := r
    subst e1
    obtain ⟨u, e2, ru⟩ := pair1 rs
    subst e2
    cases hc : e.cell n with
    | none => simp only [hc] at q; exact q.elim
    | some c =>
      simp only [hc] at q
      cases hp : pushC c y with
      | none => simp only [hp] at q; exact q.elim
      | some c' =>
        simp only [hp] at q
        obtain ⟨us, h1, h2, h3⟩ := pushC_ok hp (m.cell n c hc) ru
        exact ⟨_, us, u, rfl, rfl, h1, h2, wr_ok m q hc h3 .non⟩
  · exact q.elim
def kPop (w : W) (ws : List W) : Ev := fun e => match w, ws with
  | .loc n, [] => match e.cell n with
    | some (.lst xs) => match xs[xs.length - 1]? with
      | some y => .ok (.d y) (e.setC n (some (.lst xs.dropLast)))
      | none => .fail
    | some (.lw xs) => match xs[xs.length - 1]? with
      | some (.d y) => .ok (.d y) (e.setC n (some (.lw xs.dropLast)))
      | _ => .fail
    | _ => .fail
  | _, _ => .fail
theorem kPop_ok : MethD K Wx kPop rPop := fun b R ρ e σ H w v ws vs Q m r rs q => by
  unfold kPop at q
  split at q
  · rename_i n
    have e1 : v = .ref (ρ n) := r
    subst e1
    cases rs
    split at q
    · rename_i xs hc
      obtain ⟨us, h1, l1⟩ := m.cell n _ hc
      split at q
      · rename_i y hy
        obtain ⟨u, hu, ru⟩ := l1.get hy
        exact ⟨_, us, u, rfl, rfl, h1, by rw [← l1.length]; exact hu, wr_ok (c' := .lst xs.dropLast) m q hc ⟨_, upd_same, l1.dropLast⟩ ru⟩
      · exact q.elim
    · rename_i xs hc
      obtain ⟨us, h1, l1⟩ := m.cell n _ hc
      split at q
      · rename_i y hy
        obtain ⟨u, hu, ru⟩ := Paired.get2 l1 hy
        exact ⟨_, us, u, rfl, rfl, h1, by rw [← Paired.lengthEq l1]; exact hu, wr_ok (c' := .lw xs.dropLast) m q hc ⟨_, upd_same, Paired.dropLastP l1⟩ ru⟩
      · exact q.elim
    · exact q.elim
  · exact q.elim
def fldO (C : Addr) (f : Str) (w : W) (e : Env) : Option W := match w with
  | .d (.obj C' fs) => if C' = C then (match fs.lookup f with | some d => some (.d d) | none => none) else none
  | .loc n => match e.cell n with
    | some (.obj C' fs) => if C' = C then fs.lookup f else none
    | _ => none
  | _ => none
def eFld (C : Addr) (f : Str) (g : Ev) : Ev := fun e => (g e).bind fun w e1 => okW (fldO C f w e1) e1
theorem lookup_rep {α β : Type} {F : α → β → Prop} (f : Str) : ∀ {fs : List (Str × α)} {ws : List (Str × β)} {a : α}, ws.map (·.1) = fs.map (·.1) → Paired F (fs.map (·.2)) (ws.map (·.2)) → fs.lookup f = some a → ∃ c, ws.lookup f = some c ∧ F a c
  | [], _, _, _, _, h => by simp at h
  | (g, x) :: fs, [], _, h1, _, _ => by simp at h1
  | (g, x) :: fs, (g', y) :: ws, a, h1, h2, h => by
    rw [List.map_cons, List.map_cons] at h1
    injection h1 with e1 e2
    have e1 : g' = g := e1
    subst e1
    cases h2 with
    | cons r t =>
      by_cases hq : f = g'
      · subst hq
        simp only [List.lookup, beq_self_eq_true] at h ⊢
        cases h
        exact ⟨y, rfl, r⟩
      · have hb : (f == g') = false := beq_eq_false_iff_ne.mpr hq
        simp only [List.lookup, hb] at h ⊢
        exact lookup_rep f e2 t h
theorem RepL.paired {R : Hp} : ∀ {ds : List D} {vs : List V}, RepL K R ds vs → Paired (Rep K R) ds vs
  | _, _, .nil => .nil
  | _, _, .cons a t => .cons a t.paired
theorem d_fld {C : Addr} {f : Str} {g : Ev} (cl : Cls X.K C) (na : NoAttr X.K C f) (he : PE X a (tD X.K Wx g)) (hb : attributeBase a f X.env (eval a X.env) = eval a X.env := by rfl) : PE X (.Attribute a f pos) (tD X.K Wx (eFld C f g)) := (pe_fld he hb).imp fun σ H Q h =>
  tG_one h fun bs R ρ e H w v m r q => by
    obtain ⟨w', hw, q2⟩ := okW_ok q
    clear q
    unfold fldO at hw
    split at hw
    · rename_i C' fs
      split at hw
      · rename_i hC
        subst hC
        have r : Rep X.K R (.obj C' fs) v := r
        cases r with
        | obj h1 h2 l1 =>
          cases hl : fs.lookup f with
          | none => rw [hl] at hw; cases hw
          | some d =>
            rw [hl] at hw; cases hw
            obtain ⟨u, hu, ru⟩ := lookup_rep f h2 l1.paired hl
            exact ⟨_, C', _, _, u, rfl, m.sub _ _ h1, cl, na, hu, q2.fin (L := lW X.K) (a := .d d) m ru⟩
      · cases hw
    · rename_i n
      have e1 : v = .ref (ρ n) := r
      subst e1
      split at hw
      · rename_i C' fs hc
        split at hw
        · rename_i hC
          subst hC
          obtain ⟨dx, ws, h1, h2, l1⟩ := m.cell n _ hc
          obtain ⟨u, hu, ru⟩ := lookup_rep f h2 l1 hw
          exact ⟨_, C', _, _, u, rfl, h1, cl, na, hu, q2.fin m ru⟩
        · cases hw
      · cases hw
    · cases hw
end
end Dl
end
section
set_option Elab.async false
set_option linter.all false
set_option maxRecDepth 100000
set_option maxHeartbeats 4000000
namespace Dl
open PySem L2
inductive SR where
  | nx (e : Env)
  | rt (w : W) (e : Env)
  | bk (e : Env)
  | ct (e : Env)
  | exn (x : Xn) (e : Env)
  | fail
abbrev Sv := Env → SR
def Rs.to {α : Type} (r : Rs α) (k : α → Env → SR) : SR := match r with
  | .ok a e => k a e
  | .exn x e => .exn x e
  | .fail => .fail
section
variable {K : PySem.W.Frag} {Wx : WX} {b : Bs} {R : Hp} {ρ : Nat → Addr} {e : Env} {σ : St} {H : Hp} {α β : Type}
def OkS (K : PySem.W.Frag) (Wx : WX) (b : Bs) (R : Hp) (D : Ends) : SR → Prop
  | .nx e' => ∀ R' ρ' σ' H', Same R R' → Md K b R' ρ' e' σ' H' → D.nx σ' H'
  | .rt w e' => ∀ R' ρ' σ' H' v, Same R R' → Md K b R' ρ' e' σ' H' → RepW K R' ρ' w v → D.rt v H'
  | .bk e' => ∀ R' ρ' σ' H', Same R R' → Md K b R' ρ' e' σ' H' → D.bk σ' H'
  | .ct e' => ∀ R' ρ' σ' H', Same R R' → Md K b R' ρ' e' σ' H' → D.ct σ' H'
  | .exn x e' => ∀ R' ρ' σ' H' cls d, Same R R' → Md K b R' ρ' e' σ' H' → ExR K R' x cls d → Wx cls d σ' H'
  | .fail => False
def tS (K : PySem.W.Frag) (Wx : WX) (f : Sv) : TS := fun D σ H => ∃ b R ρ e, Md K b R ρ e σ H ∧ OkS K Wx b R D (f e)
theorem OkS.rebase {R1 : Hp} {D : Ends} {r : SR} (s : Same R R1) (h : OkS K Wx b R D r) : OkS K Wx b R1 D r := by
  cases r with
  | nx e' => exact fun R' ρ' σ' H' s' m => h R' ρ' σ' H' (s.trans s') m
  | rt w e' => exact fun R' ρ' σ' H' v s' m r => h R' ρ' σ' H' v (s.trans s') m r
  | bk e' => exact fun R' ρ' σ' H' s' m => h R' ρ' σ' H' (s.trans s') m
  | ct e' => exact fun R' ρ' σ' H' s' m => h R' ρ' σ' H' (s.trans s') m
  | exn x e' => exact fun R' ρ' σ' H' cls d s' m r => h R' ρ' σ' H' cls d (s.trans s') m r
  | fail => exact h
/-- an expression, then what becomes of its value -/
theorem OkS.to {L : Rl α β} {D : Ends} {r : Rs α} {k : α → Env → SR} (h : OkS K Wx b R D (r.to k)) :
    OkR K Wx L b R ρ e σ (fun v H1 => ∃ R1 ρ1 e1 a, Same R R1 ∧ Live e e1 ρ ρ1 ∧ Md K b R1 ρ1 e1 σ H1 ∧ L R1 ρ1 a v ∧ OkS K Wx b R1 D (k a e1)) r := by
  cases r with
  | ok a e' => exact fun R' ρ' v H' s l m rp => ⟨R', ρ', e', a, s, l, m, rp, OkS.rebase s h⟩
  | exn x e' => exact h
  | fail => exact h
theorem tS_one {L : Rl α β} {f : Env → Rs α} {k : α → Env → SR} {D : Ends} {Z : β → Hp → Prop} (h : tS K Wx (fun e => (f e).to k) D σ H)
    (z : ∀ b R ρ e H a v, Md K b R ρ e σ H → L R ρ a v → OkS K Wx b R D (k a e) → Z v H) : tG K Wx L f σ H Z := by
  obtain ⟨b, R, ρ, e, m, h⟩ := h
  refine ⟨b, R, ρ, e, m, (OkS.to (L := L) h).imp fun v H1 h1 => ?_⟩
  obtain ⟨R1, ρ1, e1, a, s1, l1, m1, r1, q⟩ := h1
  exact z b R1 ρ1 e1 H1 a v m1 r1 q
/-- one statement after the other -/
def SR.seq (r : SR) (k : Sv) : SR := match r with
  | .nx e => k e
  | r => r
def sSeq (f g : Sv) : Sv := fun e => (f e).seq g
def sNil : Sv := fun e => .nx e
theorem OkS.seq {D : Ends} {r : SR} {g : Sv} (h : OkS K Wx b R D (r.seq g)) : OkS K Wx b R { D with nx := tS K Wx g D } r := by
  cases r with
  | nx e' => exact fun R' ρ' σ' H' s m => ⟨b, R', ρ', e', m, OkS.rebase s h⟩
  | rt w e' => exact h
  | bk e' => exact h
  | ct e' => exact h
  | exn x e' => exact h
  | fail => exact h
theorem OkS.imp {D D' : Ends} {r : SR} (h : OkS K Wx b R D r) (h1 : ∀ σ H, D.nx σ H → D'.nx σ H) (h2 : ∀ v H, D.rt v H → D'.rt v H) (h3 : ∀ σ H, D.bk σ H → D'.bk σ H) (h4 : ∀ σ H, D.ct σ H → D'.ct σ H) : OkS K Wx b R D' r := by
  cases r with
  | nx e' => exact fun R' ρ' σ' H' s' m => h1 _ _ (h R' ρ' σ' H' s' m)
  | rt w e' => exact fun R' ρ' σ' H' v s' m r => h2 _ _ (h R' ρ' σ' H' v s' m r)
  | bk e' => exact fun R' ρ' σ' H' s' m => h3 _ _ (h R' ρ' σ' H' s' m)
  | ct e' => exact fun R' ρ' σ' H' s' m => h4 _ _ (h R' ρ' σ' H' s' m)
  | exn x e' => exact h
  | fail => exact h
end
section
variable {X : Cx} {Wx : WX} {a c : Expr} {st : Stmt} {sts sts' : List Stmt} {pos : Pos} {K : PySem.W.Frag}
theorem s_nil : PSs X [] (tS X.K Wx sNil) := pss_nil.imp fun D σ H ⟨b, R, ρ, e, m, q⟩ => q R ρ σ H (Same.refl R) m
theorem s_cons {f g : Sv} (h1 : PS X st (tS X.K Wx f)) (h2 : PSs X sts (tS X.K Wx g)) : PSs X (st :: sts) (tS X.K Wx (sSeq f g)) := (pss_cons h1 h2).imp fun D σ H ⟨b, R, ρ, e, m, q⟩ => ⟨b, R, ρ, e, m, OkS.seq q⟩
theorem s_one {f : Sv} (h1 : PS X st (tS X.K Wx f)) : PSs X [st] (tS X.K Wx f) := pss_one h1
/-- slots forgotten -/
def clrL (ws : List (Option W)) : List Nat → List (Option W)
  | [] => ws
  | v :: vs => (clrL ws vs).set v none
def Env.clr (e : Env) (vs : List Nat) : Env := { e with ws := clrL e.ws vs }
theorem clrL_length (ws : List (Option W)) : ∀ vs : List Nat, (clrL ws vs).length = ws.length
  | [] => rfl
  | v :: vs => by unfold clrL; rw [List.length_set, clrL_length ws vs]
theorem clrL_some {ws : List (Option W)} {i : Nat} {w : W} : ∀ {vs : List Nat}, ((clrL ws vs)[i]?).join = some w → (ws[i]?).join = some w ∧ i ∉ vs
  | [], h => ⟨h, by simp⟩
  | v :: vs, h => by
    unfold clrL at h
    rw [List.getElem?_set] at h
    by_cases hi : v = i
    · subst hi
      rw [if_pos rfl] at h
      split at h <;> cases h
    · rw [if_neg hi] at h
      obtain ⟨h1, h2⟩ := clrL_some h
      exact ⟨h1, by simp only [List.mem_cons, not_or]; exact ⟨fun z => hi z.symm, h2⟩⟩
theorem clr_slot {e : Env} {vs : List Nat} {i : Nat} {w : W} (h : (e.clr vs).slot i = some w) : e.slot i = some w ∧ i ∉ vs := clrL_some h
theorem Md.clr {b : Bs} {R : Hp} {ρ : Nat → Addr} {e : Env} {σ : St} {H : Hp} (m : Md K b R ρ e σ H) (vs : List Nat) : Md K b R ρ (e.clr vs) σ H := m.less (fun i w h => (clr_slot h).1) (fun n c h => h) rfl (clrL_length _ _)
def sExpr (f : Ev) : Sv := fun e => (f e).to fun _ e' => .nx e'
theorem s_expr {f : Ev} (he : PE X a (tD X.K Wx f)) (hs : swapsWith a none pos.line X.env = pure false := by rfl) : PS X (.Expr a pos) (tS X.K Wx (sExpr f)) := (ps_expr he hs).imp fun D σ H h =>
  tS_one h fun b R ρ e H w v m r q => q R ρ σ H (Same.refl R) m
def sRet (f : Ev) : Sv := fun e => (f e).to fun w e' => .rt w e'
theorem s_ret {f : Ev} (he : PE X a (tD X.K Wx f)) : PS X (.Return (some a) pos) (tS X.K Wx (sRet f)) := (ps_ret he).imp fun D σ H h =>
  tS_one h fun b R ρ e H w v m r q => q R ρ σ H v (Same.refl R) m r
def sIf (t : Env → Rs Bool) (f g : Sv) : Sv := fun e => (t e).to fun k e1 => if k = true then f e1 else g e1
theorem s_if {t : Env → Rs Bool} {f g : Sv} (hc : PT X a (tDT X.K Wx t)) (ha : PSs X sts (tS X.K Wx f)) (hb : PSs X sts' (tS X.K Wx g)) : PS X (.If a sts sts' pos) (tS X.K Wx (sIf t f g)) := (ps_if hc ha hb).imp fun D σ H h =>
  tS_one h fun b R ρ e H k v m r q => by
    have e1 : k = v := r
    subst e1
    cases k with
    | true => exact ⟨b, R, ρ, e, m, q⟩
    | false => exact ⟨b, R, ρ, e, m, q⟩
/-- name = value -/
def sSet (i : Nat) (f : Ev) : Sv := fun e => (f e).to fun w e' => .nx (e'.setS i (some w))
theorem s_set0 {i : Nat} {x : Str} {pos' : Pos} {f : Ev} (h : PS X (.Assign [.Name x pos'] a pos) (tAsg (tD X.K Wx f) (gName i))) : PS X (.Assign [.Name x pos'] a pos) (tS X.K Wx (sSet i f)) := h.imp fun D σ H h =>
  tS_one h fun b R ρ e H w v m r q => q R ρ _ H (Same.refl R) (m.setS r)
theorem s_set {i : Nat} {x : Str} {pos' : Pos} {f : Ev} (hN : X.N.Nodup) (hi : X.N[i]? = some x) (hx : Loc X.env.scope x) (he : PE X a (tD X.K Wx f)) (hs : swapsWith a (some (.Name x pos')) pos.line X.env = pure false := by rfl) (hf : X.fn x = true ∨ X.env.scope.names.lookup x = some .local := by first | exact .inl rfl | exact .inr rfl | assumption) :
    PS X (.Assign [.Name x pos'] a pos) (tS X.K Wx (sSet i f)) := s_set0 (ps_set hN hi hx he hs hf)
abbrev Tg := D → Env → Option Env
def TgD (K : PySem.W.Frag) (g : Tg) (vs : List Nat) (t : TG) : Prop :=
  (∀ d e e', g d e = some e' → e'.M = e.M) ∧ ∀ (b : Bs) (R : Hp) (ρ : Nat → Addr) (e e' : Env) (d : D) (v : V) (σ : St) (H : Hp) (Q : St → Hp → Prop), Md K b R ρ e σ H → Rep K R d v → g d e = some e' →
    (∀ σ', Md K b R ρ e' σ' H → (∀ j, j ∉ vs → σ'[j]? = σ[j]?) → σ'.length = σ.length → Q σ' H) → t v σ H Q
def tgName (i : Nat) : Tg := fun d e => some (e.setS i (some (.d d)))
theorem tgName_ok (i : Nat) : TgD K (tgName i) [i] (gName i) := ⟨fun d e e' h => (by cases h; rfl), fun b R ρ e e' d v σ H Q m r h q => by
  cases h
  refine q _ (m.setS (w := .d d) r) (fun j hj => ?_) (List.length_set)
  rw [List.getElem?_set_ne (fun z => hj (by rw [z]; exact List.mem_singleton.mpr rfl))]⟩
/-- several -/
def tgL : List Tg → List D → Env → Option Env
  | [], [], e => some e
  | g :: gs, d :: ds, e => match g d e with | some e1 => tgL gs ds e1 | none => none
  | _, _, _ => none
def TgsD (K : PySem.W.Frag) (gs : List Tg) (vs : List Nat) (t : TGs) : Prop :=
  (∀ ds e e', tgL gs ds e = some e' → e'.M = e.M) ∧ ∀ (b : Bs) (R : Hp) (ρ : Nat → Addr) (e e' : Env) (ds : List D) (us : List V) (σ : St) (H : Hp) (Q : St → Hp → Prop), Md K b R ρ e σ H → RepL K R ds us → tgL gs ds e = some e' →
    (∀ σ', Md K b R ρ e' σ' H → (∀ j, j ∉ vs → σ'[j]? = σ[j]?) → σ'.length = σ.length → Q σ' H) → t us σ H Q
theorem tgs_nil : TgsD K [] [] gNil := ⟨fun ds e e' h => (by
  cases ds with
  | nil => cases h; rfl
  | cons d ds => cases h), fun b R ρ e e' ds us σ H Q m r h q => by
  cases r with
  | nil => cases h; exact ⟨rfl, q σ m (fun _ _ => rfl) rfl⟩
  | cons a t => cases h⟩
theorem tgs_cons {g : Tg} {gs : List Tg} {vs vs' : List Nat} {t : TG} {u : TGs} (h1 : TgD K g vs t) (h2 : TgsD K gs vs' u) : TgsD K (g :: gs) (vs ++ vs') (gCons t u) := ⟨fun ds e e' h => (by
  cases ds with
  | nil => cases h
  | cons d ds =>
    unfold tgL at h
    cases hg : g d e with
    | none => rw [hg] at h; cases h
    | some e1 => rw [hg] at h; exact (h2.1 ds e1 e' h).trans (h1.1 d e e1 hg)), fun b R ρ e e' ds us σ H Q m r h q => by
  cases r with
  | nil => cases h
  | cons a tl =>
    rename_i d v ds us
    unfold tgL at h
    cases hg : g d e with
    | none => rw [hg] at h; cases h
    | some e1 =>
      rw [hg] at h
      refine ⟨_, _, rfl, h1.2 b R ρ e e1 d v σ H _ m a hg fun σ1 m1 k1 l1 => ?_⟩
      refine h2.2 b R ρ e1 e' ds us σ1 H Q m1 tl h fun σ2 m2 k2 l2 => q σ2 m2 (fun j hj => ?_) (l2.trans l1)
      rw [k2 j fun z => hj (List.mem_append_right _ z), k1 j fun z => hj (List.mem_append_left _ z)]⟩
def setC (c : Cell) (i : Int) (w : W) : Option Cell := match c, w with
  | .lst xs, .d y => match ixN xs.length i with | some j => some (.lst (xs.set j y)) | none => none
  | .lw us, w => match ixN us.length i with | some j => some (.lw (us.set j w)) | none => none
  | _, _ => none
def putW (f : Str) (w : W) : List (Str × W) → List (Str × W)
  | [] => [(f, w)]
  | (g, x) :: r => if g = f then (g, w) :: r else (g, x) :: putW f w r
theorem putW_rep {F : W → V → Prop} (f : Str) {w : W} {v : V} (r : F w v) : ∀ {fs : List (Str × W)} {ws : List (Str × V)}, ws.map (·.1) = fs.map (·.1) → Paired F (fs.map (·.2)) (ws.map (·.2)) →
    (putF f v ws).map (·.1) = (putW f w fs).map (·.1) ∧ Paired F ((putW f w fs).map (·.2)) ((putF f v ws).map (·.2))
  | [], [], _, _ => ⟨rfl, .cons r .nil⟩
  | [], _ :: _, h, _ => by simp at h
  | _ :: _, [], h, _ => by simp at h
  | (g, x) :: fs, (g', y) :: ws, h1, h2 => by
    rw [List.map_cons, List.map_cons] at h1
    injection h1 with e1 e2
    have e1 : g' = g := e1
    subst e1
    cases h2 with
    | cons a t =>
      by_cases hq : g' = f
      · subst hq
        rw [show putF g' v ((g', y) :: ws) = (g', v) :: ws from if_pos rfl, show putW g' w ((g', x) :: fs) = (g', w) :: fs from if_pos rfl]
        exact ⟨by rw [List.map_cons, List.map_cons, e2], .cons r t⟩
      · rw [show putF f v ((g', y) :: ws) = (g', y) :: putF f v ws from if_neg hq, show putW f w ((g', x) :: fs) = (g', x) :: putW f w fs from if_neg hq]
        obtain ⟨h3, h4⟩ := putW_rep f r e2 t
        exact ⟨by rw [List.map_cons, List.map_cons, h3], .cons a h4⟩
def kSetF (C : Addr) (f : Str) (w o : W) : Sv := fun e => match o with
  | .loc n => match e.cell n with
    | some (.obj C' fs) => if C' = C ∧ fs.length < 1000 then .nx (e.setC n (some (.obj C' (putW f w fs)))) else .fail
    | _ => .fail
  | _ => .fail
def sSetF (C : Addr) (f : Str) (fo fv : Ev) : Sv := fun e => (fv e).to fun w e1 => if wl e1 w = true then (fo e1).to fun o e2 => kSetF C f w o e2 else .fail
theorem s_setF {C : Addr} {f : Str} {o : Expr} {fo fv : Ev} {p' : Pos} (cl : Cls X.K C) (na : NoAttr X.K C f) (ho : PE X o (tD X.K Wx fo)) (hv : PE X a (tD X.K Wx fv)) (hs : swapsWith a (some (.Attribute o f p')) pos.line X.env = pure false := by rfl) :
    PS X (.Assign [.Attribute o f p'] a pos) (tS X.K Wx (sSetF C f fo fv)) := (ps_fld ho hv hs).imp fun D σ H h =>
  tS_one h fun b R ρ e H w v m r q => by
    split at q
    · rename_i hl
      refine ⟨b, R, ρ, e, m, (OkS.to (L := lW X.K) q).imp fun ov H2 h2 => ?_⟩
      obtain ⟨R2, ρ2, e2, wo, s2, l2, m2, r2, q2⟩ := h2
      have rv := r.later hl s2 l2
      unfold kSetF at q2
      split at q2
      · rename_i n
        have e1 : ov = .ref (ρ2 n) := r2
        subst e1
        split at q2
        · rename_i C' fs hc
          split at q2
          · rename_i hC
            obtain ⟨hC, hlen⟩ := hC
            subst hC
            obtain ⟨dx, ws, g1, g2, g3⟩ := m2.cell n _ hc
            have e3 := congrArg List.length g2
            rw [List.length_map, List.length_map] at e3
            obtain ⟨p1, p2⟩ := putW_rep f rv g2 g3
            exact ⟨_, C', dx, ws, rfl, g1, cl, na, by rw [e3]; exact hlen, q2 R2 ρ2 σ _ (Same.refl R2) (m2.write (c' := .obj C' (putW f w fs)) hc ⟨dx, _, upd_same, p1, p2⟩)⟩
          · exact q2.elim
        · exact q2.elim
      · exact q2.elim
    · exact q.elim
end
end Dl
end
section
set_option Elab.async false
set_option linter.all false
set_option maxRecDepth 100000
set_option maxHeartbeats 4000000
namespace Dl
open PySem L2
structure Itr where
  items : List D
  chk : Env → Prop
def ItOk (K : PySem.W.Frag) (R : Hp) (ρ : Nat → Addr) (a : Itr) (J : It) : Prop :=
  ∀ (b : Bs) (R' : Hp) (ρ' : Nat → Addr) (e : Env) (σ : St) (H : Hp), Same R R' → (∀ n, n < e.np → ρ' n = ρ n) → Md K b R' ρ' e σ H → a.chk e →
    (∀ i, i < a.items.length → J.go i H ∧ ∀ x H', J.yld i H x H' → ∃ R'' d, a.items[i]? = some d ∧ Same R' R'' ∧ Md K b R'' ρ' e σ H' ∧ Rep K R'' d x) ∧ J.stop a.items.length H
abbrev lI (K : PySem.W.Frag) : Rl Itr It := fun R ρ a J => ItOk K R ρ a J
abbrev tDI (K : PySem.W.Frag) (Wx : WX) (f : Env → Rs Itr) : TI := tG K Wx (lI K) f
section
variable {K : PySem.W.Frag} {R : Hp} {ρ : Nat → Addr}
theorem ItOk.list {xs : List D} {vs : List V} {p : Addr} (hs : SqL K R p vs) (l : RepL K R xs vs) : ItOk K R ρ ⟨xs, fun _ => True⟩ (Itl K p) := fun b R' ρ' e σ H s _ m _ => by
  have w := walk_list (K := K) (a := p) (xs := vs)
  have hq : SqL K H p vs := m.sub.seq (s.seq hs)
  have hl := l.length
  refine ⟨fun i hi => ⟨w.goes i H (by rw [← hl]; exact hi) hq, fun x H' y => ?_⟩, by
    show (Itl K p).stop xs.length H
    rw [hl]; exact w.stops H hq⟩
  obtain ⟨e1, hx⟩ := w.yields i H x H' (by rw [← hl]; exact hi) hq y
  subst e1
  obtain ⟨d, hd, r⟩ := (RepL.mono s l).get2 hx
  exact ⟨R', d, hd, Same.refl _, m, r⟩
theorem ItOk.tup {xs : List D} {vs : List V} {p : Addr} (hs : SqT K R p vs) (l : RepL K R xs vs) : ItOk K R ρ ⟨xs, fun _ => True⟩ (Itt K p) := fun b R' ρ' e σ H s _ m _ => by
  have w := walk_tup (K := K) (a := p) (xs := vs)
  have hq : SqT K H p vs := sameT m.sub (sameT s hs)
  have hl := l.length
  refine ⟨fun i hi => ⟨w.goes i H (by rw [← hl]; exact hi) hq, fun x H' y => ?_⟩, by
    show (Itt K p).stop xs.length H
    rw [hl]; exact w.stops H hq⟩
  obtain ⟨e1, hx⟩ := w.yields i H x H' (by rw [← hl]; exact hi) hq y
  subst e1
  obtain ⟨d, hd, r⟩ := (RepL.mono s l).get2 hx
  exact ⟨R', d, hd, Same.refl _, m, r⟩
/-- an own list of the caller's: it must stand as it stood -/
theorem ItOk.own {xs : List D} {n : Nat} : ItOk K R ρ ⟨xs, fun e => e.cell n = some (.lst xs) ∧ n < e.np⟩ (Itl K (ρ n)) := fun b R' ρ' e σ H s hr m hc => by
  obtain ⟨hc, hn⟩ := hc
  obtain ⟨vs, h1, l⟩ := m.cell n _ hc
  rw [hr n hn] at h1
  have w := walk_list (K := K) (a := ρ n) (xs := vs)
  have hq : SqL K H (ρ n) vs := SqL.of h1
  have hl := l.length
  refine ⟨fun i hi => ⟨w.goes i H (by rw [← hl]; exact hi) hq, fun x H' y => ?_⟩, by
    show (Itl K (ρ n)).stop xs.length H
    rw [hl]; exact w.stops H hq⟩
  obtain ⟨e1, hx⟩ := w.yields i H x H' (by rw [← hl]; exact hi) hq y
  subst e1
  obtain ⟨d, hd, r⟩ := l.get2 hx
  exact ⟨R', d, hd, Same.refl _, m, r⟩
def rangeL (lo : Int) (n : Nat) : List D := (List.range n).map fun i => D.int (lo + (i : Nat))
theorem rangeL_get {lo : Int} {n i : Nat} (h : i < n) : (rangeL lo n)[i]? = some (.int (lo + (i : Nat))) := by
  unfold rangeL
  rw [List.getElem?_map, List.getElem?_range h]
  rfl
theorem rangeL_len (lo : Int) (n : Nat) : (rangeL lo n).length = n := by unfold rangeL; rw [List.length_map, List.length_range]
theorem ItOk.range {lo : Int} {n : Nat} : ItOk K R ρ ⟨rangeL lo n, fun _ => True⟩ (L2.Itr lo n) := fun b R' ρ' e σ H s hr m hc => by
  refine ⟨fun i hi => ?_, by show n ≤ (rangeL lo n).length; rw [rangeL_len]; exact Nat.le_refl _⟩
  have hi' : i < n := by
    have : i < (rangeL lo n).length := hi
    rw [rangeL_len] at this; exact this
  refine ⟨hi', fun x H' y => ?_⟩
  obtain ⟨e1, e2⟩ := y
  subst e1; subst e2
  exact ⟨R', _, rangeL_get hi', Same.refl _, m, .int _⟩
/-- enumerate, zip: new pairs -/
theorem pair_new {b : Bs} {e : Env} {σ : St} {H H' : Hp} {R' : Hp} {ρ' : Nat → Addr} {v x y : V} {d d' : D} {T : Addr} (m : Md K b R' ρ' e σ H) (hT : H T = none) (e1 : v = .ref T) (e2 : H' = upd H T (.tup [x, y])) (rx : Rep K R' d x) (ry : Rep K R' d' y) :
    ∃ R'', Same R' R'' ∧ Md K b R'' ρ' e σ H' ∧ Rep K R'' (.tup [d, d']) v := by
  subst e1; subst e2
  have fr := m.freshR hT
  exact ⟨_, same_upd fr, m.freshD hT _, .tup upd_same (.cons (Rep.mono (same_upd fr) rx) (.cons (Rep.mono (same_upd fr) ry) .nil))⟩
def zipL (xs ys : List D) : List D := List.zipWith (fun a c => D.tup [a, c]) xs ys
theorem zipL_len (xs ys : List D) : (zipL xs ys).length = min xs.length ys.length := by unfold zipL; rw [List.length_zipWith]
theorem ItOk.zip {xs ys : List D} {vs us : List V} {p p' : Addr} (hs : SqL K R p vs) (l : RepL K R xs vs) (hs' : SqL K R p' us) (l' : RepL K R ys us) : ItOk K R ρ ⟨zipL xs ys, fun _ => True⟩ (Itz K p p') := fun b R' ρ' e σ H s _ m _ => by
  have w := walk_zip (K := K) (a := p) (b := p') (xs := vs) (ys := us) (n := min xs.length ys.length) (by rw [l.length, l'.length])
  have hq : SqL K H p vs ∧ SqL K H p' us := ⟨m.sub.seq (s.seq hs), m.sub.seq (s.seq hs')⟩
  refine ⟨fun i hi => ?_, by
    show (Itz K p p').stop (zipL xs ys).length H
    rw [zipL_len]; exact w.stops H hq⟩
  have hi' : i < min xs.length ys.length := by
    have : i < (zipL xs ys).length := hi
    rw [zipL_len] at this; exact this
  refine ⟨w.goes i H hi' hq, fun x H' y => ?_⟩
  obtain ⟨T, x1, y1, e1, hT, e2, hx, hy⟩ := w.yields i H x H' hi' hq y
  obtain ⟨d, hd, r⟩ := (RepL.mono s l).get2 hx
  obtain ⟨d', hd', r'⟩ := (RepL.mono s l').get2 hy
  obtain ⟨R'', s2, m2, r2⟩ := pair_new m hT e1 e2 r r'
  refine ⟨R'', _, ?_, s2, m2, r2⟩
  show (zipL xs ys)[i]? = _
  unfold zipL
  rw [List.getElem?_zipWith, hd, hd']
def strL (z : Str) : List D := z.cps.toList.map fun c => .str ⟨#[c]⟩
theorem ItOk.str {z : Str} : ItOk K R ρ ⟨strL z, fun _ => True⟩ (Its z) := fun b R' ρ' e σ H s hr m hc => by
  have hl : (strL z).length = z.cps.size := by unfold strL; rw [List.length_map, Array.length_toList]
  refine ⟨fun i hi => ?_, by show z.cps.size ≤ (strL z).length; rw [hl]; exact Nat.le_refl _⟩
  have hi' : i < z.cps.size := by
    have : i < (strL z).length := hi
    rw [hl] at this; exact this
  refine ⟨hi', fun x H' y => ?_⟩
  obtain ⟨e1, c, hc, e2⟩ := y
  subst e1; subst e2
  refine ⟨R', _, ?_, Same.refl _, m, .str _⟩
  show (strL z)[i]? = _
  unfold strL
  rw [List.getElem?_map, Array.getElem?_toList, hc]
  rfl
end
section
variable {X : Cx} {Wx : WX} {a c tg : Expr} {es : List Expr} {pos : Pos}
def kItL (w : W) : Env → Rs Itr := fun e => match w with
  | .d (.lst xs) => .ok ⟨xs, fun _ => True⟩ e
  | .d (.rd xs) => .ok ⟨xs, fun _ => True⟩ e
  | .loc n => match e.cell n with
    | some (.lst xs) => .ok ⟨xs, fun e' => e'.cell n = some (.lst xs) ∧ n < e'.np⟩ e
    | _ => .fail
  | _ => .fail
def iL (f : Ev) : Env → Rs Itr := fun e => (f e).bind kItL
theorem i_list {f : Ev} (h : PE X a (tD X.K Wx f)) : PI X tg a (tDI X.K Wx (iL f)) := (pi_list h).imp fun σ H Q q =>
  tG_one q fun bs R ρ e H w v m r q2 => by
    unfold kItL at q2
    split at q2
    · have r : Rep X.K R _ v := r
      cases r with
      | lst h1 l1 => exact ⟨_, rfl, ⟨_, SqL.of (m.sub _ _ h1)⟩, q2.fin m (ItOk.list (SqL.of h1) l1)⟩
    · have r : Rep X.K R _ v := r
      cases r with
      | rd h1 l1 => exact ⟨_, rfl, ⟨_, m.sub.seq h1⟩, q2.fin m (ItOk.list h1 l1)⟩
    · rename_i n
      have e1 : v = .ref (ρ n) := r
      subst e1
      split at q2
      · rename_i xs hc
        obtain ⟨vs, h1, l⟩ := m.cell n _ hc
        exact ⟨_, rfl, ⟨vs, SqL.of h1⟩, q2.fin m ItOk.own⟩
      · exact q2.elim
    · exact q2.elim
def kItS (w : W) : Env → Rs Itr := fun e => match w with
  | .d (.str z) => .ok ⟨strL z, fun _ => True⟩ e
  | _ => .fail
def iS (f : Ev) : Env → Rs Itr := fun e => (f e).bind kItS
theorem i_str {f : Ev} (h : PE X a (tD X.K Wx f)) : PI X tg a (tDI X.K Wx (iS f)) := (pi_str h).imp fun σ H Q q =>
  tG_one q fun bs R ρ e H w v m r q2 => by
    unfold kItS at q2
    split at q2
    · have r : Rep X.K R _ v := r
      cases r with
      | str z => exact ⟨_, rfl, q2.fin m ItOk.str⟩
    · exact q2.elim
def kRng1 (ws : List W) : Env → Rs Itr := fun e => match ws with
  | [.d (.int j)] => if -(2 ^ 62) ≤ j ∧ j < 2 ^ 62 then .ok ⟨rangeL 0 j.toNat, fun _ => True⟩ e else .fail
  | _ => .fail
def iRg1 (f : Ev) : Env → Rs Itr := fun e => (evA [f] e).bind kRng1
theorem i_range1 {f : Ev} {p : Pos} (hg : Gl X "range") (hm : X.mg "range" = none) (ha : PA X [a] (tDA X.K Wx (evA [f]))) (hs : starEach [a] X.env = [(false, eval a X.env)] := by rfl) : PI X tg (.Call (.Name "range" p) [a] [] pos) (tDI X.K Wx (iRg1 f)) := (pi_range1 hg hm ha hs).imp fun σ H Q q =>
  tG_one q fun bs R ρ e H ws vs m r q2 => by
    unfold kRng1 at q2
    split at q2
    · rename_i j
      obtain ⟨v, e1, rv⟩ := pair1 r
      subst e1
      have rv : Rep X.K R (.int j) v := rv
      cases rv
      split at q2
      · rename_i hj
        exact ⟨j, rfl, hj.1, hj.2, q2.fin m ItOk.range⟩
      · exact q2.elim
    · exact q2.elim
open Classical in
noncomputable def forD (g : Tg) (chk : Env → Prop) (body : Sv) (fg : List Nat) : List D → Sv
  | [], e => if chk e then .nx e else .fail
  | d :: ds, e => if chk e then
      (match g d e with
        | none => .fail
        | some e1 => match body e1 with
          | .nx e2 => forD g chk body fg ds (e2.clr fg)
          | .ct e2 => forD g chk body fg ds (e2.clr fg)
          | .bk e2 => .nx e2
          | r => r)
    else .fail
noncomputable def sFor (it : Env → Rs Itr) (g : Tg) (fg : List Nat) (body : Sv) : Sv := fun e => (it e).to fun a e1 => forD g a.chk body fg a.items e1
theorem s_for {it : Expr} {body : List Stmt} {f : Env → Rs Itr} {g : Tg} {fg : List Nat} {vs : List Nat} {t : TG} {fb : Sv} (hp : PassesOwn (model X.prog X.w) X.A X.env X.xe) (hc : X.calm = true) (hi : PI X tg it (tDI X.K Wx f)) (hg : PG X tg t) (hd : TgD X.K g vs t) (hb : PSs X body (tS X.K Wx fb))
    (hs : ∀ x, foldedSetIterable it X.env x = pure x := by intro _; rfl) : PS X (.For tg it body [] pos) (tS X.K Wx (sFor f g fg fb)) := (ps_for hp hc hi hg hb hs).imp fun D σ H h => by
  refine tS_one h fun b R1 ρ1 e1 H1 a J m1 it1 q1 => ?_
  refine ⟨fun i m σ H => m = a.items.length - i ∧ i ≤ a.items.length ∧ ∃ R' ρ' e', Same R1 R' ∧ Md X.K b R' ρ' e' σ H ∧ OkS X.K Wx b R' D (forD g a.chk fb fg (a.items.drop i) e'), ⟨a.items.length, rfl, Nat.zero_le _, R1, ρ1, e1, Same.refl _, m1, q1⟩, ?_⟩
  rintro i m σ' H' ⟨rfl, hi, R', ρ', e', s', m', q'⟩
  have hnp : ∀ n, n < e'.np → ρ' n = ρ1 n := fun n h2 => by
    have h3 := m'.par n h2
    have h4 := m1.par n (by rw [← m1.npl, m'.npl]; exact h2)
    rw [h4] at h3
    exact (Option.some.inj h3).symm
  by_cases hlt : i < a.items.length
  · have hdrop : a.items.drop i = a.items[i] :: a.items.drop (i + 1) := List.drop_eq_getElem_cons hlt
    rw [hdrop] at q'
    unfold forD at q'
    by_cases hchk : a.chk e'
    · rw [if_pos hchk] at q'
      have io := it1 b R' ρ' e' σ' H' s' hnp m' hchk
      · obtain ⟨go, yl⟩ := io.1 i hlt
        refine .inr ⟨go, fun σ2 H2 => ∃ m2, m2 < a.items.length - i ∧ (m2 = a.items.length - (i + 1) ∧ i + 1 ≤ a.items.length ∧ ∃ R2 ρ2 e2, Same R1 R2 ∧ Md X.K b R2 ρ2 e2 σ2 H2 ∧ OkS X.K Wx b R2 D (forD g a.chk fb fg (a.items.drop (i + 1)) e2)), fun σ2 H2 n2 => n2, fun x H2 y => ?_⟩
        obtain ⟨R'', d, hd1, s2, m2, r2⟩ := yl x H2 y
        have ed : a.items[i] = d := by
          rw [List.getElem?_eq_getElem hlt] at hd1
          exact Option.some.inj hd1
        rw [ed] at q'
        cases hge : g d e' with
        | none => simp only [hge] at q'; exact q'.elim
        | some e2 =>
          simp only [hge] at q'
          refine hd.2 b R'' ρ' e' e2 d x σ' H2 _ m2 r2 hge fun σ3 m3 _ _ => ⟨b, R'', ρ', e2, m3, ?_⟩
          have q2 := OkS.rebase s2 q'
          cases hbe : fb e2 with
          | nx e3 =>
            simp only [hbe] at q2
            exact fun R4 ρ4 σ4 H4 s4 m4 => ⟨_, by omega, rfl, by omega, R4, ρ4, e3.clr fg, s'.trans (s2.trans s4), m4.clr fg, OkS.rebase s4 q2⟩
          | ct e3 =>
            simp only [hbe] at q2
            exact fun R4 ρ4 σ4 H4 s4 m4 => ⟨_, by omega, rfl, by omega, R4, ρ4, e3.clr fg, s'.trans (s2.trans s4), m4.clr fg, OkS.rebase s4 q2⟩
          | bk e3 => simp only [hbe] at q2; exact q2
          | rt w e3 => simp only [hbe] at q2; exact q2
          | exn x e3 => simp only [hbe] at q2; exact q2
          | fail => simp only [hbe] at q2; exact q2
    · rw [if_neg hchk] at q'; exact q'.elim
  · have e0 : i = a.items.length := by omega
    subst e0
    rw [List.drop_length] at q'
    unfold forD at q'
    by_cases hchk : a.chk e'
    · rw [if_pos hchk] at q'
      have io := it1 b R' ρ' e' σ' H' s' hnp m' hchk
      · exact .inl ⟨io.2, q' R' ρ' σ' H' (Same.refl _) m'⟩
    · rw [if_neg hchk] at q'; exact q'.elim
end
end Dl
end
section
set_option Elab.async false
set_option linter.all false
set_option maxRecDepth 100000
set_option maxHeartbeats 4000000
namespace Dl
open PySem L2
section
variable {X : Cx} {Wx : WX} {a c tg : Expr} {es : List Expr} {pos : Pos}
def whD (t : Env → Rs Bool) (body : Sv) (fg : List Nat) : Nat → Sv
  | 0, _ => .fail
  | n + 1, e => (t e).to fun k e1 => if k = true then
      (match body e1 with
        | .nx e2 => whD t body fg n (e2.clr fg)
        | .ct e2 => whD t body fg n (e2.clr fg)
        | .bk e2 => .nx e2
        | r => r)
    else .nx e1
def sWhile (fuel : Env → Nat) (t : Env → Rs Bool) (fg : List Nat) (body : Sv) : Sv := fun e => whD t body fg (fuel e) e
theorem s_while {fuel : Env → Nat} {t : Env → Rs Bool} {fg : List Nat} {fb : Sv} {body : List Stmt} (hp : PassesOwn (model X.prog X.w) X.A X.env X.xe) (hc : PT X a (tDT X.K Wx t)) (hb : PSs X body (tS X.K Wx fb)) : PS X (.While a body [] pos) (tS X.K Wx (sWhile fuel t fg fb)) := (ps_while hp hc hb).imp fun D σ H h => by
  obtain ⟨b, R, ρ, e, m, q⟩ := h
  refine ⟨fun n σ H => ∃ R' ρ' e', Same R R' ∧ Md X.K b R' ρ' e' σ H ∧ OkS X.K Wx b R' D (whD t fb fg n e'), ⟨fuel e, R, ρ, e, Same.refl _, m, q⟩, ?_⟩
  rintro n σ' H' ⟨R', ρ', e', s', m', q'⟩
  cases n with
  | zero => exact q'.elim
  | succ n =>
    unfold whD at q'
    refine ⟨b, R', ρ', e', m', (OkS.to (L := lB) q').imp fun k H2 h2 => ?_⟩
    obtain ⟨R2, ρ2, e2, k', s2, l2, m2, r2, q2⟩ := h2
    have e0 : k' = k := r2
    subst e0
    cases k' with
    | false => exact q2 R2 ρ2 σ' H2 (Same.refl _) m2
    | true =>
      rw [if_pos rfl] at q2 ⊢
      refine ⟨fun σ3 H3 => ∃ R3 ρ3 e3, Same R R3 ∧ Md X.K b R3 ρ3 e3 σ3 H3 ∧ OkS X.K Wx b R3 D (whD t fb fg n e3), fun σ3 H3 n3 => ⟨n, by omega, n3⟩, b, R2, ρ2, e2, m2, ?_⟩
      cases hbe : fb e2 with
      | nx e3 =>
        simp only [hbe] at q2
        exact fun R4 ρ4 σ4 H4 s4 m4 => ⟨R4, ρ4, e3.clr fg, s'.trans (s2.trans s4), m4.clr fg, OkS.rebase s4 q2⟩
      | ct e3 =>
        simp only [hbe] at q2
        exact fun R4 ρ4 σ4 H4 s4 m4 => ⟨R4, ρ4, e3.clr fg, s'.trans (s2.trans s4), m4.clr fg, OkS.rebase s4 q2⟩
      | bk e3 => simp only [hbe] at q2; exact q2
      | rt w e3 => simp only [hbe] at q2; exact q2
      | exn x e3 => simp only [hbe] at q2; exact q2
      | fail => simp only [hbe] at q2; exact q2
def Rs.bindF {α γ : Type} (r : Rs α) (k : α → Env → Rs γ) : Rs γ :=
  match r with
  | .ok a e => k a e
  | .exn _ _ => .fail
  | .fail => .fail
def pushK (k : Nat) (w : W) (e : Env) : Option Env := match e.cell k, w with
  | some (.lst acc), .d y => if acc.length < sizeLine then some (e.setC k (some (.lst (acc ++ [y])))) else none
  | _, _ => none
open Classical in
noncomputable def lcD (g : Tg) (chk : Env → Prop) (t : Env → Rs Bool) (f : Ev) (k : Nat) (vs : List Nat) : List D → Env → Rs Unit
  | [], e => if chk e then .ok () e else .fail
  | d :: ds, e => if chk e then
      (match g d (e.clr vs) with
        | none => .fail
        | some e1 => (t e1).bindF fun c e2 => if c = true then
            (f e2).bindF fun w e3 => (match pushK k w e3 with
              | some e4 => lcD g chk t f k vs ds (e4.clr vs)
              | none => .fail)
          else lcD g chk t f k vs ds (e2.clr vs))
    else .fail
/-- the end: the new list stays own, or is frozen -/
def endL (keep : Bool) (k : Nat) : Ev := fun e => match e.cell k with
  | some (.lst xs) => if keep = true then .ok (.loc k) e else .ok (.d (.lst xs)) (e.setC k none)
  | _ => .fail
noncomputable def eLc (it : Env → Rs Itr) (g : Tg) (t : Env → Rs Bool) (f : Ev) (k : Nat) (keep : Bool) (vs : List Nat) : Ev := fun e => (it e).bind fun a e1 =>
  if e1.open k = true then (lcD g a.chk t f k vs a.items (e1.setC k (some (.lst [])))).bind fun _ e2 => endL keep k e2 else .fail
theorem Md.drop {K : PySem.W.Frag} {b : Bs} {R : Hp} {ρ : Nat → Addr} {e : Env} {σ : St} {H : Hp} {k : Nat} {xs : List D} (m : Md K b R ρ e σ H) (hk : e.cell k = some (.lst xs)) (hnp : e.np ≤ k) : ∃ R', Same R R' ∧ Md K b R' ρ (e.setC k none) σ H ∧ Rep K R' (.lst xs) (.ref (ρ k)) := by
  obtain ⟨vs, h1, l1⟩ := m.cell k _ hk
  have hR := (m.own k _ hk).1
  have sR : Same R (upd R (ρ k) (.lst vs)) := same_upd hR
  have old : ∀ {n c}, (e.setC k none).cell n = some c → n ≠ k ∧ e.cell n = some c := fun {n c} h => by
    rw [Env.cell_setC] at h
    by_cases q : k = n
    · subst q; rw [if_pos rfl] at h; split at h <;> cases h
    · rw [if_neg q] at h; exact ⟨Ne.symm q, h⟩
  refine ⟨_, sR, ⟨fun i w h => ?_, fun n c h => ?_, fun n n' c1 c2 h1 h2 q => ?_, fun n c h => ?_, m.par, m.npl, fun a u h => ?_, m.ext.trans sR, fun a u h => ?_, m.frame, m.there, m.len⟩, .lst upd_same (RepL.mono sR l1)⟩
  · obtain ⟨v, q1, q2⟩ := m.slot i w h
    exact ⟨v, q1, q2.mono sR⟩
  · exact (m.cell n c (old h).2).mono sR rfl fun _ _ => rfl
  · exact m.inj n n' c1 c2 (old h1).2 (old h2).2 q
  · obtain ⟨hn, hc⟩ := old h
    exact ⟨by rw [upd_ne fun z => hn (m.inj n k c _ hc hk z)]; exact (m.own n c hc).1, (m.own n c hc).2⟩
  · by_cases q : a = ρ k
    · subst q; rw [upd_same] at h; cases h; exact h1
    · rw [upd_ne q] at h; exact m.sub a u h
  · by_cases q : a = ρ k
    · subst q
      rcases (m.own k _ hk).2 with z | z
      · omega
      · exact .inr z
    · rw [upd_ne q] at h; exact m.new a u h
theorem wipe_get (σ : St) (j : Nat) : ∀ vs : List Nat, (wipe σ vs)[j]? = if j ∈ vs then (if j < σ.length then some none else none) else σ[j]?
  | [] => by simp [wipe]
  | v :: vs => by
    unfold wipe
    rw [List.getElem?_set, wipe_length, wipe_get σ j vs]
    by_cases h : v = j
    · subst h
      simp
    · have h' : j ≠ v := Ne.symm h
      simp [h, h']
theorem wipe_eq {σ σ2 : St} {vs : List Nat} (hl : σ2.length = σ.length) (h : ∀ j, j ∉ vs → σ2[j]? = σ[j]?) : wipe σ2 vs = wipe σ vs := by
  apply List.ext_getElem?
  intro j
  rw [wipe_get, wipe_get, hl]
  split
  · rfl
  · rename_i hj; exact h j hj
/-- the block's slots are the frame's, the block's own names apart -/
theorem Md.into {K : PySem.W.Frag} {b : Bs} {R : Hp} {ρ : Nat → Addr} {e : Env} {σ : St} {H : Hp} (m : Md K b R ρ e σ H) (vs : List Nat) : Md K b R ρ (e.clr vs) (wipe σ vs) H where
  slot := fun i w h => by
    obtain ⟨h1, h2⟩ := clr_slot h
    obtain ⟨v, h3, h4⟩ := m.slot i w h1
    exact ⟨v, by rw [wipe_get, if_neg h2]; exact h3, h4⟩
  cell := m.cell
  inj := m.inj
  own := m.own
  par := m.par
  npl := m.npl
  sub := m.sub
  ext := m.ext
  new := m.new
  frame := m.frame
  there := m.there
  len := by rw [wipe_length]; exact m.len.trans (clrL_length _ _).symm
theorem Md.outof {K : PySem.W.Frag} {b : Bs} {R : Hp} {ρ : Nat → Addr} {e : Env} {σ σ2 : St} {H : Hp} {vs : List Nat} (m : Md K b R ρ e σ2 H) (hs : ∀ j, j ∉ vs → σ2[j]? = σ[j]?) (hl : σ2.length = σ.length) : Md K b R ρ (e.clr vs) σ H where
  slot := fun i w h => by
    obtain ⟨h1, h2⟩ := clr_slot h
    obtain ⟨v, h3, h4⟩ := m.slot i w h1
    exact ⟨v, by rw [← hs i h2]; exact h3, h4⟩
  cell := m.cell
  inj := m.inj
  own := m.own
  par := m.par
  npl := m.npl
  sub := m.sub
  ext := m.ext
  new := m.new
  frame := m.frame
  there := m.there
  len := by rw [← hl]; exact m.len.trans (clrL_length _ _).symm
theorem OkR.bindF {K : PySem.W.Frag} {b : Bs} {R : Hp} {ρ : Nat → Addr} {e : Env} {σ : St} {α β γ : Type} {L : Rl α β} {r : Rs α} {k : α → Env → Rs γ} {Z : Rs γ → Prop} (hf : ¬ Z .fail) (h : Z (r.bindF k)) :
    OkR K (fun _ _ _ _ => False) L b R ρ e σ (fun v H1 => ∃ R1 ρ1 e1 a, Same R R1 ∧ Live e e1 ρ ρ1 ∧ Md K b R1 ρ1 e1 σ H1 ∧ L R1 ρ1 a v ∧ Z (k a e1)) r := by
  cases r with
  | ok a e' => exact fun R' ρ' v H' s l m rp => ⟨R', ρ', e', a, s, l, m, rp, h⟩
  | exn x e' => exact absurd h hf
  | fail => exact absurd h hf
abbrev W0 : WX := fun _ _ _ _ => False
theorem lc_read {K : PySem.W.Frag} {it : Env → Rs Itr} {g : Tg} {t : Env → Rs Bool} {f : Ev} {k : Nat} {keep : Bool} {vs vs' : List Nat} {tG0 : TG} {σ : St} {H : Hp} {Q : VK} (hd : TgD K g vs' tG0) (hv : ∀ i ∈ vs', i ∈ vs) (h : tD K Wx (eLc it g t f k keep vs) σ H Q) :
    tLc (tDI K Wx it) tG0 (tDT K W0 t) (tD K W0 f) vs σ H Q := by
  refine tG_one h fun b R1 ρ1 e1 H1 a J m1 it1 q1 => ?_
  intro D hD
  split at q1
  case isFalse => exact q1.elim
  case isTrue ho =>
  obtain ⟨o1, o2, o3, o4⟩ := Env.open_of ho
  have mk := m1.freshC (o := .lst []) hD o2 o1 o4 (c := .lst []) ⟨[], upd_same, .nil⟩
  have lk : Live e1 (e1.setC k (some (.lst []))) ρ1 (setR ρ1 k D) := fun n c hc => by
    have hn : n ≠ k := fun z => by subst z; rw [o2] at hc; cases hc
    exact ⟨setR_ne hn, c, by rw [Env.cell_setC, if_neg (Ne.symm hn)]; exact hc⟩
  have ck : (e1.setC k (some (.lst []))).cell k = some (.lst []) := by rw [Env.cell_setC, if_pos rfl, if_pos o3]
  refine ⟨fun i m H => m = a.items.length - i ∧ i ≤ a.items.length ∧ ∃ R' ρ' e', Same R1 R' ∧ Live e1 e' ρ1 ρ' ∧ ρ' k = D ∧ (∃ c, e'.cell k = some c) ∧ Md K b R' ρ' e' σ H ∧ OkR K Wx (lW K) b R1 ρ1 e1 σ Q ((lcD g a.chk t f k vs (a.items.drop i) e').bind fun _ e2 => endL keep k e2),
    ⟨a.items.length, rfl, Nat.zero_le _, R1, _, _, Same.refl _, lk, setR_same _ _ _, ⟨_, ck⟩, mk, q1⟩, ?_⟩
  rintro i m H2 ⟨rfl, hi, R', ρ', e', s', l', hk, ⟨ck0, hck0⟩, m', q'⟩
  have hnp : ∀ n, n < e'.np → ρ' n = ρ1 n := fun n h2 => by
    have h3 := m'.par n h2
    have h4 := m1.par n (by rw [← m1.npl, m'.npl]; exact h2)
    rw [h4] at h3
    exact (Option.some.inj h3).symm
  by_cases hlt : i < a.items.length
  · have hdrop : a.items.drop i = a.items[i] :: a.items.drop (i + 1) := List.drop_eq_getElem_cons hlt
    rw [hdrop] at q'
    unfold lcD at q'
    by_cases hchk : a.chk e'
    · rw [if_pos hchk] at q'
      have io := it1 b R' ρ' e' σ H2 s' hnp m' hchk
      obtain ⟨go, yl⟩ := io.1 i hlt
      refine .inr ⟨go, fun H3 => ∃ R3 ρ3 e3, Same R1 R3 ∧ Live e1 e3 ρ1 ρ3 ∧ ρ3 k = D ∧ (∃ c, e3.cell k = some c) ∧ Md K b R3 ρ3 e3 σ H3 ∧ OkR K Wx (lW K) b R1 ρ1 e1 σ Q ((lcD g a.chk t f k vs (a.items.drop (i + 1)) e3).bind fun _ e2 => endL keep k e2),
        fun H3 n3 => ⟨_, by omega, rfl, by omega, n3⟩, fun x H3 y => ?_⟩
      obtain ⟨R'', d, hd1, s2, m2, r2⟩ := yl x H3 y
      have ed : a.items[i] = d := by
        rw [List.getElem?_eq_getElem hlt] at hd1
        exact Option.some.inj hd1
      rw [ed] at q'
      cases hge : g d (e'.clr vs) with
      | none => simp only [hge] at q'; exact q'.elim
      | some e2 =>
        simp only [hge] at q'
        have hM : e2.M = (e'.clr vs).M := hd.1 d _ _ hge
        have hM : e2.M = e'.M := hM
        have hcell : ∀ n, e2.cell n = e'.cell n := fun n => by unfold Env.cell; rw [hM]
        refine hd.2 b R'' ρ' (e'.clr vs) e2 d x (wipe σ vs) H3 _ (m2.into vs) r2 hge fun σ3 m3 k3 l3 => ?_
        have hσ : ∀ j, j ∉ vs → σ3[j]? = σ[j]? := fun j hj => by
          rw [k3 j fun z => hj (hv j z), wipe_get, if_neg hj]
        have hσl : σ3.length = σ.length := by rw [l3, wipe_length]
        refine ⟨wipe_eq hσl hσ, b, R'', ρ', e2, m3, ?_⟩
        have q2 := q'
        refine (OkR.bindF (L := lB) (Z := fun r => OkR K Wx (lW K) b R1 ρ1 e1 σ Q (r.bind fun _ e2 => endL keep k e2)) (fun z => z) q2).imp fun kb H4 h4 => ?_
        obtain ⟨R4, ρ4, e4, kb', s4, l4, m4, r4, q4⟩ := h4
        have e0 : kb' = kb := r4
        subst e0
        have lv4 : Live e' e4 ρ' ρ4 := fun n c hc => l4 n c (by rw [hcell]; exact hc)
        obtain ⟨hk4, c4, hc4⟩ := lv4 k ck0 hck0
        cases kb' with
        | false =>
          rw [if_neg Bool.false_ne_true]
          rw [if_neg Bool.false_ne_true] at q4
          exact ⟨R4, ρ4, e4.clr vs, s'.trans (s2.trans s4), l'.trans lv4, hk4.trans hk, ⟨c4, hc4⟩, m4.outof hσ hσl, q4⟩
        | true =>
          rw [if_pos rfl]
          rw [if_pos rfl] at q4
          refine ⟨b, R4, ρ4, e4, m4, ?_⟩
          refine (OkR.bindF (L := lW K) (Z := fun r => OkR K Wx (lW K) b R1 ρ1 e1 σ Q (r.bind fun _ e2 => endL keep k e2)) (fun z => z) q4).imp fun v5 H5 h5 => ?_
          obtain ⟨R5, ρ5, e5, w5, s5, l5, m5, r5, q5⟩ := h5
          obtain ⟨hk5, c5, hc5⟩ := l5 k c4 hc4
          cases hpk : pushK k w5 e5 with
          | none => simp only [hpk] at q5; exact q5.elim
          | some e6 =>
            simp only [hpk] at q5
            unfold pushK at hpk
            split at hpk
            · rename_i acc y hca
              split at hpk
              · rename_i hlen
                have hpk := Option.some.inj hpk
                subst hpk
                obtain ⟨us, g1, g2⟩ := m5.cell k _ hca
                have hρ5 : ρ5 k = D := hk5.trans (hk4.trans hk)
                rw [hρ5] at g1
                refine ⟨us, g1, by rw [← g2.length]; exact hlen, R5, ρ5, _, s'.trans (s2.trans (s4.trans s5)), (l'.trans (lv4.trans l5)).trans (fun n c hc => ⟨rfl, ?_⟩), hρ5, ⟨.lst (acc ++ [y]), ?_⟩, (?_ : Md K b R5 ρ5 ((e5.setC k (some (.lst (acc ++ [y])))).clr vs) σ _), q5⟩
                · show ∃ c', (e5.setC k (some (.lst (acc ++ [y])))).cell n = some c'
                  rw [Env.cell_setC]
                  by_cases z : k = n
                  · subst z; rw [if_pos rfl, if_pos (Env.cell_lt hca)]; exact ⟨_, rfl⟩
                  · rw [if_neg z]; exact ⟨_, hc⟩
                · show (e5.setC k (some (.lst (acc ++ [y])))).cell k = _
                  rw [Env.cell_setC, if_pos rfl, if_pos (Env.cell_lt hca)]
                · have mw := m5.write (o := .lst (us ++ [v5])) (c' := .lst (acc ++ [y])) hca ⟨_, upd_same, g2.append (.cons r5 .nil)⟩
                  rw [hρ5] at mw
                  exact mw.outof hσ hσl
              · cases hpk
            · cases hpk
    · rw [if_neg hchk] at q'; exact q'.elim
  · have e0 : i = a.items.length := by omega
    subst e0
    rw [List.drop_length] at q'
    unfold lcD at q'
    by_cases hchk : a.chk e'
    · rw [if_pos hchk] at q'
      have io := it1 b R' ρ' e' σ H2 s' hnp m' hchk
      refine .inl ⟨io.2, ?_⟩
      have q' : OkR K Wx (lW K) b R1 ρ1 e1 σ Q (endL keep k e') := q'
      unfold endL at q'
      split at q'
      · rename_i xs hc
        split at q'
        · rw [← hk]
          exact q' R' ρ' _ H2 s' l' m' rfl
        · have hknp : e'.np ≤ k := by rw [← m'.npl, m1.npl]; exact o1
          obtain ⟨R7, s7, m7, r7⟩ := m'.drop hc hknp
          rw [hk] at r7
          refine q' R7 ρ' (.ref D) H2 (s'.trans s7) (fun n c hcn => ?_) m7 r7
          obtain ⟨h8, c8, h9⟩ := l' n c hcn
          have hn : n ≠ k := fun z => by subst z; rw [o2] at hcn; cases hcn
          exact ⟨h8, c8, by rw [Env.cell_setC, if_neg (Ne.symm hn)]; exact h9⟩
      · exact q'.elim
    · rw [if_neg hchk] at q'; exact q'.elim
end
end Dl
end
section
set_option Elab.async false
set_option linter.all false
set_option maxRecDepth 100000
set_option maxHeartbeats 4000000
namespace Dl
open PySem L2
section
variable {X : Cx} {Wx : WX} {elt tg iter c : Expr} {ifs : List Expr} {scope : Scope} {own : List (Str × Nat)} {pos : Pos}
theorem ts_nil : PTs X [] (tDT X.K Wx fun e => .ok true e) := ⟨fun pins s σ H Q I h => pts_nil.run pins s σ H Q I (by
  obtain ⟨b, R, ρ, e, m, q⟩ := h
  exact q.fin m rfl)⟩
theorem ts_one {t : Env → Rs Bool} (h : PT X c (tDT X.K Wx t)) : PTs X [c] (tDT X.K Wx t) := pts_one h
theorem d_lc {it : Env → Rs Itr} {g : Tg} {t : Env → Rs Bool} {f : Ev} {k : Nat} {keep : Bool} {vs' : List Nat} {tG0 : TG} (hc : X.calm = true) (hN : X.N.Nodup) (hi : PI X tg iter (tDI X.K Wx it)) (ok : BlkOk X.N X.env.scope scope own)
    (hg : ∀ (s : Shared) (H : Hp) (C : Addr) (cl : List (Str × Addr)) (fp : List Addr), PG (X.blk s H scope (compEnvC scope cl C X.env) fp) tg tG0) (hd : TgD X.K g vs' tG0) (hv : ∀ i ∈ vs', i ∈ own.map (·.2))
    (ht : ∀ (s : Shared) (H : Hp) (C : Addr) (cl : List (Str × Addr)) (fp : List Addr), PTs (X.blk s H scope (compEnvC scope cl C X.env) fp) ifs (tDT X.K W0 t))
    (he : ∀ (s : Shared) (H : Hp) (C : Addr) (cl : List (Str × Addr)) (fp : List Addr), PE (X.blk s H scope (compEnvC scope cl C X.env) fp) elt (tD X.K W0 f)) (hs : ∀ x, foldedSetIterable iter X.env x = pure x := by intro _; rfl) :
    PE X (.ListComp elt [⟨tg, iter, ifs, 0⟩] scope pos) (tD X.K Wx (eLc it g t f k keep (own.map (·.2)))) := (pe_lc hc hN hi ok hg ht he hs).imp fun σ H Q h => lc_read hd hv h
theorem s_setLc {it : Env → Rs Itr} {g : Tg} {t : Env → Rs Bool} {f : Ev} {k : Nat} {keep : Bool} {vs' : List Nat} {tG0 : TG} {i : Nat} {y : Str} {py spos : Pos} (hc : X.calm = true) (hN : X.N.Nodup) (hy : X.N[i]? = some y) (hyl : X.env.scope.names.lookup y = some .local)
    (hsw : swapsWith (.ListComp elt [⟨tg, iter, ifs, 0⟩] scope pos) (some (.Name y py)) spos.line X.env = pure true) (hi : PI X tg iter (tDI X.K Wx it)) (ok : BlkOk X.N X.env.scope scope own)
    (hg : ∀ (s : Shared) (H : Hp) (C : Addr) (cl : List (Str × Addr)) (fp : List Addr), PG (X.blk s H scope (compEnvC scope cl C X.env) fp) tg tG0) (hd : TgD X.K g vs' tG0) (hv : ∀ i ∈ vs', i ∈ own.map (·.2))
    (ht : ∀ (s : Shared) (H : Hp) (C : Addr) (cl : List (Str × Addr)) (fp : List Addr), PTs (X.blk s H scope (compEnvC scope cl C X.env) fp) ifs (tDT X.K W0 t))
    (he : ∀ (s : Shared) (H : Hp) (C : Addr) (cl : List (Str × Addr)) (fp : List Addr), PE (X.blk s H scope (compEnvC scope cl C X.env) fp) elt (tD X.K W0 f)) (hs : ∀ x, foldedSetIterable iter X.env x = pure x := by intro _; rfl) :
    PS X (.Assign [.Name y py] (.ListComp elt [⟨tg, iter, ifs, 0⟩] scope pos) spos) (tS X.K Wx (sSet i (eLc it g t f k keep (own.map (·.2))))) := (ps_setLc hc hN hy hyl hsw hi ok hg ht he hs).imp fun D σ H h =>
  lc_read (Q := fun x H1 => gName i x σ H1 D.nx) hd hv (by
    obtain ⟨b, R, ρ, e, m, h⟩ := h
    refine ⟨b, R, ρ, e, m, (OkS.to (L := lW X.K) h).imp fun v H1 h1 => ?_⟩
    obtain ⟨R1, ρ1, e1, w, s1, l1, m1, r1, q⟩ := h1
    exact q R1 ρ1 _ H1 (Same.refl _) (m1.setS r1))
end
end Dl
end
section
set_option Elab.async false
set_option linter.all false
set_option maxRecDepth 100000
set_option maxHeartbeats 4000000
namespace Dl
open PySem L2
inductive CR where
  | ok (w : W) (cs : List Cell)
  | exn (x : Xn) (cs : List Cell)
  | fail
abbrev Fd := List W → List Cell → CR
structure Back (K : PySem.W.Frag) (R : Hp) (ρ : Nat → Addr) (n : Nat) (H : Hp) (cs : List Cell) (R' : Hp) (ρ' : Nat → Addr) (H' : Hp) : Prop where
  sR : Same R R'
  sub : Same R' H'
  kp : ∀ i, i < n → ρ' i = ρ i
  ln : n ≤ cs.length
  cell : ∀ i c, cs[i]? = some c → CellAt K R' ρ' H' (ρ' i) c
  own : ∀ i, i < cs.length → R' (ρ' i) = none ∧ (i < n ∨ H (ρ' i) = none)
  inj : ∀ i j, i < cs.length → j < cs.length → ρ' i = ρ' j → i = j
  new : ∀ a o, R' a = some o → R a = some o ∨ H a = none
  frame : ∀ a o, H a = some o → (∀ i, i < n → ρ i ≠ a) → H' a = some o
  there : ∀ a o, H a = some o → ∃ o', H' a = some o'
def spD (K : PySem.W.Frag) (P : Nat) (F : Fd) : Sp := fun vs H Q E => vs.length = P ∧ ∃ R ρ ws cs, Same R H ∧ Paired (RepW K R ρ) ws vs ∧ (∀ i c, cs[i]? = some c → CellAt K R ρ H (ρ i) c) ∧ (∀ i, i < cs.length → R (ρ i) = none) ∧
  (∀ i j, i < cs.length → j < cs.length → ρ i = ρ j → i = j) ∧
  match F ws cs with
  | .ok w cs' => ∀ R' ρ' v H', Back K R ρ cs.length H cs' R' ρ' H' → RepW K R' ρ' w v → Q v H'
  | .exn x cs' => ∀ R' ρ' H' cls d, Back K R ρ cs.length H cs' R' ρ' H' → ExR K R' x cls d → E cls d H'
  | .fail => False
def takeC : Nat → List (Option Cell) → Option (List Cell)
  | 0, _ => some []
  | n + 1, some c :: M => match takeC n M with | some cs => some (c :: cs) | none => none
  | _ + 1, _ => none
theorem takeC_get : ∀ {n : Nat} {M : List (Option Cell)} {cs : List Cell}, takeC n M = some cs → cs.length = n ∧ ∀ (i : Nat) (c : Cell), cs[i]? = some c → (M[i]?).join = some c
  | 0, _, _, h => by cases h; exact ⟨rfl, fun i c h => by simp at h⟩
  | n + 1, [], _, h => by cases h
  | n + 1, none :: M, _, h => by cases h
  | n + 1, some c :: M, cs, h => by
    unfold takeC at h
    cases q : takeC n M with
    | none => rw [q] at h; cases h
    | some ds =>
      rw [q] at h; cases h
      obtain ⟨h1, h2⟩ := takeC_get q
      refine ⟨by rw [List.length_cons, h1], fun i c' hi => ?_⟩
      cases i with
      | zero => simpa using hi
      | succ i => simpa using h2 i c' (by simpa using hi)
def env0 (N m : Nat) (ws : List W) (cs : List Cell) : Env := ⟨ws.map some ++ List.replicate (N - ws.length) none, cs.map some ++ List.replicate (m - cs.length) none, cs.length⟩
/-- N: the slots; m: the registers; r: how many cells are handed back -/
def mkF (N m r : Nat) (f : Sv) : Fd := fun ws cs => match f (env0 N m ws cs) with
  | .rt w e => match takeC (max cs.length r) e.M with | some cs' => .ok w cs' | none => .fail
  | .nx e => match takeC (max cs.length r) e.M with | some cs' => .ok (.d .non) cs' | none => .fail
  | .exn x e => match takeC cs.length e.M with | some cs' => .exn x cs' | none => .fail
  | _ => .fail
theorem join_app {α : Type} {l : List α} {n i : Nat} {a : α} (h : ((l.map some ++ List.replicate n none)[i]?).join = some a) : l[i]? = some a := by
  by_cases hi : i < l.length
  · rw [List.getElem?_append_left (by rw [List.length_map]; exact hi), List.getElem?_map] at h
    cases q : l[i]? with
    | none => rw [q] at h; cases h
    | some x => rw [q] at h; exact h
  · rw [List.getElem?_append_right (by rw [List.length_map]; omega), List.getElem?_replicate] at h
    split at h <;> cases h
section
variable {K : PySem.W.Frag}
theorem Md.start {R : Hp} {ρ : Nat → Addr} {H : Hp} {ws : List W} {vs : List V} {cs : List Cell} {N : List Str} {m : Nat} (sR : Same R H) (rs : Paired (RepW K R ρ) ws vs) (hc : ∀ i c, cs[i]? = some c → CellAt K R ρ H (ρ i) c) (hn : ∀ i, i < cs.length → R (ρ i) = none)
    (hi : ∀ i j, i < cs.length → j < cs.length → ρ i = ρ j → i = j) : Md K ⟨R, H, (List.range cs.length).map ρ⟩ R ρ (env0 N.length m ws cs) (L2.start N vs) H where
  slot := fun i w h => by
    obtain ⟨v, h1, h2⟩ := Paired.get2 rs (join_app h)
    refine ⟨v, ?_, h2⟩
    unfold L2.start
    have hlt : i < vs.length := (List.getElem?_eq_some_iff.mp h1).1
    rw [List.getElem?_append_left (by rw [List.length_map]; exact hlt), List.getElem?_map, h1]
    rfl
  cell := fun n c h => hc n c (join_app h)
  inj := fun n k c c' h h' q => hi n k (List.getElem?_eq_some_iff.mp (join_app h)).1 (List.getElem?_eq_some_iff.mp (join_app h')).1 q
  own := fun n c h => by
    have q := (List.getElem?_eq_some_iff.mp (join_app h)).1
    exact ⟨hn n q, .inl q⟩
  par := fun n h => by
    show ((List.range cs.length).map ρ)[n]? = some (ρ n)
    have h : n < cs.length := h
    rw [List.getElem?_map, List.getElem?_range h]
    rfl
  npl := by
    show ((List.range cs.length).map ρ).length = cs.length
    rw [List.length_map, List.length_range]
  sub := sR
  ext := Same.refl R
  new := fun a o h => .inl h
  frame := fun a o h _ => h
  there := fun a o h => ⟨o, h⟩
  len := by
    unfold L2.start
    show (vs.map some ++ List.replicate (N.length - vs.length) none).length = (ws.map some ++ List.replicate (N.length - ws.length) none).length
    have e := Paired.lengthEq rs
    simp only [List.length_append, List.length_map, List.length_replicate]
    omega
theorem Md.back {R R' : Hp} {ρ ρ' : Nat → Addr} {H H' : Hp} {n : Nat} {e' : Env} {σ' : St} {r : Nat} {cs' : List Cell} (m : Md K ⟨R, H, (List.range n).map ρ⟩ R' ρ' e' σ' H') (ht : takeC r e'.M = some cs') (hr : n ≤ r) : Back K R ρ n H cs' R' ρ' H' := by
  obtain ⟨h1, h2⟩ := takeC_get ht
  have hnp : e'.np = n := by
    have := m.npl
    rw [List.length_map, List.length_range] at this
    exact this.symm
  have live : ∀ i, i < cs'.length → ∃ c, e'.cell i = some c := fun i hi => ⟨_, h2 i _ (List.getElem?_eq_getElem hi)⟩
  have hk : ∀ i, i < n → ρ' i = ρ i := fun i hi => by
    have q := m.par i (by rw [hnp]; exact hi)
    have q2 : ((List.range n).map ρ)[i]? = some (ρ' i) := q
    rw [List.getElem?_map, List.getElem?_range hi] at q2
    exact (Option.some.inj q2).symm
  refine ⟨m.ext, m.sub, hk, by omega, fun i c hc => m.cell i c (h2 i c hc), fun i hi => ?_, fun i j hi hj q => ?_, m.new, fun a o h q => m.frame a o h fun z => ?_, m.there⟩
  · obtain ⟨c, hc⟩ := live i hi
    have q := m.own i c hc
    rw [hnp] at q
    exact q
  · obtain ⟨c, hc⟩ := live i hi
    obtain ⟨c', hc'⟩ := live j hj
    exact m.inj i j c c' hc hc' q
  · obtain ⟨i, hi, e⟩ := List.mem_map.mp z
    exact q i (List.mem_range.mp hi) e
end
section
variable {P : Program} {w : World} {K : PySem.W.Frag} {mg : Str → Option Value} {base : Heap} {x qual : Str} {params : Arguments} {body : List Stmt} {scope : Scope} {dvs : List V} {kws : List (Str × V)} {f : Addr} {fd : FuncData}
abbrev WofE (E : XK) : WX := fun cls d _ H => E cls d H
theorem fnD_ok {N ps : List Str} {k m r : Nat} {fb : Sv} (F : FunD K x qual params body scope dvs kws f fd) (S : FnScope N ps scope)
    (hb : ∀ (cdv : Value) (A : Around) (outer : List PySem.Env) (s : Shared) (H : Hp) (E : XK), Room k (A.deeper (PyProof.Rows.envOfC qual scope s.heap.objs.size f cdv)) →
      PSs (cxOf (L2.CX P w) P w K mg base N qual scope f cdv A outer s H E) body (tS K (WofE E) fb)) : FnOk P w K mg base (L2.CX P w) (k + 1) f fd ps (spD K ps.length (mkF N.length m r fb)) := by
  refine F.ok (CX := L2.CX P w) S (fun vs H Q E h => h.1) (fun cdv A outer s H vs Q E hr h => ⟨_, hb cdv A outer s H E hr, ?_⟩)
  obtain ⟨hl, R, ρ, ws, cs, sR, rs, hc, hn, hi, q⟩ := h
  refine ⟨_, R, ρ, env0 N.length m ws cs, Md.start sR rs hc hn hi, ?_⟩
  unfold mkF at q
  cases hf : fb (env0 N.length m ws cs) with
  | nx e =>
    simp only [hf] at q
    cases ht : takeC (max cs.length r) e.M with
    | none => simp only [ht] at q
    | some cs' =>
      simp only [ht] at q
      exact fun R' ρ' σ' H' s' m' => q R' ρ' .non H' (m'.back ht (Nat.le_max_left _ _)) .non
  | rt w e =>
    simp only [hf] at q
    cases ht : takeC (max cs.length r) e.M with
    | none => simp only [ht] at q
    | some cs' =>
      simp only [ht] at q
      exact fun R' ρ' σ' H' v s' m' rv => q R' ρ' v H' (m'.back ht (Nat.le_max_left _ _)) rv
  | exn x e =>
    simp only [hf] at q
    cases ht : takeC cs.length e.M with
    | none => simp only [ht] at q
    | some cs' =>
      simp only [ht] at q
      exact fun R' ρ' σ' H' cls d s' m' rx => q R' ρ' H' cls d (m'.back ht (Nat.le_refl _)) rx
  | bk e => simp only [hf] at q
  | ct e => simp only [hf] at q
  | fail => simp only [hf] at q
/-- the promise told by another function that is the same where it matters -/
theorem FnOk.as {k n : Nat} {ps : List Str} {F G : Fd} (h : FnOk P w K mg base (L2.CX P w) k f fd ps (spD K n F)) (e : ∀ ws cs, G ws cs ≠ .fail → F ws cs = G ws cs) : FnOk P w K mg base (L2.CX P w) k f fd ps (spD K n G) :=
  h.imp fun vs H Q E ⟨hl, R, ρ, ws, cs, sR, rs, hc, hn, hi, q⟩ => ⟨hl, R, ρ, ws, cs, sR, rs, hc, hn, hi, by
    have hg : G ws cs ≠ .fail := fun z => by rw [z] at q; exact q
    rw [e ws cs hg]
    exact q⟩
end
def renW (L : List Nat) : W → Option W
  | .d x => some (.d x)
  | .loc n => if n ∈ L then some (.loc (L.idxOf n)) else none
def backW (L : List Nat) : W → Option W
  | .d x => some (.d x)
  | .loc i => match L[i]? with | some n => some (.loc n) | none => none
def mapW (g : W → Option W) : List W → Option (List W)
  | [] => some []
  | w :: ws => match g w, mapW g ws with | some w', some ws' => some (w' :: ws') | _, _ => none
def mapF (g : W → Option W) : List (Str × W) → Option (List (Str × W))
  | [] => some []
  | (n, w) :: ws => match g w, mapF g ws with | some w', some ws' => some ((n, w') :: ws') | _, _ => none
def mapCell (g : W → Option W) : Cell → Option Cell
  | .lst xs => some (.lst xs)
  | .dic kvs => some (.dic kvs)
  | .dct kvs => some (.dct kvs)
  | .tbl P q => some (.tbl P q)
  | .obj C fs => match mapF g fs with | some fs' => some (.obj C fs') | none => none
  | .lw us => match mapW g us with | some us' => some (.lw us') | none => none
  | .tw us => match mapW g us with | some us' => some (.tw us') | none => none
def mapCs (g : W → Option W) : List Cell → Option (List Cell)
  | [] => some []
  | c :: cs => match mapCell g c, mapCs g cs with | some c', some cs' => some (c' :: cs') | _, _ => none
def cellsOf (e : Env) : List Nat → Option (List Cell)
  | [] => some []
  | n :: ns => match e.cell n, cellsOf e ns with | some c, some cs => some (c :: cs) | _, _ => none
def upds (M : List (Option Cell)) : List Nat → List Cell → List (Option Cell)
  | n :: ns, c :: cs => (upds M ns cs).set n (some c)
  | _, _ => M
def nodup : List Nat → Bool
  | [] => true
  | n :: ns => !ns.contains n && nodup ns
theorem nodup_iff : ∀ {l : List Nat}, nodup l = true → l.Nodup
  | [], _ => List.nodup_nil
  | n :: ns, h => by
    unfold nodup at h
    rw [Bool.and_eq_true] at h
    refine List.nodup_cons.mpr ⟨fun z => ?_, nodup_iff h.2⟩
    have q := h.1
    rw [List.contains_iff_mem.mpr z] at q
    cases q
def runF (F : Fd) (L Ln : List Nat) (ws : List W) : Ev := fun e =>
  if (nodup (L ++ Ln) && Ln.all e.open) = true then
    (match mapW (renW L) ws, cellsOf e L with
      | some ws', some cs0 => (match mapCs (renW L) cs0 with
        | some cs => (match F ws' cs with
          | .ok w cs2 => (match mapCs (backW (L ++ Ln)) cs2, backW (L ++ Ln) w with
            | some cs3, some w3 => if cs2.length = (L ++ Ln).length then .ok w3 { e with M := upds e.M (L ++ Ln) cs3 } else .fail
            | _, _ => .fail)
          | .exn x cs2 => (match mapCs (backW L) cs2 with
            | some cs3 => if cs2.length = L.length then .exn x { e with M := upds e.M L cs3 } else .fail
            | none => .fail)
          | .fail => .fail)
        | none => .fail)
      | _, _ => .fail)
  else .fail
section
variable {K : PySem.W.Frag} {R R' : Hp} {ρ ρ' : Nat → Addr}
theorem mapW_rep {g : W → Option W} (h : ∀ w w' v, g w = some w' → RepW K R ρ w v → RepW K R' ρ' w' v) : ∀ {ws ws' : List W} {vs : List V}, mapW g ws = some ws' → Paired (RepW K R ρ) ws vs → Paired (RepW K R' ρ') ws' vs
  | [], _, _, e, .nil => by cases e; exact .nil
  | w :: ws, _, _, e, .cons a t => by
    unfold mapW at e
    cases h1 : g w with
    | none => rw [h1] at e; cases e
    | some w' =>
      cases h2 : mapW g ws with
      | none => rw [h1, h2] at e; cases e
      | some ws' => rw [h1, h2] at e; cases e; exact .cons (h _ _ _ h1 a) (mapW_rep h h2 t)
theorem mapF_rep {g : W → Option W} (h : ∀ w w' v, g w = some w' → RepW K R ρ w v → RepW K R' ρ' w' v) : ∀ {ws ws' : List (Str × W)} {vs : List V}, mapF g ws = some ws' → Paired (RepW K R ρ) (ws.map (·.2)) vs → ws'.map (·.1) = ws.map (·.1) ∧ Paired (RepW K R' ρ') (ws'.map (·.2)) vs
  | [], _, _, e, .nil => by cases e; exact ⟨rfl, .nil⟩
  | (n, w) :: ws, _, _, e, .cons a t => by
    unfold mapF at e
    cases h1 : g w with
    | none => rw [h1] at e; cases e
    | some w' =>
      cases h2 : mapF g ws with
      | none => rw [h1, h2] at e; cases e
      | some ws' =>
        rw [h1, h2] at e; cases e
        obtain ⟨q1, q2⟩ := mapF_rep h h2 t
        exact ⟨by rw [List.map_cons, List.map_cons, q1], .cons (h _ _ _ h1 a) q2⟩
theorem mapCell_at {g : W → Option W} {H : Hp} {a : Addr} {c c' : Cell} (h : ∀ w w' v, g w = some w' → RepW K R ρ w v → RepW K R' ρ' w' v) (s : Same R R') (e : mapCell g c = some c') (ca : CellAt K R ρ H a c) : CellAt K R' ρ' H a c' := by
  cases c with
  | lst xs => cases e; obtain ⟨vs, h1, l⟩ := ca; exact ⟨vs, h1, RepL.mono s l⟩
  | dic xs => cases e; obtain ⟨vs, h1, h2, l⟩ := ca; exact ⟨vs, h1, h2, RepL.mono s l⟩
  | dct xs => cases e; obtain ⟨vs, h1, h2, l⟩ := ca; exact ⟨vs, h1, h2, RepL.mono s l⟩
  | tbl P q => cases e; obtain ⟨e0, ps, h1, h2, h3⟩ := ca; exact ⟨e0, ps, h1, h2, fun pos cv hc => let ⟨c, e1, e2⟩ := h3 pos cv hc; ⟨c, e1, s _ _ e2⟩⟩
  | obj C fs =>
    have e : (match mapF g fs with | some fs' => some (Cell.obj C fs') | none => none) = some c' := e
    cases h2 : mapF g fs with
    | none => rw [h2] at e; cases e
    | some fs' =>
      rw [h2] at e; cases e
      obtain ⟨dx, ws, g1, g2, g3⟩ := ca
      obtain ⟨q1, q2⟩ := mapF_rep h h2 g3
      exact ⟨dx, ws, g1, g2.trans q1.symm, q2⟩
  | lw us =>
    have e : (match mapW g us with | some fs' => some (Cell.lw fs') | none => none) = some c' := e
    cases h2 : mapW g us with
    | none => rw [h2] at e; cases e
    | some fs' =>
      rw [h2] at e; cases e
      obtain ⟨vs, g1, g3⟩ := ca
      exact ⟨vs, g1, mapW_rep h h2 g3⟩
  | tw us =>
    have e : (match mapW g us with | some fs' => some (Cell.tw fs') | none => none) = some c' := e
    cases h2 : mapW g us with
    | none => rw [h2] at e; cases e
    | some fs' =>
      rw [h2] at e; cases e
      obtain ⟨vs, g1, g3⟩ := ca
      exact ⟨vs, g1, mapW_rep h h2 g3⟩
theorem mapCs_get {g : W → Option W} : ∀ {cs cs' : List Cell}, mapCs g cs = some cs' → cs'.length = cs.length ∧ ∀ (i : Nat) (c' : Cell), cs'[i]? = some c' → ∃ c, cs[i]? = some c ∧ mapCell g c = some c'
  | [], _, e => by cases e; exact ⟨rfl, fun i c h => by simp at h⟩
  | c :: cs, _, e => by
    unfold mapCs at e
    cases h1 : mapCell g c with
    | none => rw [h1] at e; cases e
    | some c' =>
      cases h2 : mapCs g cs with
      | none => rw [h1, h2] at e; cases e
      | some cs' =>
        rw [h1, h2] at e; cases e
        obtain ⟨q1, q2⟩ := mapCs_get h2
        refine ⟨by rw [List.length_cons, List.length_cons, q1], fun i d hd => ?_⟩
        cases i with
        | zero => simp at hd; subst hd; exact ⟨c, rfl, h1⟩
        | succ i =>
          obtain ⟨d', h3, h4⟩ := q2 i d (by simpa using hd)
          exact ⟨d', by simpa using h3, h4⟩
theorem cellsOf_get {e : Env} : ∀ {L : List Nat} {cs : List Cell}, cellsOf e L = some cs → cs.length = L.length ∧ ∀ (i : Nat) (c : Cell), cs[i]? = some c → ∃ n, L[i]? = some n ∧ e.cell n = some c
  | [], _, h => by cases h; exact ⟨rfl, fun i c h => by simp at h⟩
  | n :: L, _, h => by
    unfold cellsOf at h
    cases h1 : e.cell n with
    | none => rw [h1] at h; cases h
    | some c =>
      cases h2 : cellsOf e L with
      | none => rw [h1, h2] at h; cases h
      | some cs =>
        rw [h1, h2] at h; cases h
        obtain ⟨q1, q2⟩ := cellsOf_get h2
        refine ⟨by rw [List.length_cons, List.length_cons, q1], fun i d hd => ?_⟩
        cases i with
        | zero => simp at hd; subst hd; exact ⟨n, rfl, h1⟩
        | succ i =>
          obtain ⟨d', h3, h4⟩ := q2 i d (by simpa using hd)
          exact ⟨d', by simpa using h3, h4⟩
theorem upds_len (M : List (Option Cell)) : ∀ (L : List Nat) (cs : List Cell), (upds M L cs).length = M.length
  | [], _ => by unfold upds; rfl
  | n :: ns, [] => by unfold upds; rfl
  | n :: ns, c :: cs => by unfold upds; rw [List.length_set, upds_len M ns cs]
theorem upds_get {M : List (Option Cell)} : ∀ {L : List Nat} {cs : List Cell} {n : Nat} {c : Cell}, ((upds M L cs)[n]?).join = some c → cs.length = L.length → (∃ i : Nat, L[i]? = some n ∧ cs[i]? = some c) ∨ (n ∉ L ∧ (M[n]?).join = some c)
  | [], cs, n, c, h, _ => by unfold upds at h; exact .inr ⟨by simp, h⟩
  | k :: ns, [], n, c, h, hl => by simp at hl
  | k :: ns, d :: cs, n, c, h, hl => by
    unfold upds at h
    rw [List.getElem?_set] at h
    by_cases q : k = n
    · subst q
      rw [if_pos rfl] at h
      split at h
      · cases h; exact .inl ⟨0, rfl, rfl⟩
      · cases h
    · rw [if_neg q] at h
      rcases upds_get h (by simpa using hl) with ⟨i, h1, h2⟩ | ⟨h1, h2⟩
      · exact .inl ⟨i + 1, by simpa using h1, by simpa using h2⟩
      · exact .inr ⟨by simp only [List.mem_cons, not_or]; exact ⟨Ne.symm q, h1⟩, h2⟩
theorem upds_live {M : List (Option Cell)} : ∀ {L : List Nat} {cs : List Cell} {n : Nat} {c : Cell}, (M[n]?).join = some c → ∃ c', ((upds M L cs)[n]?).join = some c'
  | [], cs, n, c, h => by unfold upds; exact ⟨c, h⟩
  | k :: ns, [], n, c, h => by unfold upds; exact ⟨c, h⟩
  | k :: ns, d :: cs, n, c, h => by
    unfold upds
    rw [List.getElem?_set]
    by_cases q : k = n
    · subst q
      have hlt : k < (upds M ns cs).length := by
        rw [upds_len]
        by_cases z : k < M.length
        · exact z
        · rw [List.getElem?_eq_none (by omega)] at h; cases h
      rw [if_pos rfl, if_pos hlt]
      exact ⟨d, rfl⟩
    · rw [if_neg q]; exact upds_live h
theorem idx_get {L : List Nat} {n : Nat} (h : n ∈ L) : L[L.idxOf n]? = some n := by
  have := List.idxOf_lt_length_of_mem h
  rw [List.getElem?_eq_getElem this, List.getElem_idxOf]
theorem idx_of {L : List Nat} (hn : L.Nodup) {i n : Nat} (h : L[i]? = some n) : L.idxOf n = i := by
  obtain ⟨hi, e⟩ := List.getElem?_eq_some_iff.mp h
  subst e
  exact hn.idxOf_getElem i hi
end
end Dl
end
section
set_option Elab.async false
set_option linter.all false
set_option maxRecDepth 100000
set_option maxHeartbeats 4000000
namespace Dl
open PySem L2
section
variable {K : PySem.W.Frag} {Wx : WX} {b : Bs} {R R' : Hp} {ρ ρ' : Nat → Addr} {e : Env} {σ : St} {H H' : Hp}
def rhoC (ρ : Nat → Addr) (L : List Nat) : Nat → Addr := fun i => ρ (L.getD i 0)
def rhoN (ρ ρ' : Nat → Addr) (L : List Nat) : Nat → Addr := fun n => if n ∈ L then ρ' (L.idxOf n) else ρ n
theorem rhoC_at {L : List Nat} {i n : Nat} (h : L[i]? = some n) : rhoC ρ L i = ρ n := by
  unfold rhoC
  rw [List.getD_eq_getElem?_getD, h]
  rfl
theorem ren_rep {L : List Nat} (w w' : W) (v : V) (h : renW L w = some w') (r : RepW K R ρ w v) : RepW K R (rhoC ρ L) w' v := by
  cases w with
  | d x => cases h; exact r
  | loc n =>
    have h : (if n ∈ L then some (W.loc (L.idxOf n)) else none) = some w' := h
    by_cases hn : n ∈ L
    · rw [if_pos hn] at h
      cases h
      show v = .ref (rhoC ρ L (L.idxOf n))
      rw [rhoC_at (idx_get hn)]
      exact r
    · rw [if_neg hn] at h; cases h
theorem back_rep {L : List Nat} (hnd : L.Nodup) (w w' : W) (v : V) (h : backW L w = some w') (r : RepW K R ρ' w v) : RepW K R (rhoN ρ ρ' L) w' v := by
  cases w with
  | d x => cases h; exact r
  | loc i =>
    unfold backW at h
    cases q : L[i]? with
    | none => simp only [q] at h; cases h
    | some n =>
      simp only [q] at h
      cases h
      show v = .ref (rhoN ρ ρ' L n)
      unfold rhoN
      rw [if_pos (List.mem_of_getElem? q), idx_of hnd q]
      exact r
theorem after_call {L Ln : List Nat} {cs2 cs3 : List Cell} (m : Md K b R ρ e σ H) (hnd : (L ++ Ln).Nodup) (hop : ∀ n ∈ Ln, e.open n = true) (hL : ∀ n ∈ L, ∃ c, e.cell n = some c) (bk : Back K R (rhoC ρ L) L.length H cs2 R' ρ' H')
    (hm : mapCs (backW (L ++ Ln)) cs2 = some cs3) (hlen : cs2.length = (L ++ Ln).length) :
    Md K b R' (rhoN ρ ρ' (L ++ Ln)) { e with M := upds e.M (L ++ Ln) cs3 } σ H' ∧ Live e { e with M := upds e.M (L ++ Ln) cs3 } ρ (rhoN ρ ρ' (L ++ Ln)) := by
  obtain ⟨hl3, hg3⟩ := mapCs_get hm
  have hl3' : cs3.length = (L ++ Ln).length := hl3.trans hlen
  have closed : ∀ {n : Nat} {c : Cell}, e.cell n = some c → n ∉ Ln := fun {n c} h z => by
    have := (Env.open_of (hop n z)).2.1
    rw [h] at this; cases this
  -- ρ stays at live cells
  have keep : ∀ {n : Nat}, n ∉ Ln → rhoN ρ ρ' (L ++ Ln) n = ρ n := fun {n} hn => by
    unfold rhoN
    by_cases hm2 : n ∈ L ++ Ln
    · rw [if_pos hm2]
      have hnL : n ∈ L := (List.mem_append.mp hm2).resolve_right hn
      have hi := idx_get hm2
      have hlt : (L ++ Ln).idxOf n < L.length := by
        have z := idx_get hnL
        have zl : L.idxOf n < L.length := List.idxOf_lt_length_of_mem hnL
        rw [idx_of hnd (i := L.idxOf n) (by rw [List.getElem?_append_left zl]; exact z)]
        exact zl
      rw [bk.kp _ hlt]
      rw [List.getElem?_append_left hlt] at hi
      exact rhoC_at hi
    · rw [if_neg hm2]
  have at_ : ∀ {i n : Nat}, (L ++ Ln)[i]? = some n → rhoN ρ ρ' (L ++ Ln) n = ρ' i := fun {i n} h => by
    unfold rhoN
    rw [if_pos (List.mem_of_getElem? h), idx_of hnd h]
  have cellD : ∀ {n : Nat} {c : Cell}, (⟨e.ws, upds e.M (L ++ Ln) cs3, e.np⟩ : Env).cell n = some c → (∃ i : Nat, (L ++ Ln)[i]? = some n ∧ cs3[i]? = some c) ∨ (n ∉ L ++ Ln ∧ e.cell n = some c) := fun {n c} h => upds_get h hl3'
  have iLt : ∀ {i : Nat} {c : Cell}, cs3[i]? = some c → i < cs2.length := fun {i c} h => by
    rw [← hl3]; exact (List.getElem?_eq_some_iff.mp h).1
  -- an address of the call's, and one of an old cell that was not handed over
  have apart : ∀ {i n k : Nat} {c' : Cell}, i < cs2.length → (L ++ Ln)[i]? = some n → k ∉ L ++ Ln → e.cell k = some c' → ρ' i ≠ ρ k := fun {i n k c'} hi hn hk hc' hq => by
    by_cases hiL : i < L.length
    · rw [bk.kp i hiL] at hq
      rw [List.getElem?_append_left hiL] at hn
      rw [rhoC_at hn] at hq
      obtain ⟨c2, h2⟩ := hL n (List.mem_of_getElem? hn)
      have := m.inj n k c2 c' h2 hc' hq
      subst this
      exact hk (List.mem_append_left _ (List.mem_of_getElem? hn))
    · obtain ⟨o, ho⟩ := (m.cell k c' hc').some
      have q2 := ((bk.own i hi).2).resolve_left hiL
      rw [hq, ho] at q2; cases q2
  refine ⟨⟨fun i w h => ?_, fun n c h => ?_, fun n n' c1 c2 h1 h2 q => ?_, fun n c h => ?_, fun n h => ?_, m.npl, bk.sub, m.ext.trans bk.sR, fun a o h => ?_, fun a o h hn => ?_, fun a o h => ?_, m.len⟩, fun n c h => ?_⟩
  · obtain ⟨v, h1, h2⟩ := m.slot i w h
    refine ⟨v, h1, ?_⟩
    cases w with
    | d x => exact Rep.mono bk.sR h2
    | loc n =>
      show v = .ref (rhoN ρ ρ' (L ++ Ln) n)
      rw [keep fun z => ?_]
      · exact h2
      · have := Env.noRef_slot (Env.open_of (hop n z)).2.2.2 h
        simp [isLoc] at this
  · rcases cellD h with ⟨i, h1, h2⟩ | ⟨h1, h2⟩
    · obtain ⟨c0, h3, h4⟩ := hg3 i c h2
      rw [at_ h1]
      exact mapCell_at (back_rep hnd) (Same.refl _) h4 (bk.cell i c0 h3)
    · have hc := m.cell n c h2
      obtain ⟨o, ho⟩ := hc.some
      rw [keep (closed h2)]
      refine hc.mono bk.sR ?_ fun k hk => keep fun z => ?_
      · rw [ho]
        refine bk.frame _ _ ho fun i hi hq => ?_
        obtain ⟨k, hk⟩ : ∃ k, L[i]? = some k := ⟨_, List.getElem?_eq_getElem hi⟩
        rw [rhoC_at hk] at hq
        obtain ⟨c2, h2'⟩ := hL k (List.mem_of_getElem? hk)
        have := m.inj k n c2 c h2' h2 hq
        subst this
        exact h1 (List.mem_append_left _ (List.mem_of_getElem? hk))
      · have := Env.noRef_cell (Env.open_of (hop k z)).2.2.2 h2
        rw [this] at hk; cases hk
  · rcases cellD h1 with ⟨i, g1, g2⟩ | ⟨g1, g2⟩
    · rcases cellD h2 with ⟨j, k1, k2⟩ | ⟨k1, k2⟩
      · rw [at_ g1, at_ k1] at q
        have := bk.inj i j (iLt g2) (iLt k2) q
        subst this
        rw [g1] at k1
        exact Option.some.inj k1
      · rw [at_ g1, keep (closed k2)] at q
        exact absurd q (apart (iLt g2) g1 k1 k2)
    · rcases cellD h2 with ⟨j, k1, k2⟩ | ⟨k1, k2⟩
      · rw [at_ k1, keep (closed g2)] at q
        exact absurd q.symm (apart (iLt k2) k1 g1 g2)
      · rw [keep (closed g2), keep (closed k2)] at q
        exact m.inj n n' c1 c2 g2 k2 q
  · rcases cellD h with ⟨i, g1, g2⟩ | ⟨g1, g2⟩
    · rw [at_ g1]
      refine ⟨(bk.own i (iLt g2)).1, ?_⟩
      rcases (bk.own i (iLt g2)).2 with hi | hi
      · rw [bk.kp i hi]
        rw [List.getElem?_append_left hi] at g1
        rw [rhoC_at g1]
        obtain ⟨c2, h2'⟩ := hL n (List.mem_of_getElem? g1)
        exact (m.own n c2 h2').2
      · exact .inr (m.fresh0 hi)
    · rw [keep (closed g2)]
      refine ⟨?_, (m.own n c g2).2⟩
      cases hR : R' (ρ n) with
      | none => rfl
      | some o =>
        rcases bk.new _ _ hR with z | z
        · rw [(m.own n c g2).1] at z; cases z
        · obtain ⟨o2, ho⟩ := (m.cell n c g2).some
          rw [z] at ho; cases ho
  · have h : n < e.np := h
    rw [keep fun z => ?_]
    · exact m.par n h
    · have := (Env.open_of (hop n z)).1
      omega
  · rcases bk.new a o h with z | z
    · exact m.new a o z
    · exact .inr (m.fresh0 z)
  · refine bk.frame a o (m.frame a o h hn) fun i hi hq => ?_
    obtain ⟨k, hk⟩ : ∃ k, L[i]? = some k := ⟨_, List.getElem?_eq_getElem hi⟩
    rw [rhoC_at hk] at hq
    obtain ⟨c2, h2'⟩ := hL k (List.mem_of_getElem? hk)
    rcases (m.own k c2 h2').2 with z | z
    · exact hn (by rw [← hq]; exact List.mem_of_getElem? (m.par k z))
    · rw [hq, h] at z; cases z
  · obtain ⟨o2, h2⟩ := m.there a o h
    exact bk.there a o2 h2
  · exact ⟨keep (closed h), upds_live h⟩
theorem call_run {P : Nat} {F : Fd} {L Ln : List Nat} {ws : List W} {vs : List V} {Q : VK} (m : Md K b R ρ e σ H) (rs : Paired (RepW K R ρ) ws vs) (hP : vs.length = P) (q : OkR K Wx (lW K) b R ρ e σ Q (runF F L Ln ws e)) :
    spD K P F vs H Q (fun cls d H' => Wx cls d σ H') := by
  unfold runF at q
  split at q
  case isFalse => exact q.elim
  case isTrue hcond =>
  rw [Bool.and_eq_true] at hcond
  have hnd := nodup_iff hcond.1
  have hop : ∀ n ∈ Ln, e.open n = true := fun n hn => List.all_eq_true.mp hcond.2 n hn
  cases hws : mapW (renW L) ws with
  | none => simp only [hws] at q; exact q.elim
  | some ws' =>
    cases hc0 : cellsOf e L with
    | none => simp only [hws, hc0] at q; exact q.elim
    | some cs0 =>
      simp only [hws, hc0] at q
      cases hcs : mapCs (renW L) cs0 with
      | none => simp only [hcs] at q; exact q.elim
      | some cs =>
        simp only [hcs] at q
        obtain ⟨l0, g0⟩ := cellsOf_get hc0
        obtain ⟨l1, g1⟩ := mapCs_get hcs
        have lcs : cs.length = L.length := l1.trans l0
        have hL : ∀ n ∈ L, ∃ c, e.cell n = some c := fun n hn => by
          obtain ⟨i, hi⟩ := List.mem_iff_getElem?.mp hn
          have hlt : i < cs0.length := by rw [l0]; exact (List.getElem?_eq_some_iff.mp hi).1
          obtain ⟨n', h1, h2⟩ := g0 i _ (List.getElem?_eq_getElem hlt)
          rw [hi] at h1
          cases h1
          exact ⟨_, h2⟩
        have lget : ∀ i, i < cs.length → ∃ n c, L[i]? = some n ∧ e.cell n = some c := fun i hi => by
          have h1 : L[i]? = some L[i] := List.getElem?_eq_getElem (by rw [← lcs]; exact hi)
          obtain ⟨c, h2⟩ := hL _ (List.mem_of_getElem? h1)
          exact ⟨_, c, h1, h2⟩
        have ndL : L.Nodup := (List.nodup_append.mp hnd).1
        refine ⟨hP, R, rhoC ρ L, ws', cs, m.sub, mapW_rep ren_rep hws rs, fun i c hi => ?_, fun i hi => ?_, fun i j hi hj hq => ?_, ?_⟩
        · obtain ⟨c0, h1, h2⟩ := g1 i c hi
          obtain ⟨n, h3, h4⟩ := g0 i c0 h1
          rw [rhoC_at h3]
          exact mapCell_at ren_rep (Same.refl _) h2 (m.cell n c0 h4)
        · obtain ⟨n, c, h1, h2⟩ := lget i hi
          rw [rhoC_at h1]
          exact (m.own n c h2).1
        · obtain ⟨n, c, h1, h2⟩ := lget i hi
          obtain ⟨n', c', h3, h4⟩ := lget j hj
          rw [rhoC_at h1, rhoC_at h3] at hq
          have := m.inj n n' c c' h2 h4 hq
          subst this
          rw [← idx_of ndL h1, ← idx_of ndL h3]
        · cases hF : F ws' cs with
          | fail => simp only [hF] at q; exact q.elim
          | ok w cs2 =>
            simp only [hF] at q
            cases h3 : mapCs (backW (L ++ Ln)) cs2 with
            | none => simp only [h3] at q; exact q.elim
            | some cs3 =>
              cases h4 : backW (L ++ Ln) w with
              | none => simp only [h3, h4] at q; exact q.elim
              | some w3 =>
                simp only [h3, h4] at q
                by_cases hlen : cs2.length = (L ++ Ln).length
                · rw [if_pos hlen] at q
                  intro R' ρ' v H' bk rv
                  rw [lcs] at bk
                  obtain ⟨m', lv⟩ := after_call m hnd hop hL bk h3 hlen
                  exact q R' _ v H' bk.sR lv m' (back_rep hnd w w3 v h4 rv)
                · rw [if_neg hlen] at q; exact q.elim
          | exn x cs2 =>
            simp only [hF] at q
            cases h3 : mapCs (backW L) cs2 with
            | none => simp only [h3] at q; exact q.elim
            | some cs3 =>
              simp only [h3] at q
              by_cases hlen : cs2.length = L.length
              · rw [if_pos hlen] at q
                intro R' ρ' H' cls d bk rx
                rw [lcs] at bk
                have e0 : L ++ [] = L := List.append_nil L
                obtain ⟨m', lv⟩ := after_call (Ln := []) m (by rw [e0]; exact ndL) (fun n hn => nomatch hn) hL bk (by rw [e0]; exact h3) (by rw [e0]; exact hlen)
                rw [e0] at m'
                exact q R' _ σ H' cls d bk.sR m' rx
              · rw [if_neg hlen] at q; exact q.elim
end
section
variable {X : Cx} {Wx : WX} {a c o : Expr} {es : List Expr} {pos p apos : Pos} {k : Nat} {f C : Addr} {fd : FuncData} {ps : List Str} {F : Fd} {x mn : Str} {fs : List Ev} {ds : List Value} {dvs : List D}
/-- the values of defaults -/
def flatDs : List D → Option (List V)
  | [] => some []
  | d :: ds => match flatD d, flatDs ds with | some v, some vs => some (v :: vs) | _, _ => none
theorem flatDs_rep {K : PySem.W.Frag} {R : Hp} {ρ : Nat → Addr} : ∀ {ds : List D} {vs : List V}, flatDs ds = some vs → Paired (RepW K R ρ) (ds.map W.d) vs
  | [], _, h => by cases h; exact .nil
  | d :: ds, _, h => by
    unfold flatDs at h
    cases h1 : flatD d with
    | none => rw [h1] at h; cases h
    | some v =>
      cases h2 : flatDs ds with
      | none => rw [h1, h2] at h; cases h
      | some vs =>
        rw [h1, h2] at h; cases h
        refine .cons ?_ (flatDs_rep h2)
        show Rep K R d v
        cases d <;> first | (cases h1; constructor) | cases h1
def eCall (P : Nat) (F : Fd) (L Ln : List Nat) (dvs : List D) (fs : List Ev) : Ev := fun e => (evA fs e).bind fun ws e1 => if (ws ++ dvs.map W.d).length = P then runF F L Ln (ws ++ dvs.map W.d) e1 else .fail
theorem d_call {np : Nat} {L Ln : List Nat} {dv : List V} (tk : Takes X Wx) (G : FnOk X.prog X.w X.K X.mg X.base (L2.CX X.prog X.w) k f fd ps (spD X.K np F)) (hr : Room k X.A) (hg : Gl X x) (hm : X.mg x = some (.ref f)) (hk : PySem.W.keepIn X.K (.ref f) = true) (hb : Binds X.K fd ps ds) (hd : Vals dv ds) (hdv : flatDs dvs = some dv)
    (ha : PA X (a :: es) (tDA X.K Wx (evA fs))) (hdb : (x == ("__debug__" : Str)) = false := by decide) (he : starEach (a :: es) X.env = (false, eval a X.env) :: starEach es X.env := by rfl) (hpl : (backTo pos (starEach es X.env)).any (·.1) = false := by rfl) :
    PE X (.Call (.Name x p) (a :: es) [] pos) (tD X.K Wx (eCall np F L Ln dvs fs)) := (pe_callSD (E := WE Wx) G hr hg hm hk hb hd (fun σ => passAt tk σ) ha hdb he hpl).imp fun σ H Q h =>
  tG_one h fun bs R ρ e H ws vs m r q => by
    split at q
    · rename_i hlen
      have r2 : Paired (RepW X.K R ρ) (ws ++ dvs.map W.d) (vs ++ dv) := Paired.app r (flatDs_rep hdv)
      exact call_run m r2 (by rw [← Paired.lengthEq r2]; exact hlen) q
    · exact q.elim
/-- o.m(..), what is raised wished for at the slots -/
def tMethS (C : Addr) (m : Str) (sp : Sp) (dvs : List V) (E : St → XK) (ta : TE) (t : TA) : TE := fun σ H Q => ta σ H fun x H1 => ∃ a dx fs, x = .ref a ∧ H1 a = some (.ins C dx fs) ∧ fs.lookup m = none ∧
  t σ H1 fun vs H2 => sp (x :: (vs ++ dvs)) H2 Q (E σ)
theorem pe_methS {pl : Sem Bool} {m : Str} {sp : Sp} {dvs : List V} {E : St → XK} {CX : CXT} {ta : TE} {t : TA} (he : PE X o ta) (c : Cls X.K C) (hm : Meth X.K C m f) (F : FnOk X.prog X.w X.K X.mg X.base CX k f fd ps sp) (hr : Room k X.A) (hb : Binds X.K fd ps ds) (hd : Vals dvs ds) (hx : ∀ σ, PassesAt CX X σ (E σ)) (ha : PA X (a :: es) t)
    (hst : starEach (a :: es) X.env = (false, eval a X.env) :: starEach es X.env := by rfl) (hpl : (backTo pos (starEach es X.env)).any (·.1) = false := by rfl)
    (ht : eval (.Call (.Attribute o m apos) (a :: es) [] pos) X.env = (do
      let ov ← eval o X.env
      standAt apos.atName
      let (f, first) ← holding [ov] (getMethod ov m pl)
      callWith pos f first (backTo pos (starEach (a :: es) X.env)) (backToKw pos (keywordEach [] X.env))) := by rfl) :
    PE X (.Call (.Attribute o m apos) (a :: es) [] pos) (tMethS C m sp dvs E ta t) := by
  refine ⟨fun pins s σ H Q I h => ?_⟩
  refine PySem.W.methodCall_KW (pl := pl) (thn (he.run pins s σ H _ I h) fun u s1 ⟨x, H1, I1, rx, a', dx, fs, ex, ea, l, q⟩ => ?_) ht
  subst ex
  obtain rfl : u = Value.ref a' := rx
  refine getmeth_ok I1 ea c hm l ?_
  refine PySem.W.callWith_K (first := [.ref a']) (h₀ := X.base) I1.ok.mod.kin hm.kp (thn (ha.run pos pins s1 σ H1 _ I1 q) fun us s2 ⟨vs, H2, I2, r, q2⟩ => ⟨I2.kIn, ?_⟩) hst hpl
  exact run_fnSD (us := .ref a' :: us) (vs := .ref a' :: vs) F hr hb hd (hx σ) I2 (.cons rfl r) q2
theorem pe_methS0 {pl : Sem Bool} {m : Str} {sp : Sp} {dvs : List V} {E : St → XK} {CX : CXT} {ta : TE} (he : PE X o ta) (c : Cls X.K C) (hm : Meth X.K C m f) (F : FnOk X.prog X.w X.K X.mg X.base CX k f fd ps sp) (hr : Room k X.A) (hb : Binds X.K fd ps ds) (hd : Vals dvs ds) (hx : ∀ σ, PassesAt CX X σ (E σ))
    (ht : eval (.Call (.Attribute o m apos) [] [] pos) X.env = (do
      let ov ← eval o X.env
      standAt apos.atName
      let (f, first) ← holding [ov] (getMethod ov m pl)
      callWith pos f first (backTo pos (starEach [] X.env)) (backToKw pos (keywordEach [] X.env))) := by rfl) :
    PE X (.Call (.Attribute o m apos) [] [] pos) (tMethS C m sp dvs E ta tNil) := by
  refine ⟨fun pins s σ H Q I h => ?_⟩
  refine PySem.W.methodCall_KW (pl := pl) (thn (he.run pins s σ H _ I h) fun u s1 ⟨x, H1, I1, rx, a', dx, fs, ex, ea, l, q⟩ => ?_) ht
  subst ex
  obtain rfl : u = Value.ref a' := rx
  refine getmeth_ok I1 ea c hm l ?_
  exact PySem.W.callWith_K0 (first := [.ref a']) I1.kIn hm.kp (run_fnSD (us := [.ref a']) (vs := [.ref a']) F hr hb hd (hx σ) I1 (.cons rfl .nil) q)
/-- w is an instance of the class at C, and mn is none of its attributes -/
def hasNo {α : Type} (mn : Str) : List (Str × α) → Bool
  | [] => true
  | (n, _) :: r => !(n == mn) && hasNo mn r
def insD (C : Addr) (mn : Str) (e : Env) : W → Bool
  | .d (.obj C' fs) => decide (C' = C) && hasNo mn fs
  | .d _ => false
  | .loc n => match e.cell n with | some (.obj C' fs) => decide (C' = C) && hasNo mn fs | _ => false
theorem hasNo_lookup {α β : Type} : ∀ {fs : List (Str × α)} {ws : List (Str × β)}, ws.map (·.1) = fs.map (·.1) → hasNo mn fs = true → ws.lookup mn = none
  | [], [], _, _ => rfl
  | [], _ :: _, h, _ => by simp at h
  | _ :: _, [], h, _ => by simp at h
  | (g, x) :: fs, (g', y) :: ws, h1, h2 => by
    rw [List.map_cons, List.map_cons] at h1
    injection h1 with e1 e2
    have e1 : g' = g := e1
    subst e1
    unfold hasNo at h2
    rw [Bool.and_eq_true] at h2
    have hq : ¬ g' = mn := fun z => by
      have := h2.1
      rw [beq_iff_eq.mpr z] at this
      cases this
    have hb : (mn == g') = false := beq_eq_false_iff_ne.mpr (Ne.symm hq)
    simp only [List.lookup, hb]
    exact hasNo_lookup e2 h2.2
theorem insD_ok {K : PySem.W.Frag} {b : Bs} {R : Hp} {ρ : Nat → Addr} {e : Env} {σ : St} {H : Hp} {w : W} {v : V} (m : Md K b R ρ e σ H) (r : RepW K R ρ w v) (h : insD C mn e w = true) : ∃ a dx fs, v = .ref a ∧ H a = some (.ins C dx fs) ∧ fs.lookup mn = none := by
  unfold insD at h
  split at h
  · rw [Bool.and_eq_true] at h
    have hC := of_decide_eq_true h.1
    subst hC
    have r : Rep K R _ v := r
    cases r with
    | obj h1 h2 l => exact ⟨_, _, _, rfl, m.sub _ _ h1, hasNo_lookup h2 h.2⟩
  · cases h
  · rename_i n
    have e1 : v = .ref (ρ n) := r
    subst e1
    split at h
    · rename_i hc
      rw [Bool.and_eq_true] at h
      have hC := of_decide_eq_true h.1
      subst hC
      obtain ⟨dx, ws, g1, g2, g3⟩ := m.cell n _ hc
      exact ⟨_, _, _, rfl, g1, hasNo_lookup g2 h.2⟩
    · cases h
end
end Dl
end
section
set_option Elab.async false
set_option linter.all false
set_option maxRecDepth 100000
set_option maxHeartbeats 4000000
namespace Dl
open PySem L2
section
variable {K : PySem.W.Frag} {Wx : WX} {b : Bs} {R R' : Hp} {ρ ρ' : Nat → Addr} {e : Env} {σ : St} {H H' : Hp}
theorem cell_rep {a : Addr} {c : Cell} {x : D} {o : HO} (hk : CellAt K R ρ H a c) (hx : c.toD = some x) (ho : H a = some o) (hR : R a = none) : Rep K (upd R a o) x (.ref a) := by
  have sR : Same R (upd R a o) := same_upd hR
  cases c with
  | lst xs =>
    obtain ⟨vs, h1, h2⟩ := hk
    have e1 : D.lst xs = x := Option.some.inj hx
    subst e1
    rw [h1] at ho; cases ho
    exact .lst upd_same (RepL.mono sR h2)
  | dic kvs =>
    obtain ⟨ws, h1, h2, h3⟩ := hk
    have e1 : D.dic kvs = x := Option.some.inj hx
    subst e1
    rw [h1] at ho; cases ho
    exact .dic upd_same h2 (RepL.mono sR h3)
  | dct kvs =>
    obtain ⟨ws, h1, h2, h3⟩ := hk
    have e1 : D.dct kvs = x := Option.some.inj hx
    subst e1
    rw [h1] at ho; cases ho
    exact .dct upd_same h2 (RepL.mono sR h3)
  | obj C fs =>
    obtain ⟨dx, ws, h1, h2, h3⟩ := hk
    have hx : (toDf fs).map (D.obj C) = some x := hx
    cases q : toDf fs with
    | none => rw [q] at hx; cases hx
    | some ds =>
      rw [q] at hx
      have e1 : D.obj C ds = x := Option.some.inj hx
      subst e1
      rw [h1] at ho; cases ho
      obtain ⟨r1, r2⟩ := toDf_rep q h3
      exact .obj upd_same (h2.trans r2.symm) (RepL.mono sR r1)
  | tbl P q => cases hx
  | lw us =>
    obtain ⟨vs, h1, h2⟩ := hk
    have hx : (toDs us).map D.lst = some x := hx
    cases q : toDs us with
    | none => rw [q] at hx; cases hx
    | some ds =>
      rw [q] at hx
      have e1 : D.lst ds = x := Option.some.inj hx
      subst e1
      rw [h1] at ho; cases ho
      exact .lst upd_same (RepL.mono sR (toDs_rep q h2))
  | tw us =>
    obtain ⟨vs, h1, h2⟩ := hk
    have hx : (toDs us).map D.tup = some x := hx
    cases q : toDs us with
    | none => rw [q] at hx; cases hx
    | some ds =>
      rw [q] at hx
      have e1 : D.tup ds = x := Option.some.inj hx
      subst e1
      rw [h1] at ho; cases ho
      exact .tup upd_same (RepL.mono sR (toDs_rep q h2))
theorem Md.dropD {k : Nat} {c : Cell} {x : D} (m : Md K b R ρ e σ H) (hk : e.cell k = some c) (hx : c.toD = some x) (hnp : e.np ≤ k) : ∃ R', Same R R' ∧ Md K b R' ρ (e.setC k none) σ H ∧ Rep K R' x (.ref (ρ k)) := by
  have ca := m.cell k c hk
  obtain ⟨o, ho⟩ := ca.some
  have hR := (m.own k c hk).1
  have sR : Same R (upd R (ρ k) o) := same_upd hR
  have old : ∀ {n c}, (e.setC k none).cell n = some c → n ≠ k ∧ e.cell n = some c := fun {n c} h => by
    rw [Env.cell_setC] at h
    by_cases q : k = n
    · subst q; rw [if_pos rfl] at h; split at h <;> cases h
    · rw [if_neg q] at h; exact ⟨Ne.symm q, h⟩
  refine ⟨_, sR, ⟨fun i w h => ?_, fun n c' h => ?_, fun n n' c1 c2 h1 h2 q => ?_, fun n c' h => ?_, m.par, m.npl, fun a u h => ?_, m.ext.trans sR, fun a u h => ?_, m.frame, m.there, m.len⟩, cell_rep ca hx ho hR⟩
  · obtain ⟨v, q1, q2⟩ := m.slot i w h
    exact ⟨v, q1, q2.mono sR⟩
  · exact (m.cell n c' (old h).2).mono sR rfl fun _ _ => rfl
  · exact m.inj n n' c1 c2 (old h1).2 (old h2).2 q
  · obtain ⟨hn, hc⟩ := old h
    exact ⟨by rw [upd_ne fun z => hn (m.inj n k c' c hc hk z)]; exact (m.own n c' hc).1, (m.own n c' hc).2⟩
  · by_cases q : a = ρ k
    · subst q; rw [upd_same] at h; cases h; exact ho
    · rw [upd_ne q] at h; exact m.sub a u h
  · by_cases q : a = ρ k
    · subst q
      rcases (m.own k c hk).2 with z | z
      · omega
      · exact .inr z
    · rw [upd_ne q] at h; exact m.new a u h
theorem OkR.bind2 {α β γ δ : Type} {L : Rl α β} {L2 : Rl γ δ} {Q : δ → Hp → Prop} {r : Rs α} {k : α → Env → Rs γ} {R0 : Hp} {ρ0 : Nat → Addr} {e0 : Env} (s0 : Same R R0) (h : OkR K Wx L2 b R ρ e σ Q (r.bind k)) :
    OkR K Wx L b R0 ρ0 e0 σ (fun v H1 => ∃ R1 ρ1 e1 a, Same R0 R1 ∧ Live e0 e1 ρ0 ρ1 ∧ Md K b R1 ρ1 e1 σ H1 ∧ L R1 ρ1 a v ∧ OkR K Wx L2 b R ρ e σ Q (k a e1)) r := by
  cases r with
  | ok a e' => exact fun R' ρ' v H' s l m rp => ⟨R', ρ', e', a, s, l, m, rp, h⟩
  | exn x e' => exact fun R' ρ' σ' H' cls d s' m r => h R' ρ' σ' H' cls d (s0.trans s') m r
  | fail => exact h
end
/-- a made object stays own, or is frozen -/
def endO (keep : Bool) (k : Nat) : Ev := fun e => if keep = true then .ok (.loc k) e else match e.cell k with
  | some c => (match c.toD with | some x => if e.np ≤ k then .ok (.d x) (e.setC k none) else .fail | none => .fail)
  | none => .fail
section
variable {X : Cx} {Wx : WX} {a : Expr} {es : List Expr} {pos p : Pos} {k : Nat} {f C : Addr} {fd : FuncData} {ps : List Str} {F : Fd} {x : Str} {fs : List Ev} {ds : List Value} {dvs : List D}
def tMakeS (C : Addr) (sp : Sp) (dvs : List V) (E : St → XK) (t : TA) : TE := fun σ H Q => t σ H fun vs H1 => ∀ x dx, H1 x = none → H1 dx = none → dx ≠ x →
  sp (.ref x :: (vs ++ dvs)) (upd (upd H1 dx (.own x)) x (.ins C dx [])) (fun v H2 => v = .non ∧ Q (.ref x) H2) (E σ)
theorem run_makeS {CX : CXT} {sp : Sp} {dvs : List V} {E : St → XK} {pins : List (Addr × Obj)} {σ : St} {H : Hp} {s : Shared} {Q : VK} {us : List Value} {vs : List V} (M : Mk X.K C f) (F : FnOk X.prog X.w X.K X.mg X.base CX k f fd ps sp) (hr : Room (k + 1) X.A) (hb : Binds X.K fd ps ds) (hd : Vals dvs ds)
    (hx : PassesAt CX X σ (E σ)) (I : Inv X pins σ H s) (r : Vals vs us)
    (h : ∀ x dx, H x = none → H dx = none → dx ≠ x → sp (.ref x :: (vs ++ dvs)) (upd (upd H dx (.own x)) x (.ins C dx [])) (fun v H2 => v = .non ∧ Q (.ref x) H2) (E σ)) :
    wpAny (model X.prog X.w) X.A (call (.ref C) us) (EP X pins σ Q) X.xe s := by
  have hq := h (s.heap.objs.size + 1) s.heap.objs.size (I.hok.fresh (Nat.le_succ _)) (I.hok.fresh (Nat.le_refl _)) (Nat.ne_of_lt (Nat.lt_succ_self _))
  have I2 := Inv.made (C := C) I
  have r2 : Vals (V.ref (s.heap.objs.size + 1) :: (vs ++ dvs)) (Value.ref (s.heap.objs.size + 1) :: (us ++ ds)) := .cons rfl (r.append hd)
  have hl : (Value.ref (s.heap.objs.size + 1) :: us ++ ds).length = ps.length := by
    have e := r2.length
    rw [F.len _ _ _ _ hq] at e
    exact e.symm
  refine wpAny_call (make_map (f := f) I.kIn M.makes M.init (beq_iff_eq.mp M.fn) (codeAny_mono (F.run _ X.stack _ _ ⟨Value.ref (s.heap.objs.size + 1) :: us, []⟩ (Value.ref (s.heap.objs.size + 1) :: (us ++ ds)) _ _ (E σ) (hr.make C us [])
    (I2.env0.make C us []) (hb _ (Value.ref (s.heap.objs.size + 1) :: us) I2.kIn hl) r2 hq) fun r s' hq' => ?_))
  cases r with
  | error e => exact hx pins _ _ e s' I2 hq'
  | ok fl =>
    cases fl with
    | ret u =>
      obtain ⟨v, H', I3, rv, ev, q3⟩ := I2.after hq'
      subst ev
      exact ⟨rv, ⟨V.ref (s.heap.objs.size + 1), H', I3, rfl, q3⟩⟩
    | next => exact False.elim hq'
    | brk => exact False.elim hq'
    | cont => exact False.elim hq'
theorem pe_makeS {CX : CXT} {sp : Sp} {dvs : List V} {E : St → XK} {t : TA} (M : Mk X.K C f) (F : FnOk X.prog X.w X.K X.mg X.base CX k f fd ps sp) (hr : Room (k + 1) X.A) (hg : Gl X x) (hm : X.mg x = some (.ref C)) (hb : Binds X.K fd ps ds) (hd : Vals dvs ds) (hx : ∀ σ, PassesAt CX X σ (E σ))
    (ha : PA X (a :: es) t) (hdb : (x == ("__debug__" : Str)) = false := by decide) (he : starEach (a :: es) X.env = (false, eval a X.env) :: starEach es X.env := by rfl) (hpl : (backTo pos (starEach es X.env)).any (·.1) = false := by rfl) :
    PE X (.Call (.Name x p) (a :: es) [] pos) (tMakeS C sp dvs E t) := by
  refine ⟨fun pins s σ H Q I h => ?_⟩
  refine wpAny_Call_Name_kw (ld_glob I hg hm ?_ hdb)
  refine PySem.W.callWith_K (h₀ := X.base) I.ok.mod.kin M.kp (thn (ha.run pos pins s σ H _ I h) fun us s1 ⟨vs, H1, I1, r, q⟩ => ⟨I1.kIn, ?_⟩) he hpl
  exact run_makeS M F hr hb hd (hx σ) I1 r q
def eMake (C : Addr) (P : Nat) (F : Fd) (k : Nat) (L Ln : List Nat) (keep : Bool) (dvs : List D) (fs : List Ev) : Ev := fun e => (evA fs e).bind fun ws e1 =>
  if (e1.open k && ws.all fun w => !isLoc k w) = true then
    (if (W.loc k :: (ws ++ dvs.map W.d)).length = P then
      (runF F (k :: L) Ln (W.loc k :: (ws ++ dvs.map W.d)) (e1.setC k (some (.obj C [])))).bind fun w e3 => (match w with | .d .non => endO keep k e3 | _ => .fail)
    else .fail)
  else .fail
theorem d_make {np : Nat} {kr : Nat} {L Ln : List Nat} {keep : Bool} {dv : List V} (tk : Takes X Wx) (M : Mk X.K C f) (G : FnOk X.prog X.w X.K X.mg X.base (L2.CX X.prog X.w) k f fd ps (spD X.K np F)) (hr : Room (k + 1) X.A) (hg : Gl X x) (hm : X.mg x = some (.ref C)) (hb : Binds X.K fd ps ds) (hd : Vals dv ds) (hdv : flatDs dvs = some dv)
    (ha : PA X (a :: es) (tDA X.K Wx (evA fs))) (hdb : (x == ("__debug__" : Str)) = false := by decide) (he : starEach (a :: es) X.env = (false, eval a X.env) :: starEach es X.env := by rfl) (hpl : (backTo pos (starEach es X.env)).any (·.1) = false := by rfl) :
    PE X (.Call (.Name x p) (a :: es) [] pos) (tD X.K Wx (eMake C np F kr L Ln keep dvs fs)) := (pe_makeS (E := WE Wx) M G hr hg hm hb hd (fun σ => passAt tk σ) ha hdb he hpl).imp fun σ H Q h =>
  tG_one h fun bs R ρ e H ws vs m r q => by
    split at q
    case isFalse => exact q.elim
    case isTrue hcond =>
    rw [Bool.and_eq_true] at hcond
    obtain ⟨o1, o2, o3, o4⟩ := Env.open_of hcond.1
    split at q
    case isFalse => exact q.elim
    case isTrue hlen =>
    intro y dx hy hdx hne
    have m1 := m.grow (same_upd (o := .own y) hdx)
    have hy1 : upd H dx (.own y) y = none := by rw [upd_ne (Ne.symm hne)]; exact hy
    have m2 := m1.freshC (o := .ins C dx []) hy1 o2 o1 o4 (c := .obj C []) ⟨dx, [], upd_same, rfl, .nil⟩
    have hws : ∀ w ∈ ws, isLoc kr w = false := fun w hw => by
      have := List.all_eq_true.mp hcond.2 w hw
      simpa using this
    have lv : Live e (e.setC kr (some (.obj C []))) ρ (setR ρ kr y) := fun n c hc => by
      have hn : n ≠ kr := fun z => by subst z; rw [o2] at hc; cases hc
      exact ⟨setR_ne hn, c, by rw [Env.cell_setC, if_neg (Ne.symm hn)]; exact hc⟩
    have r3 : Paired (RepW X.K R (setR ρ kr y)) (W.loc kr :: (ws ++ dvs.map W.d)) (V.ref y :: (vs ++ dv)) := .cons (by
      show V.ref y = .ref (setR ρ kr y kr)
      rw [setR_same]) (Paired.app (lw_setR (e := e) r hws) (flatDs_rep hdv))
    refine call_run m2 r3 (by rw [← Paired.lengthEq r3]; exact hlen) ((OkR.bind2 (L := lW X.K) (Same.refl R) q).imp fun v H2 h2 => ?_)
    obtain ⟨R1, ρ1, e3, w, s1, l1, m3, rw3, q3⟩ := h2
    split at q3
    · have rw3 : Rep X.K R1 .non v := rw3
      cases rw3
      refine ⟨rfl, ?_⟩
      have hkc : (e.setC kr (some (.obj C []))).cell kr = some (.obj C []) := by rw [Env.cell_setC, if_pos rfl, if_pos o3]
      obtain ⟨hk1, c1, hc1⟩ := l1 kr _ hkc
      rw [setR_same] at hk1
      unfold endO at q3
      split at q3
      · rw [← hk1]
        exact q3 R1 ρ1 _ H2 s1 (lv.trans l1) m3 rfl
      · rw [hc1] at q3
        simp only at q3
        cases hx : c1.toD with
        | none => simp only [hx] at q3; exact q3.elim
        | some xd =>
          simp only [hx] at q3
          split at q3
          · rename_i hnp
            obtain ⟨R7, s7, m7, r7⟩ := m3.dropD hc1 hx hnp
            rw [hk1] at r7
            refine q3 R7 ρ1 (.ref y) H2 (s1.trans s7) (fun n c hcn => ?_) m7 r7
            obtain ⟨h8, c8, h9⟩ := (lv.trans l1) n c hcn
            have hn : n ≠ kr := fun z => by subst z; rw [o2] at hcn; cases hcn
            exact ⟨h8, c8, by rw [Env.cell_setC, if_neg (Ne.symm hn)]; exact h9⟩
          · exact q3.elim
    · exact q3.elim
end
end Dl
end
section
set_option Elab.async false
set_option linter.all false
set_option maxRecDepth 100000
set_option maxHeartbeats 4000000
namespace Dl
open PySem L2
section
variable {X : Cx} {Wx : WX} {a b c tg : Expr} {es rest : List Expr} {pos : Pos} {K : PySem.W.Frag}
def eNeg (f : Ev) : Ev := fun e => (f e).bind fun w e1 => match w with | .d (.int i) => .ok (.d (.int (-i))) e1 | _ => .fail
theorem d_neg {f : Ev} (h : PE X a (tD X.K Wx f)) : PE X (.UnaryOp .USub a pos) (tD X.K Wx (eNeg f)) := (pe_un un_neg h).imp fun σ H Q q =>
  tG_one q fun bs R ρ e H w v m r q2 => by
    split at q2
    · rename_i i
      have r : Rep X.K R (.int i) v := r
      cases r
      exact ⟨i, rfl, q2.fin (L := lW X.K) (a := .d (.int (-i))) m (Rep.int _)⟩
    · exact q2.elim
def eAnd (f g : Ev) : Ev := fun e => (f e).bind fun w e1 => match w with | .d (.bl k) => if k = true then g e1 else .ok (.d (.bl false)) e1 | _ => .fail
def eOr (f g : Ev) : Ev := fun e => (f e).bind fun w e1 => match w with | .d (.bl k) => if k = true then .ok (.d (.bl true)) e1 else g e1 | _ => .fail
theorem d_one {op} {f : Ev} (h : PE X a (tD X.K Wx f)) : PE X (.BoolOp op [a] pos) (tD X.K Wx f) := pe_one h
theorem d_and {f g : Ev} (ha : PE X a (tD X.K Wx f)) (hb : PE X (.BoolOp .And (b :: rest) pos) (tD X.K Wx g)) : PE X (.BoolOp .And (a :: b :: rest) pos) (tD X.K Wx (eAnd f g)) := (pe_and ha hb).imp fun σ H Q q =>
  tG_one q fun bs R ρ e H w v m r q2 => by
    split at q2
    · rename_i k
      have r : Rep X.K R (.bl k) v := r
      cases r
      refine ⟨k, rfl, ?_⟩
      cases k with
      | true => exact ⟨bs, R, ρ, e, m, q2⟩
      | false => exact q2.fin (L := lW X.K) (a := .d (.bl false)) m (Rep.bl _)
    · exact q2.elim
theorem d_or {f g : Ev} (ha : PE X a (tD X.K Wx f)) (hb : PE X (.BoolOp .Or (b :: rest) pos) (tD X.K Wx g)) : PE X (.BoolOp .Or (a :: b :: rest) pos) (tD X.K Wx (eOr f g)) := (pe_or ha hb).imp fun σ H Q q =>
  tG_one q fun bs R ρ e H w v m r q2 => by
    split at q2
    · rename_i k
      have r : Rep X.K R (.bl k) v := r
      cases r
      refine ⟨k, rfl, ?_⟩
      cases k with
      | false => exact ⟨bs, R, ρ, e, m, q2⟩
      | true => exact q2.fin (L := lW X.K) (a := .d (.bl true)) m (Rep.bl _)
    · exact q2.elim
abbrev bNot (t : Env → Rs Bool) : Env → Rs Bool := fun e => (t e).bind fun k e1 => .ok (!k) e1
def powD : D → D → Option D := intD fun i j => if CPow i j then some (i ^ j.toNat) else none
theorem powD_ok : OpD K powD (rI CPow fun i j => .int (i ^ j.toNat)) := intD_ok fun i j k h => by
  split at h
  · rename_i hc; exact ⟨hc, (Option.some.inj h).symm⟩
  · cases h
/-- += of ints -/
def addI : D → D → Option D := intD fun i j => some (i + j)
theorem addI_ok : OpD K addI (rI0 fun i j => .int (i + j)) := intD_ok0 fun i j k h => (Option.some.inj h).symm
instance (i j c : Int) (n : Nat) : Decidable (RgC i j c n) := by unfold RgC; infer_instance
end
end Dl
end
section
set_option Elab.async false
set_option linter.all false
set_option maxRecDepth 100000
set_option maxHeartbeats 4000000
namespace Dl
open PySem L2
section
variable {α γ : Type}
/-- constants that simp leaves alone until their first argument is known -/
def varK (o : Option W) (e : Env) : Rs W := match o with | some w => .ok w e | none => .fail
def b2a (r : Rs W) (f2 : Ev) (k : W → W → Env → Rs γ) : Rs γ := r.bind fun w1 e1 => if wl e1 w1 = true then (f2 e1).bind (k w1) else .fail
def b2b (l : Bool) (w1 : W) (r : Rs W) (k : W → W → Env → Rs γ) : Rs γ := if l = true then r.bind (k w1) else .fail
def okB (o : Option Bool) (e : Env) : Rs Bool := match o with | some k => .ok k e | none => .fail
def cbK (r : Rs (List W)) (k : List W → Ev) : Rs W := r.bind k
def eaK (r : Rs W) (fs : List Ev) : Rs (List W) := r.bind fun w e1 => if wl e1 w = true then (evA fs e1).bind fun ws e2 => .ok (w :: ws) e2 else .fail
def ebK (l : Bool) (w : W) (r : Rs (List W)) : Rs (List W) := if l = true then r.bind fun ws e2 => .ok (w :: ws) e2 else .fail
def andK (r : Rs Bool) (g : Env → Rs Bool) : Rs Bool := r.bind fun k e1 => if k = true then g e1 else .ok false e1
def orK (r : Rs Bool) (g : Env → Rs Bool) : Rs Bool := r.bind fun k e1 => if k = true then .ok true e1 else g e1
def notK (r : Rs Bool) : Rs Bool := r.bind fun k e1 => .ok (!k) e1
def truK (r : Rs W) : Rs Bool := r.bind kTru
def eNegK (r : Rs W) : Rs W := r.bind fun w e1 => match w with | .d (.int i) => .ok (.d (.int (-i))) e1 | _ => .fail
def eAndK (r : Rs W) (g : Ev) : Rs W := r.bind fun w e1 => match w with | .d (.bl k) => if k = true then g e1 else .ok (.d (.bl false)) e1 | _ => .fail
def eOrK (r : Rs W) (g : Ev) : Rs W := r.bind fun w e1 => match w with | .d (.bl k) => if k = true then .ok (.d (.bl true)) e1 else g e1 | _ => .fail
def isiK (T : String) (r : Rs W) : Rs W := r.bind fun w e1 => match w with | .d x => okO (isiD T x) e1 | _ => .fail
def fldK (C : Addr) (f : Str) (r : Rs W) : Rs W := r.bind fun w e1 => okW (fldO C f w e1) e1
def meK (ty : Env → W → Bool) (k : W → List W → Ev) (r : Rs W) (fs : List Ev) : Rs W := r.bind fun w e1 => if (ty e1 w && wl e1 w) = true then (evA fs e1).bind (k w) else .fail
def meK2 (l : Bool) (k : W → List W → Ev) (w : W) (r : Rs (List W)) : Rs W := if l = true then r.bind (k w) else .fail
def slK (r : Rs W) (lo hi : Env → Rs (Option Int)) : Rs W := r.bind fun w e1 => if wl e1 w = true then (lo e1).bind fun l e2 => if wl e2 w = true then (hi e2).bind fun h e3 => kSl w l h e3 else .fail else .fail
def slK2 (b : Bool) (w : W) (r : Rs (Option Int)) (hi : Env → Rs (Option Int)) : Rs W := if b = true then r.bind fun l e2 => if wl e2 w = true then (hi e2).bind fun h e3 => kSl w l h e3 else .fail else .fail
def slK3 (b : Bool) (w : W) (l : Option Int) (r : Rs (Option Int)) : Rs W := if b = true then r.bind fun h e3 => kSl w l h e3 else .fail
def osK (r : Rs W) : Rs (Option Int) := r.bind fun w e1 => match w with | .d (.int i) => .ok (some i) e1 | _ => .fail
def itK (r : Rs W) (k : W → Env → Rs Itr) : Rs Itr := r.bind k
def irK (r : Rs (List W)) (k : List W → Env → Rs Itr) : Rs Itr := r.bind k
def callK (r : Rs (List W)) (P : Nat) (F : Fd) (L Ln : List Nat) (dvs : List D) : Rs W := r.bind fun ws e1 => if (ws ++ dvs.map W.d).length = P then runF F L Ln (ws ++ dvs.map W.d) e1 else .fail
def mkK (r : Rs (List W)) (C : Addr) (P : Nat) (F : Fd) (k : Nat) (L Ln : List Nat) (keep : Bool) (dvs : List D) : Rs W := r.bind fun ws e1 =>
  if (e1.open k && ws.all fun w => !isLoc k w) = true then
    (if (W.loc k :: (ws ++ dvs.map W.d)).length = P then
      (runF F (k :: L) Ln (W.loc k :: (ws ++ dvs.map W.d)) (e1.setC k (some (.obj C [])))).bind fun w e3 => (match w with | .d .non => endO keep k e3 | _ => .fail)
    else .fail)
  else .fail
def mkK2 (l : Bool) (r : Rs W) (keep : Bool) (k : Nat) : Rs W := if l = true then r.bind fun w e3 => (match w with | .d .non => endO keep k e3 | _ => .fail) else .fail
def rf1 (c : Bool) (ws' : Option (List W)) (cs0 : Option (List Cell)) (F : Fd) (L Ln : List Nat) (e : Env) : Rs W := if c = true then
    (match ws', cs0 with
      | some ws', some cs0 => (match mapCs (renW L) cs0 with
        | some cs => (match F ws' cs with
          | .ok w cs2 => (match mapCs (backW (L ++ Ln)) cs2, backW (L ++ Ln) w with
            | some cs3, some w3 => if cs2.length = (L ++ Ln).length then .ok w3 { e with M := upds e.M (L ++ Ln) cs3 } else .fail
            | _, _ => .fail)
          | .exn x cs2 => (match mapCs (backW L) cs2 with
            | some cs3 => if cs2.length = L.length then .exn x { e with M := upds e.M L cs3 } else .fail
            | none => .fail)
          | .fail => .fail)
        | none => .fail)
      | _, _ => .fail)
  else .fail
def rf2 (cs : Option (List Cell)) (ws' : List W) (F : Fd) (L Ln : List Nat) (e : Env) : Rs W := match cs with
        | some cs => (match F ws' cs with
          | .ok w cs2 => (match mapCs (backW (L ++ Ln)) cs2, backW (L ++ Ln) w with
            | some cs3, some w3 => if cs2.length = (L ++ Ln).length then .ok w3 { e with M := upds e.M (L ++ Ln) cs3 } else .fail
            | _, _ => .fail)
          | .exn x cs2 => (match mapCs (backW L) cs2 with
            | some cs3 => if cs2.length = L.length then .exn x { e with M := upds e.M L cs3 } else .fail
            | none => .fail)
          | .fail => .fail)
        | none => .fail
def rf3 (r : CR) (L Ln : List Nat) (e : Env) : Rs W := match r with
          | .ok w cs2 => (match mapCs (backW (L ++ Ln)) cs2, backW (L ++ Ln) w with
            | some cs3, some w3 => if cs2.length = (L ++ Ln).length then .ok w3 { e with M := upds e.M (L ++ Ln) cs3 } else .fail
            | _, _ => .fail)
          | .exn x cs2 => (match mapCs (backW L) cs2 with
            | some cs3 => if cs2.length = L.length then .exn x { e with M := upds e.M L cs3 } else .fail
            | none => .fail)
          | .fail => .fail
def rf4 (cs3 : Option (List Cell)) (w3 : Option W) (l : Bool) (L2 : List Nat) (e : Env) : Rs W := match cs3, w3 with
            | some cs3, some w3 => if l = true then .ok w3 { e with M := upds e.M L2 cs3 } else .fail
            | _, _ => .fail
def rf5 (cs3 : Option (List Cell)) (x : Xn) (l : Bool) (L2 : List Nat) (e : Env) : Rs W := match cs3 with
            | some cs3 => if l = true then .exn x { e with M := upds e.M L2 cs3 } else .fail
            | none => .fail
def sqK (r : SR) (g : Sv) : SR := r.seq g
def ifK (r : Rs Bool) (f g : Sv) : SR := r.to fun k e1 => if k = true then f e1 else g e1
def setK (i : Nat) (r : Rs W) : SR := r.to fun w e' => .nx (e'.setS i (some w))
def retK (r : Rs W) : SR := r.to fun w e' => .rt w e'
def expK (r : Rs W) : SR := r.to fun _ e' => .nx e'
noncomputable def forK (r : Rs Itr) (g : Tg) (fg : List Nat) (body : Sv) : SR := r.to fun a e1 => forD g a.chk body fg a.items e1
def nxO (o : Option Env) : SR := match o with | some e2 => .nx e2 | none => .fail
def sfK (C : Addr) (f : Str) (fo : Ev) (r : Rs W) : SR := r.to fun w e1 => if wl e1 w = true then (fo e1).to fun o e2 => kSetF C f w o e2 else .fail
def sfK2 (C : Addr) (f : Str) (l : Bool) (w : W) (r : Rs W) : SR := if l = true then r.to fun o e2 => kSetF C f w o e2 else .fail
noncomputable def lcK (r : Rs Itr) (g : Tg) (t : Env → Rs Bool) (f : Ev) (k : Nat) (keep : Bool) (vs : List Nat) : Rs W := r.bind fun a e1 =>
  if e1.open k = true then (lcD g a.chk t f k vs a.items (e1.setC k (some (.lst [])))).bind fun _ e2 => endL keep k e2 else .fail
def lcK2 (l : Bool) (r : Rs Unit) (keep : Bool) (k : Nat) : Rs W := if l = true then r.bind fun _ e2 => endL keep k e2 else .fail
def mfK (r : SR) (n x : Nat) : CR := match r with
  | .rt w e => match takeC (max n x) e.M with | some cs' => .ok w cs' | none => .fail
  | .nx e => match takeC (max n x) e.M with | some cs' => .ok (.d .non) cs' | none => .fail
  | .exn x e => match takeC n e.M with | some cs' => .exn x cs' | none => .fail
  | _ => .fail
def okC (o : Option (List Cell)) (w : W) : CR := match o with | some cs' => .ok w cs' | none => .fail
def exC (o : Option (List Cell)) (x : Xn) : CR := match o with | some cs' => .exn x cs' | none => .fail
end
section
variable {α γ : Type} {e : Env} {f g f1 f2 f3 : Ev} {fs : List Ev} {w w1 w2 : W} {ws : List W} {x y : D} {n i k : Nat}
@[simp] theorem slot_mk {ws M np} : Env.slot ⟨ws, M, np⟩ i = (ws[i]?).join := rfl
@[simp] theorem cell_mk {ws M np} : Env.cell ⟨ws, M, np⟩ i = (M[i]?).join := rfl
@[simp] theorem setS_mk {ws M np o} : Env.setS ⟨ws, M, np⟩ i o = ⟨ws.set i o, M, np⟩ := rfl
@[simp] theorem setC_mk {ws M np o} : Env.setC ⟨ws, M, np⟩ i o = ⟨ws, M.set i o, np⟩ := rfl
@[simp] theorem clr_mk {ws M np vs} : Env.clr ⟨ws, M, np⟩ vs = ⟨clrL ws vs, M, np⟩ := rfl
@[simp] theorem clrL_nil {ws} : clrL ws [] = ws := rfl
@[simp] theorem clrL_cons {ws v vs} : clrL ws (v :: vs) = (clrL ws vs).set v none := rfl
@[simp] theorem open_mk {ws M np} : Env.open ⟨ws, M, np⟩ k = (decide (np ≤ k) && (match M[k]? with | some none => true | _ => false) && Env.noRef ⟨ws, M, np⟩ k) := rfl
@[simp] theorem noRef_mk {ws M np} : Env.noRef ⟨ws, M, np⟩ k = ((ws.all fun o => match o with | some w => !isLoc k w | none => true) && (M.all fun o => match o with | some c => !c.refs k | none => true)) := rfl
@[simp] theorem isLoc_d : isLoc n (.d x) = false := rfl
@[simp] theorem isLoc_loc {m} : isLoc n (.loc m) = (m == n) := rfl
@[simp] theorem refs_lst {xs} : Cell.refs n (.lst xs) = false := rfl
@[simp] theorem refs_dic {xs} : Cell.refs n (.dic xs) = false := rfl
@[simp] theorem refs_dct {xs} : Cell.refs n (.dct xs) = false := rfl
@[simp] theorem refs_obj {C fs} : Cell.refs n (.obj C fs) = fs.any fun f => isLoc n f.2 := rfl
@[simp] theorem refs_lw {us} : Cell.refs n (.lw us) = us.any (isLoc n) := rfl
@[simp] theorem eVar_ev : eVar i e = varK (e.slot i) e := rfl
@[simp] theorem varK_some : varK (some w) e = .ok w e := rfl
@[simp] theorem eC_ev : eC x e = .ok (.d x) e := rfl
@[simp] theorem bin2_ev {k : W → W → Env → Rs γ} : bin2 f1 f2 k e = b2a (f1 e) f2 k := rfl
@[simp] theorem b2a_ok {k : W → W → Env → Rs γ} : b2a (.ok w e) f2 k = b2b (wl e w) w (f2 e) k := rfl
@[simp] theorem b2b_ok {k : W → W → Env → Rs γ} : b2b true w1 (.ok w2 e) k = k w1 w2 e := rfl
@[simp] theorem wl_d : wl e (.d x) = true := rfl
@[simp] theorem wl_loc : wl e (.loc n) = (e.cell n).isSome := rfl
@[simp] theorem eOp_ev {g : D → D → Option D} : eOp g f1 f2 e = b2a (f1 e) f2 (kD2 g) := rfl
@[simp] theorem kD2_ev {g : D → D → Option D} : kD2 g (.d x) (.d y) e = okO (g x y) e := rfl
@[simp] theorem okO_some : okO (some x) e = .ok (.d x) e := rfl
@[simp] theorem okW_some : okW (some w) e = .ok w e := rfl
@[simp] theorem bOp_ev {g : D → D → Option Bool} : bOp g f1 f2 e = b2a (f1 e) f2 (kB2 g) := rfl
@[simp] theorem kB2_ev {g : D → D → Option Bool} : kB2 g (.d x) (.d y) e = okB (g x y) e := rfl
@[simp] theorem okB_some {k : Bool} : okB (some k) e = .ok k e := rfl
@[simp] theorem bChain_ev {g g' : D → D → Option Bool} : bChain g g' f1 f2 f3 e = b2a (f1 e) f2 (fun w1 w2 e => (kB2 g w1 w2 e).bind fun k e1 => if k = true then (if wl e1 w2 = true then (f3 e1).bind (kB2 g' w2) else .fail) else .ok false e1) := rfl
@[simp] theorem bAnd_ev {f g : Env → Rs Bool} : bAnd f g e = andK (f e) g := rfl
@[simp] theorem bOr_ev {f g : Env → Rs Bool} : bOr f g e = orK (f e) g := rfl
@[simp] theorem andK_ok {g : Env → Rs Bool} {k : Bool} : andK (.ok k e) g = if k = true then g e else .ok false e := rfl
@[simp] theorem orK_ok {g : Env → Rs Bool} {k : Bool} : orK (.ok k e) g = if k = true then .ok true e else g e := rfl
@[simp] theorem bNot_ev {f : Env → Rs Bool} : bNot f e = notK (f e) := rfl
@[simp] theorem notK_ok {k : Bool} : notK (.ok k e) = .ok (!k) e := rfl
@[simp] theorem bTru_ev : bTru f e = truK (f e) := rfl
@[simp] theorem truK_ok : truK (.ok w e) = kTru w e := rfl
@[simp] theorem kTru_d : kTru (.d x) e = okB (truD x) e := rfl
@[simp] theorem eNeg_ev : eNeg f e = eNegK (f e) := rfl
@[simp] theorem eNegK_ok {k : Int} : eNegK (.ok (.d (.int k)) e) = .ok (.d (.int (-k))) e := rfl
@[simp] theorem eAnd_ev : eAnd f g e = eAndK (f e) g := rfl
@[simp] theorem eAndK_ok {k : Bool} : eAndK (.ok (.d (.bl k)) e) g = if k = true then g e else .ok (.d (.bl false)) e := rfl
@[simp] theorem eOr_ev : eOr f g e = eOrK (f e) g := rfl
@[simp] theorem eOrK_ok {k : Bool} : eOrK (.ok (.d (.bl k)) e) g = if k = true then .ok (.d (.bl true)) e else g e := rfl
@[simp] theorem eIsi_ev {T : String} : eIsi T f e = isiK T (f e) := rfl
@[simp] theorem isiK_ok {T : String} : isiK T (.ok (.d x) e) = okO (isiD T x) e := rfl
@[simp] theorem eFld_ev {C : Addr} {s : Str} : eFld C s f e = fldK C s (f e) := rfl
@[simp] theorem fldK_ok {C : Addr} {s : Str} : fldK C s (.ok w e) = okW (fldO C s w e) e := rfl
@[simp] theorem eIx_ev : eIx f1 f2 e = b2a (f1 e) f2 kIx := rfl
@[simp] theorem kIx_d {i : Int} : kIx (.d x) (.d (.int i)) e = okO (ixDD x i) e := rfl
@[simp] theorem kIx_loc {i : Int} : kIx (.loc n) (.d (.int i)) e = (match e.cell n with | some c => okW (ixC c i) e | none => .fail) := rfl
@[simp] theorem ixC_lst {xs : List D} {i : Int} : ixC (.lst xs) i = (atI xs i).map W.d := by show (match atI xs i with | some d => some (W.d d) | none => none) = _; cases atI xs i <;> rfl
@[simp] theorem evA_nil : evA [] e = .ok [] e := rfl
@[simp] theorem evA_cons : evA (f :: fs) e = eaK (f e) fs := rfl
@[simp] theorem eaK_ok : eaK (.ok w e) fs = ebK (wl e w) w (evA fs e) := rfl
@[simp] theorem ebK_ok : ebK true w (.ok ws e) = .ok (w :: ws) e := rfl
@[simp] theorem eCB_ev {k : List W → Ev} : eCB k fs e = cbK (evA fs e) k := rfl
@[simp] theorem cbK_ok {k : List W → Ev} : cbK (.ok ws e) k = k ws e := rfl
@[simp] theorem k1_ev {g : D → Option D} : k1 g [.d x] e = okO (g x) e := rfl
@[simp] theorem k2_ev {g : D → D → Option D} : k2 g [.d x, .d y] e = okO (g x y) e := rfl
@[simp] theorem kLen_d : kLen [.d x] e = okO (lenD x) e := rfl
@[simp] theorem kLen_loc : kLen [.loc n] e = (match e.cell n with | some c => okO (lenC c) e | none => .fail) := rfl
@[simp] theorem eM_ev {ty : Env → W → Bool} {k : W → List W → Ev} : eM ty k f fs e = meK ty k (f e) fs := rfl
@[simp] theorem meK_ok {ty : Env → W → Bool} {k : W → List W → Ev} : meK ty k (.ok w e) fs = meK2 (ty e w && wl e w) k w (evA fs e) := rfl
@[simp] theorem meK2_ok {k : W → List W → Ev} : meK2 true k w (.ok ws e) = k w ws e := rfl
@[simp] theorem eSl_ev {lo hi : Env → Rs (Option Int)} : eSl f lo hi e = slK (f e) lo hi := rfl
@[simp] theorem slK_ok {lo hi : Env → Rs (Option Int)} : slK (.ok w e) lo hi = slK2 (wl e w) w (lo e) hi := rfl
@[simp] theorem slK2_ok {hi : Env → Rs (Option Int)} {l : Option Int} : slK2 true w (.ok l e) hi = slK3 (wl e w) w l (hi e) := rfl
@[simp] theorem slK3_ok {l h : Option Int} : slK3 true w l (.ok h e) = kSl w l h e := rfl
@[simp] theorem oNone_ev : oNone e = .ok none e := rfl
@[simp] theorem oSome_ev : oSome f e = osK (f e) := rfl
@[simp] theorem osK_ok {i : Int} : osK (.ok (.d (.int i)) e) = .ok (some i) e := rfl
@[simp] theorem kSl_d {lo hi : Option Int} : kSl (.d x) lo hi e = okO (slD x lo hi) e := rfl
@[simp] theorem iL_ev : iL f e = itK (f e) kItL := rfl
@[simp] theorem iS_ev : iS f e = itK (f e) kItS := rfl
@[simp] theorem itK_ok {k : W → Env → Rs Itr} : itK (.ok w e) k = k w e := rfl
@[simp] theorem irK_ok {k : List W → Env → Rs Itr} : irK (.ok ws e) k = k ws e := rfl
@[simp] theorem iRg1_ev : iRg1 f e = irK (evA [f] e) kRng1 := rfl
@[simp] theorem eCall_ev {P F L Ln dvs} : eCall P F L Ln dvs fs e = callK (evA fs e) P F L Ln dvs := rfl
@[simp] theorem callK_ok {P F L Ln dvs} : callK (.ok ws e) P F L Ln dvs = if (ws ++ dvs.map W.d).length = P then runF F L Ln (ws ++ dvs.map W.d) e else .fail := rfl
@[simp] theorem eMake_ev {C P F L Ln keep dvs} : eMake C P F k L Ln keep dvs fs e = mkK (evA fs e) C P F k L Ln keep dvs := rfl
@[simp] theorem mkK_ok {C P F L Ln keep dvs} : mkK (.ok ws e) C P F k L Ln keep dvs = if (W.loc k :: (ws ++ dvs.map W.d)).length = P then mkK2 (e.open k && ws.all fun w => !isLoc k w) (runF F (k :: L) Ln (W.loc k :: (ws ++ dvs.map W.d)) (e.setC k (some (.obj C [])))) keep k else .fail := by
  unfold mkK mkK2
  simp only [Rs.bind]
  split <;> split <;> rfl
@[simp] theorem mkK2_ok {keep : Bool} : mkK2 true (.ok (.d .non) e) keep k = endO keep k e := rfl
@[simp] theorem runF_ev {F L Ln} : runF F L Ln ws e = rf1 (nodup (L ++ Ln) && Ln.all e.open) (mapW (renW L) ws) (cellsOf e L) F L Ln e := rfl
@[simp] theorem rf1_ok {F L Ln cs0} : rf1 true (some ws) (some cs0) F L Ln e = rf2 (mapCs (renW L) cs0) ws F L Ln e := rfl
@[simp] theorem rf2_ok {F L Ln cs} : rf2 (some cs) ws F L Ln e = rf3 (F ws cs) L Ln e := rfl
@[simp] theorem rf3_ok {L Ln cs2} : rf3 (.ok w cs2) L Ln e = rf4 (mapCs (backW (L ++ Ln)) cs2) (backW (L ++ Ln) w) (decide (cs2.length = (L ++ Ln).length)) (L ++ Ln) e := by
  show (match mapCs (backW (L ++ Ln)) cs2, backW (L ++ Ln) w with
            | some cs3, some w3 => if cs2.length = (L ++ Ln).length then Rs.ok w3 { e with M := upds e.M (L ++ Ln) cs3 } else .fail
            | _, _ => .fail) = _
  cases mapCs (backW (L ++ Ln)) cs2 <;> cases backW (L ++ Ln) w <;> simp [rf4]
@[simp] theorem rf3_exn {L Ln cs2} {x : Xn} : rf3 (.exn x cs2) L Ln e = rf5 (mapCs (backW L) cs2) x (decide (cs2.length = L.length)) L e := by
  show (match mapCs (backW L) cs2 with
            | some cs3 => if cs2.length = L.length then Rs.exn x { e with M := upds e.M L cs3 } else .fail
            | none => .fail) = _
  cases mapCs (backW L) cs2 <;> simp [rf5]
@[simp] theorem rf4_ok {L2 cs3} : rf4 (some cs3) (some w) true L2 e = .ok w { e with M := upds e.M L2 cs3 } := rfl
@[simp] theorem rf5_ok {L2 cs3} {x : Xn} : rf5 (some cs3) x true L2 e = .exn x { e with M := upds e.M L2 cs3 } := rfl
@[simp] theorem upds_nil {M cs} : upds M [] cs = M := rfl
@[simp] theorem upds_cons {M n ns c cs} : upds M (n :: ns) (c :: cs) = (upds M ns cs).set n (some c) := rfl
@[simp] theorem nodup_nil : nodup [] = true := rfl
@[simp] theorem nodup_cons {ns} : nodup (n :: ns) = (!ns.contains n && nodup ns) := rfl
@[simp] theorem cellsOf_nil : cellsOf e [] = some [] := rfl
@[simp] theorem cellsOf_cons {ns} : cellsOf e (n :: ns) = (match e.cell n, cellsOf e ns with | some c, some cs => some (c :: cs) | _, _ => none) := rfl
@[simp] theorem mapW_nil {g : W → Option W} : mapW g [] = some [] := rfl
@[simp] theorem mapW_cons {g : W → Option W} : mapW g (w :: ws) = (match g w, mapW g ws with | some w', some ws' => some (w' :: ws') | _, _ => none) := rfl
@[simp] theorem mapCs_nil {g : W → Option W} : mapCs g [] = some [] := rfl
@[simp] theorem mapCs_cons {g : W → Option W} {c cs} : mapCs g (c :: cs) = (match mapCell g c, mapCs g cs with | some c', some cs' => some (c' :: cs') | _, _ => none) := rfl
@[simp] theorem mapCell_lst {g : W → Option W} {xs} : mapCell g (.lst xs) = some (.lst xs) := rfl
@[simp] theorem mapCell_dic {g : W → Option W} {xs} : mapCell g (.dic xs) = some (.dic xs) := rfl
@[simp] theorem mapCell_dct {g : W → Option W} {xs} : mapCell g (.dct xs) = some (.dct xs) := rfl
@[simp] theorem mapCell_obj {g : W → Option W} {C fs} : mapCell g (.obj C fs) = (match mapF g fs with | some fs' => some (.obj C fs') | none => none) := rfl
@[simp] theorem mapF_nil {g : W → Option W} : mapF g [] = some [] := rfl
@[simp] theorem mapF_cons {g : W → Option W} {nm : Str} {r} : mapF g ((nm, w) :: r) = (match g w, mapF g r with | some w', some ws' => some ((nm, w') :: ws') | _, _ => none) := rfl
@[simp] theorem renW_d {L} : renW L (.d x) = some (.d x) := rfl
@[simp] theorem renW_loc {L} : renW L (.loc n) = if n ∈ L then some (.loc (L.idxOf n)) else none := rfl
@[simp] theorem backW_d {L} : backW L (.d x) = some (.d x) := rfl
@[simp] theorem backW_loc {L} : backW L (.loc n) = (match L[n]? with | some n => some (.loc n) | none => none) := rfl
@[simp] theorem sSeq_ev {f g : Sv} : sSeq f g e = sqK (f e) g := rfl
@[simp] theorem sqK_nx {g : Sv} : sqK (.nx e) g = g e := rfl
@[simp] theorem sqK_rt {g : Sv} : sqK (.rt w e) g = .rt w e := rfl
@[simp] theorem sqK_bk {g : Sv} : sqK (.bk e) g = .bk e := rfl
@[simp] theorem sqK_ct {g : Sv} : sqK (.ct e) g = .ct e := rfl
@[simp] theorem sqK_exn {g : Sv} {x : Xn} : sqK (.exn x e) g = .exn x e := rfl
@[simp] theorem sNil_ev : sNil e = .nx e := rfl
@[simp] theorem sIf_ev {t : Env → Rs Bool} {f g : Sv} : sIf t f g e = ifK (t e) f g := rfl
@[simp] theorem ifK_ok {k : Bool} {f g : Sv} : ifK (.ok k e) f g = if k = true then f e else g e := rfl
@[simp] theorem sSet_ev : sSet i f e = setK i (f e) := rfl
@[simp] theorem setK_ok : setK i (.ok w e) = .nx (e.setS i (some w)) := rfl
@[simp] theorem sRet_ev : sRet f e = retK (f e) := rfl
@[simp] theorem retK_ok : retK (.ok w e) = .rt w e := rfl
@[simp] theorem sExpr_ev : sExpr f e = expK (f e) := rfl
@[simp] theorem expK_ok : expK (.ok w e) = .nx e := rfl
@[simp] theorem sFor_ev {it : Env → Rs Itr} {g : Tg} {fg : List Nat} {body : Sv} : sFor it g fg body e = forK (it e) g fg body := rfl
@[simp] theorem forK_ok {a : Itr} {g : Tg} {fg : List Nat} {body : Sv} : forK (.ok a e) g fg body = forD g a.chk body fg a.items e := rfl
@[simp] theorem sWhile_ev {fuel : Env → Nat} {t : Env → Rs Bool} {fg : List Nat} {body : Sv} : sWhile fuel t fg body e = whD t body fg (fuel e) e := rfl
@[simp] theorem nxO_some : nxO (some e) = .nx e := rfl
@[simp] theorem tgName_ev : tgName i x e = some (e.setS i (some (.d x))) := rfl
@[simp] theorem tgL_nil : tgL [] [] e = some e := rfl
@[simp] theorem tgL_cons {g : Tg} {gs : List Tg} {ds : List D} : tgL (g :: gs) (x :: ds) e = (match g x e with | some e1 => tgL gs ds e1 | none => none) := rfl
@[simp] theorem setC_lst {xs : List D} {k : Int} : setC (.lst xs) k (.d y) = (ixN xs.length k).map fun j => Cell.lst (xs.set j y) := by show (match ixN xs.length k with | some j => some (Cell.lst (xs.set j y)) | none => none) = _; cases ixN xs.length k <;> rfl
@[simp] theorem sSetF_ev {C : Addr} {s : Str} {fo fv : Ev} : sSetF C s fo fv e = sfK C s fo (fv e) := rfl
@[simp] theorem sfK_ok {C : Addr} {s : Str} {fo : Ev} : sfK C s fo (.ok w e) = sfK2 C s (wl e w) w (fo e) := rfl
@[simp] theorem sfK2_ok {C : Addr} {s : Str} : sfK2 C s true w1 (.ok w2 e) = kSetF C s w1 w2 e := rfl
@[simp] theorem eLc_ev {it : Env → Rs Itr} {g : Tg} {t : Env → Rs Bool} {f : Ev} {keep : Bool} {vs : List Nat} : eLc it g t f k keep vs e = lcK (it e) g t f k keep vs := rfl
@[simp] theorem lcK_ok {a : Itr} {g : Tg} {t : Env → Rs Bool} {f : Ev} {keep : Bool} {vs : List Nat} : lcK (.ok a e) g t f k keep vs = lcK2 (e.open k) (lcD g a.chk t f k vs a.items (e.setC k (some (.lst [])))) keep k := rfl
@[simp] theorem lcK2_ok {keep : Bool} : lcK2 true (.ok () e) keep k = endL keep k e := rfl
@[simp] theorem mkF_ev {N m r : Nat} {f : Sv} {cs} : mkF N m r f ws cs = mfK (f (env0 N m ws cs)) cs.length r := rfl
@[simp] theorem mfK_rt {n x : Nat} : mfK (.rt w e) n x = okC (takeC (max n x) e.M) w := rfl
@[simp] theorem mfK_nx {n x : Nat} : mfK (.nx e) n x = okC (takeC (max n x) e.M) (.d .non) := rfl
@[simp] theorem mfK_exn {n x : Nat} {z : Xn} : mfK (.exn z e) n x = exC (takeC n e.M) z := rfl
@[simp] theorem okC_some {cs} : okC (some cs) w = .ok w cs := rfl
@[simp] theorem exC_some {cs} {z : Xn} : exC (some cs) z = .exn z cs := rfl
@[simp] theorem takeC_zero {M} : takeC 0 M = some [] := rfl
@[simp] theorem takeC_succ {M c} : takeC (n + 1) (some c :: M) = (match takeC n M with | some cs => some (c :: cs) | none => none) := rfl
theorem atI_nat {l : List α} {n : Nat} : atI l (n : Int) = l[n]? := by
  unfold atI ixN
  by_cases h : n < l.length
  · simp [h]
  · simp [h]
@[simp] theorem atI_0 {a : α} {l : List α} : atI (a :: l) 0 = some a := atI_nat (n := 0)
@[simp] theorem atI_1 {a b : α} {l : List α} : atI (a :: b :: l) 1 = some b := atI_nat (n := 1)
@[simp] theorem atI_2 {a b c : α} {l : List α} : atI (a :: b :: c :: l) 2 = some c := atI_nat (n := 2)
@[simp] theorem atI_3 {a b c d : α} {l : List α} : atI (a :: b :: c :: d :: l) 3 = some d := atI_nat (n := 3)
@[simp] theorem atI_4 {a b c d f : α} {l : List α} : atI (a :: b :: c :: d :: f :: l) 4 = some f := atI_nat (n := 4)
theorem atI_last {l : List α} : atI l (-1) = l[l.length - 1]? := by
  unfold atI ixN
  cases l with
  | nil => simp
  | cons a l =>
    simp
    rw [if_pos (by omega)]
    have e : (-1 + ((l.length : Int) + 1)).toNat = l.length := by omega
    rw [e]
    simp
@[simp] theorem addD_int {i j : Int} : addD (.int i) (.int j) = some (.int (i + j)) := rfl
@[simp] theorem addD_str {i j : Str} : addD (.str i) (.str j) = if i.length + j.length ≤ sizeLine then some (.str (i ++ j)) else none := rfl
@[simp] theorem addD_lst {i j : List D} : addD (.lst i) (.lst j) = if i.length + j.length ≤ sizeLine then some (.lst (i ++ j)) else none := rfl
@[simp] theorem addD_tup {i j : List D} : addD (.tup i) (.tup j) = if i.length + j.length ≤ sizeLine then some (.tup (i ++ j)) else none := rfl
@[simp] theorem subD_int {i j : Int} : subD (.int i) (.int j) = some (.int (i - j)) := rfl
@[simp] theorem addI_int {i j : Int} : addI (.int i) (.int j) = some (.int (i + j)) := rfl
@[simp] theorem mulD_int {i j : Int} : mulD (.int i) (.int j) = if CMul i j then some (.int (i * j)) else none := by
  show (match (if CMul i j then some (i * j) else none) with | some k => some (D.int k) | none => none) = _
  split <;> simp_all
@[simp] theorem mulD_lst {i : List D} {j : Int} : mulD (.lst i) (.int j) = if -(2 ^ 63) ≤ j ∧ j < 2 ^ 63 ∧ i.length * j.toNat ≤ sizeLine then some (.lst (List.replicate j.toNat i).flatten) else none := rfl
theorem intD_if {c : Int → Int → Prop} [∀ i j, Decidable (c i j)] {f : Int → Int → Int} {i j : Int} : intD (fun i j => if c i j then some (f i j) else none) (.int i) (.int j) = if c i j then some (.int (f i j)) else none := by
  show (match (if c i j then some (f i j) else none) with | some k => some (D.int k) | none => none) = _
  split <;> simp_all
@[simp] theorem fdivD_int {i j : Int} : fdivD (.int i) (.int j) = if CDivN i j then some (.int (i.fdiv j)) else none := intD_if
@[simp] theorem modD_int {i j : Int} : modD (.int i) (.int j) = if j ≠ 0 then some (.int (i.fmod j)) else none := intD_if (c := fun _ j => j ≠ 0)
@[simp] theorem powD_int {i j : Int} : powD (.int i) (.int j) = if CPow i j then some (.int (i ^ j.toNat)) else none := intD_if
@[simp] theorem cmpB_int {p : Int → Int → Bool} {i j : Int} : cmpB p (.int i) (.int j) = some (p i j) := rfl
@[simp] theorem ltB_int {i j : Int} : ltB (.int i) (.int j) = some (decide (i < j)) := rfl
@[simp] theorem ltB_str {i j : Str} : ltB (.str i) (.str j) = some (strLt i j) := rfl
@[simp] theorem eqB_int {i j : Int} : eqB (.int i) (.int j) = some (i == j) := rfl
@[simp] theorem eqB_bl {i j : Bool} : eqB (.bl i) (.bl j) = some (i == j) := rfl
@[simp] theorem eqB_str {i j : Str} : eqB (.str i) (.str j) = some (i == j) := rfl
@[simp] theorem neB_ev {x y : D} : neB x y = (eqB x y).map (!·) := by show (match eqB x y with | some b => some (!b) | none => none) = _; cases eqB x y <;> rfl
@[simp] theorem blG_ev {g : D → D → Option Bool} {x y : D} : blG g x y = (g x y).map D.bl := by show (match g x y with | some z => some (D.bl z) | none => none) = _; cases g x y <;> rfl
@[simp] theorem intOf_int {i : Int} : intOf (.int i) = some (.int i) := rfl
@[simp] theorem intOf_bl {i : Bool} : intOf (.bl i) = some (.int (if i then 1 else 0)) := rfl
@[simp] theorem lenD_lst {i : List D} : lenD (.lst i) = some (.int i.length) := rfl
@[simp] theorem lenD_rd {i : List D} : lenD (.rd i) = some (.int i.length) := rfl
@[simp] theorem lenD_tup {i : List D} : lenD (.tup i) = some (.int i.length) := rfl
@[simp] theorem lenD_str {i : Str} : lenD (.str i) = if i.length ≤ sizeLine then some (.int i.length) else none := rfl
@[simp] theorem lenC_lst {i : List D} : lenC (.lst i) = some (.int i.length) := rfl
@[simp] theorem lenC_lw {i : List W} : lenC (.lw i) = some (.int i.length) := rfl
@[simp] theorem ixDD_lst {l : List D} {i : Int} : ixDD (.lst l) i = atI l i := rfl
@[simp] theorem ixDD_rd {l : List D} {i : Int} : ixDD (.rd l) i = atI l i := rfl
@[simp] theorem ixDD_tup {l : List D} {i : Int} : ixDD (.tup l) i = atI l i := rfl
@[simp] theorem slD_lst {l : List D} {i j : Option Int} : slD (.lst l) i j = some (.lst (cutL l i j)) := rfl
@[simp] theorem slD_rd {l : List D} {i j : Option Int} : slD (.rd l) i j = some (.lst (cutL l i j)) := rfl
@[simp] theorem slD_tup {l : List D} {i j : Option Int} : slD (.tup l) i j = some (.tup (cutL l i j)) := rfl
@[simp] theorem isiD_int {T : String} {i : Int} : isiD T (.int i) = (kitB "int" T).map D.bl := by show (match kitB "int" T with | some k => some (D.bl k) | none => none) = _; cases kitB "int" T <;> rfl
@[simp] theorem isiD_bl {T : String} {i : Bool} : isiD T (.bl i) = (kitB "bool" T).map D.bl := by show (match kitB "bool" T with | some k => some (D.bl k) | none => none) = _; cases kitB "bool" T <;> rfl
@[simp] theorem isiD_str {T : String} {i : Str} : isiD T (.str i) = (kitB "str" T).map D.bl := by show (match kitB "str" T with | some k => some (D.bl k) | none => none) = _; cases kitB "str" T <;> rfl
@[simp] theorem isiD_non {T : String} : isiD T .non = (kitB "NoneType" T).map D.bl := by show (match kitB "NoneType" T with | some k => some (D.bl k) | none => none) = _; cases kitB "NoneType" T <;> rfl
@[simp] theorem isiD_lst {T : String} {i : List D} : isiD T (.lst i) = (kitB "list" T).map D.bl := by show (match kitB "list" T with | some k => some (D.bl k) | none => none) = _; cases kitB "list" T <;> rfl
@[simp] theorem isiD_tup {T : String} {i : List D} : isiD T (.tup i) = (kitB "tuple" T).map D.bl := by show (match kitB "tuple" T with | some k => some (D.bl k) | none => none) = _; cases kitB "tuple" T <;> rfl
@[simp] theorem isiD_dic {T : String} {i} : isiD T (.dic i) = (kitB "dict" T).map D.bl := by show (match kitB "dict" T with | some k => some (D.bl k) | none => none) = _; cases kitB "dict" T <;> rfl
@[simp] theorem truD_bl {k : Bool} : truD (.bl k) = some k := rfl
@[simp] theorem truD_int {k : Int} : truD (.int k) = some (k != 0) := rfl
@[simp] theorem truD_lst {l : List D} : truD (.lst l) = some (!l.isEmpty) := rfl
@[simp] theorem truD_non : truD .non = some false := rfl
@[simp] theorem isNB_ev {x : D} : isNB x .non = some (isNoneD x) := rfl
@[simp] theorem notNB_ev {x : D} : notNB x .non = some (!isNoneD x) := rfl
@[simp] theorem toDs_nil : toDs [] = some [] := rfl
@[simp] theorem toDs_d {ws : List W} : toDs (.d x :: ws) = (toDs ws).map (x :: ·) := rfl
@[simp] theorem kDisp_ev {keep : Option Nat} : kDisp keep ws e = if ws.length ≤ sizeLine then
    (match toDs ws with
      | some ds => newL keep ds e
      | none => match keep with
        | some k => if (ws.all fun w => !isLoc k w) = true then newC k (.lw ws) e else .fail
        | none => .fail)
  else .fail := rfl
@[simp] theorem kTup_ev : kTup ws e = if ws.length ≤ sizeLine then
    (match toDs ws with
      | some ds => .ok (.d (.tup ds)) e
      | none => .fail)
  else .fail := rfl
@[simp] theorem newL_none {xs : List D} : newL none xs e = .ok (.d (.lst xs)) e := rfl
@[simp] theorem newL_some {xs : List D} : newL (some k) xs e = newC k (.lst xs) e := rfl
@[simp] theorem newC_ev {c : Cell} : newC k c e = if e.open k = true then .ok (.loc k) (e.setC k (some c)) else .fail := rfl
@[simp] theorem kItL_lst {l : List D} : kItL (.d (.lst l)) e = .ok ⟨l, fun _ => True⟩ e := rfl
@[simp] theorem kItL_rd {l : List D} : kItL (.d (.rd l)) e = .ok ⟨l, fun _ => True⟩ e := rfl
@[simp] theorem kRng1_ev {j : Int} : kRng1 [.d (.int j)] e = if -(2 ^ 62) ≤ j ∧ j < 2 ^ 62 then .ok ⟨rangeL 0 j.toNat, fun _ => True⟩ e else .fail := rfl
theorem sizeL : sizeLine = 16777216 := sizeLine_eq
end
end Dl
end
section
set_option Elab.async false
set_option linter.all false
set_option maxRecDepth 100000
set_option maxHeartbeats 4000000
namespace Dl
open PySem L2
def spLaw (K : PySem.W.Frag) : Sp := fun vs H Q _ => ∃ (a : Addr) (ns : List Int), vs = [.ref a] ∧ SqL K H a (ns.map V.int) ∧ ns.length ≤ 63 ∧ ∀ H', Q (.bl true) H'
theorem law_sp {K : PySem.W.Frag} {F : Fd} (h : ∀ ns : List Int, ns.length ≤ 63 → ∃ cs, F [.d (.rd (ns.map .int))] [] = .ok (.d (.bl true)) cs) : ∀ vs H Q E, spLaw K vs H Q E → spD K 1 F vs H Q E := fun vs H Q E ⟨a, ns, e, hS, hl, q⟩ => by
  subst e
  obtain ⟨cs, hF⟩ := h ns hl
  refine ⟨rfl, H, fun _ => a, [.d (.rd (ns.map .int))], [], Same.refl H, .cons (.rd hS RepL.ints) .nil, fun i c hc => by simp at hc, fun i hi => absurd hi (Nat.not_lt_zero _), fun i j hi => absurd hi (Nat.not_lt_zero _), ?_⟩
  rw [hF]
  intro R' ρ' v H' _ rv
  have rv : Rep K R' (.bl true) v := rv
  cases rv
  exact q H'
/-- a def of which nothing is promised -/
theorem fn_fail {P : Program} {w : World} {K : PySem.W.Frag} {mg : Str → Option Value} {base : Heap} {CX : CXT} {k n : Nat} {f : Addr} {fd : FuncData} {ps : List Str} (h : n = ps.length) : FnOk P w K mg base CX k f fd ps (spD K n (fun _ _ => .fail)) :=
  ⟨fun vs H Q E q => q.1.trans h, fun A outer s H args us vs Q E hr e0 hb r q => by
    obtain ⟨_, _, _, _, _, _, _, _, _, _, z⟩ := q
    exact z.elim⟩
section
variable {g : Tg} {chk : Env → Prop} {body : Sv} {fg : List Nat}
theorem forD_inv (I : Nat → Env → Prop) : ∀ (items : List D) (j : Nat) (e : Env), I j e →
    (∀ i d e, items[i]? = some d → I (j + i) e → chk e ∧ ∃ e1 e2, g d e = some e1 ∧ (body e1 = .nx e2 ∨ body e1 = .ct e2) ∧ I (j + i + 1) (e2.clr fg)) → (∀ e, I (j + items.length) e → chk e) →
    ∃ e', forD g chk body fg items e = .nx e' ∧ I (j + items.length) e'
  | [], j, e, h, _, hc => by
    refine ⟨e, ?_, h⟩
    unfold forD
    rw [if_pos (hc e h)]
  | d :: ds, j, e, h, hs, hc => by
    obtain ⟨h1, e1, e2, h2, h3, h4⟩ := hs 0 d e rfl h
    have h5 : ∃ e', forD g chk body fg ds (e2.clr fg) = .nx e' ∧ I (j + 1 + ds.length) e' := by
      refine forD_inv I ds (j + 1) (e2.clr fg) h4 (fun i d' e' hd hi => ?_) fun e' hi => hc e' ?_
      · have q := hs (i + 1) d' e' (by simpa using hd) (by rw [show j + (i + 1) = j + 1 + i by omega]; exact hi)
        obtain ⟨q1, e3, e4, q2, q3, q4⟩ := q
        exact ⟨q1, e3, e4, q2, q3, by rw [show j + 1 + i + 1 = j + (i + 1) + 1 by omega]; exact q4⟩
      · rw [show j + (d :: ds).length = j + 1 + ds.length by rw [List.length_cons]; omega]; exact hi
    obtain ⟨e', h6, h7⟩ := h5
    refine ⟨e', ?_, by rw [show j + (d :: ds).length = j + 1 + ds.length by rw [List.length_cons]; omega]; exact h7⟩
    unfold forD
    rw [if_pos h1, h2]
    rcases h3 with h3 | h3
    · simp only [h3]; exact h6
    · simp only [h3]; exact h6
/-- a for that goes through: I of the turn and the state -/
theorem for_inv {items : List D} {e : Env} (I : Nat → Env → Prop) (h0 : I 0 e) (hs : ∀ i d e, items[i]? = some d → I i e → chk e ∧ ∃ e1 e2, g d e = some e1 ∧ (body e1 = .nx e2 ∨ body e1 = .ct e2) ∧ I (i + 1) (e2.clr fg)) (hc : ∀ e, I items.length e → chk e) :
    ∃ e', forD g chk body fg items e = .nx e' ∧ I items.length e' := by
  have q := forD_inv (g := g) (chk := chk) (body := body) (fg := fg) I items 0 e h0 (fun i d e hd hi => by
    rw [Nat.zero_add] at hi ⊢
    exact hs i d e hd hi) (fun e hi => hc e (by rw [Nat.zero_add] at hi; exact hi))
  rwa [Nat.zero_add] at q
theorem lcD_inv {t : Env → Rs Bool} {f : Ev} {k : Nat} {vs : List Nat} (I : Nat → Env → Prop) : ∀ (items : List D) (j : Nat) (e : Env), I j e →
    (∀ i d e, items[i]? = some d → I (j + i) e → chk e ∧ ∃ e1, g d (e.clr vs) = some e1 ∧
      ((∃ e2 w e3 e4, t e1 = .ok true e2 ∧ f e2 = .ok w e3 ∧ pushK k w e3 = some e4 ∧ I (j + i + 1) (e4.clr vs)) ∨ ∃ e2, t e1 = .ok false e2 ∧ I (j + i + 1) (e2.clr vs))) → (∀ e, I (j + items.length) e → chk e) →
    ∃ e', lcD g chk t f k vs items e = .ok () e' ∧ I (j + items.length) e'
  | [], j, e, h, _, hc => by
    refine ⟨e, ?_, h⟩
    unfold lcD
    rw [if_pos (hc e h)]
  | d :: ds, j, e, h, hs, hc => by
    obtain ⟨h1, e1, h2, h3⟩ := hs 0 d e rfl h
    have go : ∀ e5, I (j + 1) e5 → ∃ e', lcD g chk t f k vs ds e5 = .ok () e' ∧ I (j + 1 + ds.length) e' := fun e5 h4 => by
      refine lcD_inv I ds (j + 1) e5 h4 (fun i d' e' hd hi => ?_) fun e' hi => hc e' ?_
      · have q := hs (i + 1) d' e' (by simpa using hd) (by rw [show j + (i + 1) = j + 1 + i by omega]; exact hi)
        rw [show j + (i + 1) + 1 = j + 1 + i + 1 by omega] at q
        exact q
      · rw [show j + (d :: ds).length = j + 1 + ds.length by rw [List.length_cons]; omega]; exact hi
    rcases h3 with ⟨e2, w, e3, e4, q1, q2, q3, q4⟩ | ⟨e2, q1, q4⟩
    · obtain ⟨e', h6, h7⟩ := go _ q4
      refine ⟨e', ?_, by rw [show j + (d :: ds).length = j + 1 + ds.length by rw [List.length_cons]; omega]; exact h7⟩
      unfold lcD
      rw [if_pos h1, h2]
      simp only [q1, Rs.bindF, if_true, q2, q3]
      exact h6
    · obtain ⟨e', h6, h7⟩ := go _ q4
      refine ⟨e', ?_, by rw [show j + (d :: ds).length = j + 1 + ds.length by rw [List.length_cons]; omega]; exact h7⟩
      unfold lcD
      rw [if_pos h1, h2]
      simp only [q1, Rs.bindF]
      rw [if_neg Bool.false_ne_true]
      exact h6
theorem lc_inv {t : Env → Rs Bool} {f : Ev} {k : Nat} {vs : List Nat} {items : List D} {e : Env} (I : Nat → Env → Prop) (h0 : I 0 e)
    (hs : ∀ i d e, items[i]? = some d → I i e → chk e ∧ ∃ e1, g d (e.clr vs) = some e1 ∧
      ((∃ e2 w e3 e4, t e1 = .ok true e2 ∧ f e2 = .ok w e3 ∧ pushK k w e3 = some e4 ∧ I (i + 1) (e4.clr vs)) ∨ ∃ e2, t e1 = .ok false e2 ∧ I (i + 1) (e2.clr vs))) (hc : ∀ e, I items.length e → chk e) :
    ∃ e', lcD g chk t f k vs items e = .ok () e' ∧ I items.length e' := by
  have q := lcD_inv (g := g) (chk := chk) (t := t) (f := f) (k := k) (vs := vs) I items 0 e h0 (fun i d e hd hi => by
    rw [Nat.zero_add] at hi ⊢
    exact hs i d e hd hi) (fun e hi => hc e (by rw [Nat.zero_add] at hi; exact hi))
  rwa [Nat.zero_add] at q
end
end Dl
end
section
set_option Elab.async false
set_option linter.all false
set_option maxRecDepth 100000
set_option maxHeartbeats 4000000
namespace Dl
open PySem L2
/-- the end over a head by facts: the context may hang on the world -/
theorem walkE {l : PySem.W.OpenLaw} {q : Program} {loose : List Str} {XP : (Str → Option Value) → Heap → Prop} {YP : World → Heap → Prop} {d : DefRec} {k : Nat} {x : Str} (hn : l.most = some 63) (hdf : d.params.defaults = []) (hr : Room k callerA)
    (F : ∀ (w : World) (mg : Str → Option Value) (fa : Addr) (h : Heap), YP w h → h.Ns mainGlobals mg → mg d.name = some (.ref fa) →
      ∃ (K : PySem.W.Frag) (fd : FuncData), K.In h ∧ (∀ (s : Shared) (u : Value), BindsTo s fd ⟨[u], []⟩ [(x, u)]) ∧
        ∀ base : Heap, K.In base → base.Ns mainGlobals mg → FnOk l.prog w K mg base (L2.CX l.prog w) k fa fd [x] (spLaw K)) :
    PySem.W.WalkO q loose XP YP l.row.toRowW d [] (fun f vs => PySem.call f vs) := by
  refine Att.attach_call hn hdf fun w s₀ s₁ mg mb fa o pm cd doc a vs ns G Y ho hd hcd hmg hobj hints hlen hg => ?_
  obtain ⟨K, fd, KX, hb, hF⟩ := F w mg fa _ Y G.T.g hmg
  exact L2.law_call KX G.T.g G.T.b G.T.builtins G.T.nolimit hg hobj hints (Nat.le_trans hlen (by decide)) hr hF hb (fun H hO hS => ⟨a, ns, rfl, hS, hlen, fun _ => rfl⟩) fun H e s' h => by
    obtain ⟨_, _, _, _, _, _, _, _, _, _, _, _, z⟩ := h
    exact z
theorem binds_one {K : PySem.W.Frag} {x qual p : Str} {params : Arguments} {body : List Stmt} {scope : Scope} {kws : List (Str × V)} {f : Addr} {fd : FuncData} (F : FunD K x qual params body scope [] kws f fd)
    (h : ∀ (kV doc pm : Value) (an : Option Addr) (cdv ct : Value) (us : List Value), us.length = 1 → bindArgs (PySem.W.fnOf x qual params body scope .none kV doc pm an cdv ct) ⟨us, []⟩ = pure ([p].zip us)) : ∀ (s : Shared) (u : Value), BindsTo s fd ⟨[u], []⟩ [(p, u)] := fun s u => F.bindsA (ps := [p]) h s [u] rfl
end Dl
end
section
set_option Elab.async false
set_option linter.all false
set_option maxRecDepth 100000
set_option maxHeartbeats 4000000
namespace Dl
open PySem L2
section
variable {e : Env} {w w1 w2 : W} {ws : List W} {x y : D} {n i k : Nat} {keep : Option Nat}
@[simp] theorem kItL_loc : kItL (.loc n) e = (match e.cell n with
    | some (.lst xs) => .ok ⟨xs, fun e' => e'.cell n = some (.lst xs) ∧ n < e'.np⟩ e
    | _ => .fail) := rfl
@[simp] theorem kSl_loc {lo hi : Option Int} : kSl (.loc n) lo hi e = (match e.cell n with | some (.lst xs) => .ok (.d (.lst (cutL xs lo hi))) e | _ => .fail) := rfl
@[simp] theorem kAppend_ev : kAppend (.loc n) [w] e = (match e.cell n with
    | some c => match pushC c w with
      | some c' => .ok (.d .non) (e.setC n (some c'))
      | none => .fail
    | none => .fail) := rfl
@[simp] theorem pushC_d {xs : List D} : pushC (.lst xs) (.d y) = if xs.length < sizeLine then some (.lst (xs ++ [y])) else none := rfl
@[simp] theorem isLst_loc : isLst e (.loc n) = (match e.cell n with | some (.lst _) => true | some (.lw _) => true | _ => false) := rfl
@[simp] theorem kSetF_ev {C : Addr} {f : Str} : kSetF C f w (.loc n) e = (match e.cell n with
    | some (.obj C' fs) => if C' = C ∧ fs.length < 1000 then .nx (e.setC n (some (.obj C' (putW f w fs)))) else .fail
    | _ => .fail) := rfl
@[simp] theorem putW_nil {f : Str} : putW f w [] = [(f, w)] := rfl
@[simp] theorem putW_cons {f g : Str} {r} : putW f w ((g, w1) :: r) = if g = f then (g, w) :: r else (g, w1) :: putW f w r := rfl
@[simp] theorem fldO_loc {C : Addr} {f : Str} : fldO C f (.loc n) e = (match e.cell n with | some (.obj C' fs) => if C' = C then fs.lookup f else none | _ => none) := rfl
@[simp] theorem fldO_obj {C C' : Addr} {f : Str} {fs} : fldO C f (.d (.obj C' fs)) e = if C' = C then (match fs.lookup f with | some d => some (.d d) | none => none) else none := rfl
theorem lookup_if {α : Type} {f g : Str} {a : α} {r : List (Str × α)} : List.lookup f ((g, a) :: r) = if f = g then some a else r.lookup f := by
  rw [List.lookup]
  by_cases h : f = g
  · subst h; simp
  · rw [if_neg h]
    have : (f == g) = false := by simp [h]
    rw [this]
@[simp] theorem insD_obj {C C' : Addr} {mn : Str} {fs} : insD C mn e (.d (.obj C' fs)) = (decide (C' = C) && hasNo mn fs) := rfl
@[simp] theorem insD_loc {C : Addr} {mn : Str} : insD C mn e (.loc n) = (match e.cell n with | some (.obj C' fs) => decide (C' = C) && hasNo mn fs | _ => false) := rfl
@[simp] theorem hasNo_nil {α : Type} {mn : Str} : hasNo mn ([] : List (Str × α)) = true := rfl
theorem hasNo_if {α : Type} {mn g : Str} {a : α} {r : List (Str × α)} : hasNo mn ((g, a) :: r) = (!decide (g = mn) && hasNo mn r) := by
  show (!(g == mn) && hasNo mn r) = _
  by_cases h : g = mn
  · subst h; simp
  · simp [h]
@[simp] theorem frz_ev {ws M np} : frz k ⟨ws, M, np⟩ = if np ≤ k then
    (match Env.cell ⟨ws, M, np⟩ k with
    | some c => match c.toD with
      | some x => some ⟨mapO (substW k x) ws, (mapO (Cell.subst k x) M).set k none, np⟩
      | none => none
    | none => none)
  else none := rfl
@[simp] theorem mapO_nil {α β : Type} {f : α → β} : mapO f [] = [] := rfl
@[simp] theorem mapO_some {α β : Type} {f : α → β} {a r} : mapO f (some a :: r) = some (f a) :: mapO f r := rfl
@[simp] theorem mapO_none {α β : Type} {f : α → β} {r} : mapO f (none :: r) = none :: mapO f r := rfl
@[simp] theorem substW_loc {x} : substW k x (.loc n) = if n = k then .d x else .loc n := rfl
@[simp] theorem substW_d {x y} : substW k x (.d y) = .d y := rfl
@[simp] theorem subst_obj {x C fs} : Cell.subst k x (.obj C fs) = .obj C (fs.map fun f => (f.1, substW k x f.2)) := rfl
@[simp] theorem subst_lw {x us} : Cell.subst k x (.lw us) = .lw (us.map (substW k x)) := rfl
@[simp] theorem subst_lst {x xs} : Cell.subst k x (.lst xs) = .lst xs := rfl
@[simp] theorem toD_lst {xs} : Cell.toD (.lst xs) = some (.lst xs) := rfl
@[simp] theorem toD_obj {C fs} : Cell.toD (.obj C fs) = (toDf fs).map (.obj C) := rfl
@[simp] theorem toDf_nil : toDf [] = some [] := rfl
@[simp] theorem toDf_d {f : Str} {r} : toDf ((f, .d x) :: r) = (toDf r).map ((f, x) :: ·) := rfl
@[simp] theorem endO_true : endO true k e = .ok (.loc k) e := rfl
@[simp] theorem endO_false : endO false k e = (match e.cell k with
  | some c => (match c.toD with | some x => if e.np ≤ k then .ok (.d x) (e.setC k none) else .fail | none => .fail)
  | none => .fail) := rfl
@[simp] theorem endL_ev {kp : Bool} : endL kp k e = (match e.cell k with
  | some (.lst xs) => if kp = true then .ok (.loc k) e else .ok (.d (.lst xs)) (e.setC k none)
  | _ => .fail) := rfl
@[simp] theorem pushK_ev : pushK k (.d y) e = (match e.cell k with | some (.lst acc) => if acc.length < sizeLine then some (e.setC k (some (.lst (acc ++ [y])))) else none | _ => none) := by
  unfold pushK
  cases e.cell k with
  | none => rfl
  | some c => cases c <;> rfl
end
section
end
end Dl
end
section
set_option Elab.async false
set_option linter.all false
set_option maxRecDepth 100000
set_option maxHeartbeats 4000000
namespace Dl
open PySem L2
def spXI (C : Addr) (f : Str) : Sp := fun vs H Q _ => ∃ (a : Addr) (v : V), vs = [.ref a, v] ∧ H a = some (exo a C none) ∧ ∀ dx, H dx = none → dx ≠ a → Q .non (upd (upd H dx (exd dx [(f, v)])) a (exo a C (some dx)))
structure XCls (K : PySem.W.Frag) (C fI : Addr) (f : Str) : Prop where
  ox : OexC K C
  no : PySem.W.findIn K (.ref C) f = some none
  iC : PySem.W.findIn K (.ref C) "__init__" = some (some (.ref fI))
  tI : PySem.W.typeIn K (.ref fI) = some (.type "function")
def sRaise (C : Addr) (f : Str) (g : Ev) : Sv := fun e => match g e with
  | .ok (.d x) e1 => .exn ⟨C, some [(f, x)]⟩ e1
  | .exn x e1 => .exn x e1
  | _ => .fail
theorem del_upd {H1 : Hp} {a dx : Addr} {o1 o2 o3 o4 : HO} (na : H1 a = none) (hne : dx ≠ a) : upd (del (upd (upd (upd H1 a o1) dx o2) a o3) a) dx o4 = upd H1 dx o4 := by
  funext b
  by_cases h : b = dx
  · subst h
    rw [upd_same, upd_same]
  · rw [upd_ne h, upd_ne h]
    by_cases h2 : b = a
    · subst h2
      rw [del_same, na]
    · rw [del_ne h2, upd_ne h2, upd_ne h, upd_ne h2]
theorem passF {X : Cx} : Passes (L2.CX X.prog X.w) X (fun _ _ _ => False) := fun _ _ _ _ _ _ _ h => by
  obtain ⟨_, _, _, _, _, _, _, _, _, _, _, _, z⟩ := h
  exact z.elim
section
variable {X : Cx} {Wx : WX} {a : Expr} {pos pos2 p : Pos} {g : Ev} {C fI : Addr} {f cn : Str} {k : Nat} {fd : FuncData} {ps : List Str} {CX : CXT}
theorem s_raise (hc : X.calm = true) (T : XCls X.K C fI f) (F1 : FnOk X.prog X.w X.K X.mg X.base CX k fI fd ps (spXI C f)) (hr : Room (k + 1) X.A) (hb : Binds X.K fd ps []) (hx : Passes CX X (fun _ _ _ => False)) (tk : L2.Takes X Wx)
    (hg : Gl X cn) (hm : X.mg cn = some (.ref C)) (ha : PE X a (tD X.K Wx g)) (hdb : (cn == ("__debug__" : Str)) = false := by decide)
    (he : starEach [a] X.env = (false, eval a X.env) :: starEach [] X.env := by rfl) (hpl : (backTo pos (starEach [] X.env)).any (·.1) = false := by rfl) :
    PS X (.Raise (some (.Call (.Name cn p) [a] [] pos)) none pos2) (tS X.K Wx (sRaise C f g)) :=
  (ps_raise hc tk (pmk_oex T.ox T.iC T.tI F1 hr hb .nil hx hg hm (a_cons ha a_nil he) hdb he hpl)).imp fun D σ H h => by
    obtain ⟨b, R, ρ, e, m, q⟩ := h
    refine ⟨b, R, ρ, e, m, ?_⟩
    unfold sRaise at q
    cases hge : g e with
    | fail => rw [hge] at q; exact q.elim
    | exn x e1 =>
      rw [hge] at q
      have e2 : evA [g] e = .exn x e1 := by
        rw [evA_cons, hge]
        rfl
      rw [e2]
      exact q
    | ok w e1 =>
      rw [hge] at q
      cases w with
      | loc n => exact q.elim
      | d x =>
        have e2 : evA [g] e = .ok [.d x] e1 := by
          rw [evA_cons, hge]
          rfl
        rw [e2]
        intro R' ρ' vs H1 s l m' r
        obtain ⟨v, ev, rv⟩ := pair1 r
        subst ev
        have rv : Rep X.K R' x v := rv
        refine ⟨by simp, fun a na => ⟨a, v, rfl, upd_same, fun dx hdx hne => ⟨rfl, dx, [(f, v)], upd_same, by rw [upd_ne hne, upd_same], by rw [upd_ne hne] at hdx; exact hdx, ?_⟩⟩⟩
        have hd1 : H1 dx = none := by rw [upd_ne hne] at hdx; exact hdx
        show Wx (.ref C) (some dx) σ (upd (del (upd (upd (upd H1 a _) dx _) a _) a) dx (.xd [(f, v)]))
        rw [del_upd na hne]
        have sm : Same R' (upd R' dx (.xd [(f, v)])) := same_upd (m'.freshR hd1)
        exact q _ ρ' σ _ _ _ (s.trans sm) (m'.freshD hd1 _) ⟨rfl, dx, [(f, v)], rfl, upd_same, rfl, .cons (Rep.mono sm rv) .nil⟩
/-- return n.f -/
def kFld (f : Str) : List (Str × D) → Option D := fun fs => fs.lookup f
end
section
variable {P : Program} {w : World} {K : PySem.W.Frag} {mg : Str → Option Value} {base : Heap} {x qual self pn f : Str} {params : Arguments} {body : List Stmt} {scope : Scope} {kws : List (Str × V)} {C fI : Addr} {fd : FuncData}
theorem fnX_ok (F : FunD K x qual params body scope [] kws fI fd) (S : FnScope [self, pn] [self, pn] scope) (T : XCls K C fI f)
    (hb : ∀ (cdv : Value) (A : Around) (outer : List PySem.Env) (s : Shared) (H : Hp) (E : XK), PSs (cxOf (L2.CX P w) P w K mg base [self, pn] qual scope fI cdv A outer s H E) body (tOst K f (tVar 0) (tVar 1))) :
    FnOk P w K mg base (L2.CX P w) 1 fI fd [self, pn] (spXI C f) := by
  refine F.ok (k := 0) (CX := L2.CX P w) S (fun vs H Q E h => ?_) (fun cdv A outer s H vs Q E hr h => ⟨_, hb cdv A outer s H E, ?_⟩)
  · obtain ⟨a, v, rfl, _⟩ := h
    rfl
  · obtain ⟨a, v, rfl, ha, q⟩ := h
    exact ⟨v, rfl, .ref a, rfl, a, C, rfl, T.ox, T.no, .inl ⟨ha, fun dx n ne => q dx n ne⟩⟩
end
end Dl
end
section
set_option Elab.async false
set_option linter.all false
set_option maxRecDepth 100000
set_option maxHeartbeats 4000000
namespace Dl
open PySem L2
def oexB (K : PySem.W.Frag) (C : Addr) : Bool := match K.lookup C with
  | some ⟨.type "type", _, .cls cd, sl⟩ => (match cd.mro, sl.toList with
    | .ref C' :: bm, [_, _, _, _, some (.builtin n), _] => C' == C && n == "ValueError.__new__" && !cd.hasDel && cd.hasDict && PySem.HandSPX.refsVE bm
    | _, _ => false)
  | _ => false
theorem oexB_ok {K : PySem.W.Frag} {C : Addr} (q : oexB K C = true) : ∃ nm q N bs bm sn sub ab col dd k0 k1 k2 k3 k5, K.lookup C = some (PySem.excClassObj nm q C N bs bm true sn sub ab col dd k0 k1 k2 k3 k5 "ValueError.__new__") ∧ PySem.HandSPX.refsVE bm = true := by
  unfold oexB at q
  split at q
  · rename_i dd cd sl ho
    split at q
    · rename_i C' bm k0 k1 k2 k3 n k5 hm hs
      simp only [Bool.and_eq_true, beq_iff_eq, Bool.not_eq_true'] at q
      obtain ⟨⟨⟨⟨rfl, rfl⟩, hdel⟩, hdc⟩, ht⟩ := q
      obtain ⟨nm, bs, mro, ns, qn, hd, sn, sub, ab, col, del⟩ := cd
      dsimp only at hm hdel hdc
      subst hm hdel hdc
      have hsl : sl = #[k0, k1, k2, k3, some (.builtin "ValueError.__new__"), k5] := by
        obtain ⟨l⟩ := sl
        simp only at hs
        rw [hs]
      subst hsl
      exact ⟨nm, qn, ns, bs, bm, sn, sub, ab, col, dd, k0, k1, k2, k3, k5, ho, ht⟩
    · cases q
  · cases q
/-- class x with an __init__ that stores the field f -/
def xB (K : PySem.W.Frag) (x f : Str) : Bool := oexB K (He.ga K x) && (He.eqO (PySem.W.findIn K (.ref (He.ga K x)) "__setattr__") (some (some (.builtin "object.__setattr__"))) &&
  (decide (PySem.W.subIn K (.ref (He.ga K x)) (.type "BaseException") = some true) && (decide (PySem.W.typeIn K (.ref (He.ga K x)) = some (.type "type")) && (PySem.W.keepIn K (.ref (He.ga K x)) &&
  (He.eqO (PySem.W.findIn K (.ref (He.ga K x)) f) (some none) && (He.eqO (PySem.W.findIn K (.ref (He.ga K x)) "__init__") (some (some (.ref (He.ma K (He.ga K x) "__init__")))) &&
  (decide (PySem.W.typeIn K (.ref (He.ma K (He.ga K x) "__init__")) = some (.type "function")) && (xfB K (He.ga K x) && (decide (PySem.W.exmOne K (.ref (He.ga K x)) (.ref (He.ga K x)) = some true) && decide (PySem.W.kitOne K (.ref (He.ga K x)) (.type "ValueError") = some true))))))))))
abbrev AlX : Type := Bool × He.AlD
def obsX (xs : List (Str × Str)) (fa : List He.Fa) (fn : List He.DefD) (K : PySem.W.Frag) : AlX := (xs.all fun x => xB K x.1 x.2, He.obsD fa fn K)
def valX (fn : List He.DefD) : AlX := (true, He.valD fn)
def SaysX (xs : List (Str × Str)) (fa : List He.Fa) (fn : List He.DefD) (K : PySem.W.Frag) : Prop := obsX xs fa fn K = valX fn
theorem SaysX.d {xs : List (Str × Str)} {fa : List He.Fa} {fn : List He.DefD} {K : PySem.W.Frag} (c : SaysX xs fa fn K) : He.SaysD fa fn K := congrArg (fun z : AlX => z.2) c
theorem SaysX.x {xs : List (Str × Str)} {fa : List He.Fa} {fn : List He.DefD} {K : PySem.W.Frag} (c : SaysX xs fa fn K) (i : Nat) {x : Str × Str} (h : xs[i]? = some x := by rfl) : xB K x.1 x.2 = true := by
  have c1 : (xs.all fun x => xB K x.1 x.2) = true := congrArg (fun z : AlX => z.1) c
  exact List.all_eq_true.mp c1 x (List.mem_of_getElem? h)
end Dl
end
section
set_option Elab.async false
set_option linter.all false
set_option maxRecDepth 100000
set_option maxHeartbeats 4000000
namespace Dl
open PySem PySem.Spec PySem.Calls PyProof.Rows PySem.W
end Dl
end
section
set_option Elab.async false
set_option linter.all false
set_option maxRecDepth 100000
set_option maxHeartbeats 4000000
namespace Dl
open PySem L2
end Dl
end
section
set_option Elab.async false
set_option linter.all false
set_option maxRecDepth 100000
set_option maxHeartbeats 4000000
namespace Dl
open PySem L2
def xrK (C : Addr) (f : Str) (r : Rs W) : SR := match r with
  | .ok (.d x) e1 => .exn ⟨C, some [(f, x)]⟩ e1
  | .exn x e1 => .exn x e1
  | _ => .fail
section
variable {C : Addr} {f : Str} {i : Nat} {k : List (Str × D) → Option D} {g : Ev} {fb : Sv} {e : Env} {x : D} {w : W} {z : Xn}
@[simp] theorem sRaise_ev : sRaise C f g e = xrK C f (g e) := rfl
@[simp] theorem xrK_ok : xrK C f (.ok (.d x) e) = .exn ⟨C, some [(f, x)]⟩ e := rfl
end
section
end
end Dl
end
section
set_option Elab.async false
set_option linter.all false
set_option maxRecDepth 100000
set_option maxHeartbeats 4000000
namespace Dl
open PySem L2
section
variable {X : Cx} {Wx : WX} {a c tg : Expr} {st : Stmt} {pos : Pos}
/-- a ghost step behind: a cell is frozen -/
def sThen (k : Nat) (f : Sv) : Sv := fun e => match f e with
  | .nx e1 => (match frz k e1 with | some e2 => .nx e2 | none => .fail)
  | r => r
theorem s_then {k : Nat} {f : Sv} (h : PS X st (tS X.K Wx f)) : PS X st (tS X.K Wx (sThen k f)) := h.imp fun D σ H ⟨b, R, ρ, e, m, q⟩ => by
  refine ⟨b, R, ρ, e, m, ?_⟩
  unfold sThen at q
  cases hf : f e with
  | nx e1 =>
    rw [hf] at q
    cases hz : frz k e1 with
    | none => simp only [hz] at q; exact q.elim
    | some e2 =>
      simp only [hz] at q
      intro R' ρ' σ' H' s' m'
      obtain ⟨R2, s2, m2⟩ := m'.frz hz
      exact q R2 ρ' σ' H' (s'.trans s2) m2
  | rt w e1 => rw [hf] at q; exact q
  | bk e1 => rw [hf] at q; exact q
  | ct e1 => rw [hf] at q; exact q
  | exn x e1 => rw [hf] at q; exact q
  | fail => rw [hf] at q; exact q
end
section
variable {α γ : Type} {e : Env} {f f1 f2 : Ev} {w : W} {x y : D} {n k : Nat} {sv : Sv}
def thK (k : Nat) (r : SR) : SR := match r with
  | .nx e1 => nxO (frz k e1)
  | r => r
@[simp] theorem sThen_ev : sThen k sv e = thK k (sv e) := rfl
@[simp] theorem thK_nx : thK k (.nx e) = nxO (frz k e) := rfl
@[simp] theorem thK_rt : thK k (.rt w e) = .rt w e := rfl
@[simp] theorem thK_exn {z : Xn} : thK k (.exn z e) = .exn z e := rfl
end
def turnK (fg : List Nat) (r : SR) : SR := match r with
  | .nx e => .nx (e.clr fg)
  | .ct e => .nx (e.clr fg)
  | r => r
@[simp] theorem turnK_nx {fg : List Nat} {e : Env} : turnK fg (.nx e) = .nx (e.clr fg) := rfl
@[simp] theorem turnK_ct {fg : List Nat} {e : Env} : turnK fg (.ct e) = .nx (e.clr fg) := rfl
@[simp] theorem turnK_rt {fg : List Nat} {e : Env} {w : W} : turnK fg (.rt w e) = .rt w e := rfl
@[simp] theorem turnK_bk {fg : List Nat} {e : Env} : turnK fg (.bk e) = .bk e := rfl
@[simp] theorem turnK_exn {fg : List Nat} {e : Env} {x : Xn} : turnK fg (.exn x e) = .exn x e := rfl
def turnO (fg : List Nat) (o : Option Env) (body : Sv) : SR := match o with
  | some e1 => turnK fg (body e1)
  | none => .fail
@[simp] theorem turnO_some {fg : List Nat} {e : Env} {body : Sv} : turnO fg (some e) body = turnK fg (body e) := rfl
/-- one turn of a for -/
def turn (g : Tg) (body : Sv) (fg : List Nat) (d : D) (e : Env) : SR := turnO fg (g d e) body
@[simp] theorem turn_ev {g : Tg} {body : Sv} {fg : List Nat} {d : D} {e : Env} : turn g body fg d e = turnO fg (g d e) body := rfl
theorem turn_nx {g : Tg} {body : Sv} {fg : List Nat} {d : D} {e e' : Env} (h : turn g body fg d e = .nx e') : ∃ e1 e2, g d e = some e1 ∧ (body e1 = .nx e2 ∨ body e1 = .ct e2) ∧ e2.clr fg = e' := by
  unfold turn turnO at h
  cases hg : g d e with
  | none => rw [hg] at h; cases h
  | some e1 =>
    rw [hg] at h
    have h : turnK fg (body e1) = .nx e' := h
    cases hb : body e1 with
    | nx e2 => rw [hb] at h; cases h; exact ⟨e1, e2, rfl, .inl hb, rfl⟩
    | ct e2 => rw [hb] at h; cases h; exact ⟨e1, e2, rfl, .inr hb, rfl⟩
    | rt w e2 => rw [hb] at h; cases h
    | bk e2 => rw [hb] at h; cases h
    | exn x e2 => rw [hb] at h; cases h
    | fail => rw [hb] at h; cases h
section
variable {it : Env → Rs Itr} {g : Tg} {fg : List Nat} {body : Sv} {items : List D} {chk : Env → Prop}
/-- a for whose states are told by the turn -/
theorem for_e (E : Nat → Env) {e0 e' : Env} (hit : it e0 = .ok ⟨items, chk⟩ (E 0)) (hs : ∀ i d, items[i]? = some d → chk (E i) ∧ turn g body fg d (E i) = .nx (E (i + 1))) (hc : chk (E items.length)) (he : E items.length = e' := by rfl) :
    sFor it g fg body e0 = .nx e' := by
  subst he
  unfold sFor
  rw [hit]
  show forD g chk body fg items (E 0) = _
  obtain ⟨e', h1, h2⟩ := for_inv (g := g) (chk := chk) (body := body) (fg := fg) (items := items) (e := E 0) (fun i e => e = E i) rfl (fun i d e hd he => by
    subst he
    obtain ⟨h1, h2⟩ := hs i d hd
    obtain ⟨e1, e2, q1, q2, q3⟩ := turn_nx h2
    exact ⟨h1, e1, e2, q1, q2, q3⟩) (fun e he => by subst he; exact hc)
  rw [h1, h2]
/-- a for with an invariant over some state S -/
theorem for_i {S : Type} (E : S → Env) (I : Nat → S → Prop) (s0 : S) {e0 : Env} (hit : it e0 = .ok ⟨items, chk⟩ (E s0)) (h0 : I 0 s0)
    (hs : ∀ i d s, items[i]? = some d → I i s → chk (E s) ∧ ∃ s', turn g body fg d (E s) = .nx (E s') ∧ I (i + 1) s') (hc : ∀ s, I items.length s → chk (E s)) :
    ∃ s, sFor it g fg body e0 = .nx (E s) ∧ I items.length s := by
  unfold sFor
  rw [hit]
  show ∃ s, forD g chk body fg items (E s0) = _ ∧ _
  obtain ⟨e', h1, s, rfl, h2⟩ := for_inv (g := g) (chk := chk) (body := body) (fg := fg) (items := items) (e := E s0) (fun i e => ∃ s, e = E s ∧ I i s) ⟨s0, rfl, h0⟩ (fun i d e hd he => by
    obtain ⟨s, rfl, hi⟩ := he
    obtain ⟨h1, s', h2, h3⟩ := hs i d s hd hi
    obtain ⟨e1, e2, q1, q2, q3⟩ := turn_nx h2
    exact ⟨h1, e1, e2, q1, q2, s', q3, h3⟩) (fun e he => by obtain ⟨s, rfl, hi⟩ := he; exact hc s hi)
  exact ⟨s, h1, h2⟩
end
section
variable {t : Env → Rs Bool} {fg : List Nat} {body : Sv} {fuel : Env → Nat}
def whT (r : Rs Bool) (body : Sv) (fg : List Nat) : SR := r.to fun k e1 => if k = true then turnK fg (body e1) else .bk e1
@[simp] theorem whT_t {body : Sv} {fg : List Nat} {e : Env} : whT (.ok true e) body fg = turnK fg (body e) := rfl
@[simp] theorem whT_f {body : Sv} {fg : List Nat} {e : Env} : whT (.ok false e) body fg = .bk e := rfl
theorem whD_i {S : Type} (E : S → Env) (I : S → Prop) (μ : S → Nat) (Z : SR → Prop) (hs : ∀ s, I s → (∃ s', whT (t (E s)) body fg = .nx (E s') ∧ I s' ∧ μ s' < μ s) ∨ (∃ e1, whT (t (E s)) body fg = .bk e1 ∧ Z (.nx e1)) ∨ (∃ w e1, whT (t (E s)) body fg = .rt w e1 ∧ Z (.rt w e1)) ∨ (∃ x e1, whT (t (E s)) body fg = .exn x e1 ∧ Z (.exn x e1))) :
    ∀ (n : Nat) (s : S), I s → μ s < n → Z (whD t body fg n (E s))
  | 0, s, _, h => absurd h (Nat.not_lt_zero _)
  | n + 1, s, h, hn => by
    have H := hs s h
    unfold whD
    unfold whT at H
    cases ht : t (E s) with
    | fail => simp only [ht, Rs.to] at H; rcases H with ⟨_, h, _⟩ | ⟨_, h, _⟩ | ⟨_, _, h, _⟩ | ⟨_, _, h, _⟩ <;> cases h
    | exn x e1 =>
      simp only [ht, Rs.to] at H ⊢
      rcases H with ⟨_, h, _⟩ | ⟨_, h, _⟩ | ⟨_, _, h, _⟩ | ⟨_, _, h, z⟩
      · cases h
      · cases h
      · cases h
      · cases h; exact z
    | ok k e1 =>
      simp only [ht, Rs.to] at H ⊢
      cases k with
      | false =>
        simp only [Bool.false_eq_true, if_false] at H ⊢
        rcases H with ⟨_, h, _⟩ | ⟨_, h, z⟩ | ⟨_, _, h, _⟩ | ⟨_, _, h, z⟩
        · cases h
        · cases h; exact z
        · cases h
        · cases h
      | true =>
        simp only [if_true] at H ⊢
        cases hb : body e1 with
        | nx e2 =>
          simp only [hb, turnK_nx] at H ⊢
          rcases H with ⟨s', h, i, l⟩ | ⟨_, h, z⟩ | ⟨_, _, h, _⟩ | ⟨_, _, h, z⟩
          · have h := SR.nx.inj h
            rw [h]
            exact whD_i E I μ Z hs n s' i (by omega)
          · cases h
          · cases h
          · cases h
        | ct e2 =>
          simp only [hb, turnK_ct] at H ⊢
          rcases H with ⟨s', h, i, l⟩ | ⟨_, h, z⟩ | ⟨_, _, h, _⟩ | ⟨_, _, h, z⟩
          · have h := SR.nx.inj h
            rw [h]
            exact whD_i E I μ Z hs n s' i (by omega)
          · cases h
          · cases h
          · cases h
        | bk e2 =>
          simp only [hb, turnK_bk] at H ⊢
          rcases H with ⟨s', h, i, l⟩ | ⟨_, h, z⟩ | ⟨_, _, h, _⟩ | ⟨_, _, h, z⟩
          · cases h
          · cases h; exact z
          · cases h
          · cases h
        | rt w e2 =>
          simp only [hb, turnK_rt] at H ⊢
          rcases H with ⟨s', h, i, l⟩ | ⟨_, h, z⟩ | ⟨_, _, h, z⟩ | ⟨_, _, h, z⟩
          · cases h
          · cases h
          · cases h; exact z
          · cases h
        | exn x e2 =>
          simp only [hb, turnK_exn] at H ⊢
          rcases H with ⟨s', h, i, l⟩ | ⟨_, h, z⟩ | ⟨_, _, h, z⟩ | ⟨_, _, h, z⟩
          · cases h
          · cases h
          · cases h
          · cases h; exact z
        | fail =>
          simp only [hb] at H
          rcases H with ⟨_, h, _⟩ | ⟨_, h, _⟩ | ⟨_, _, h, _⟩ | ⟨_, _, h, _⟩ <;> cases h
/-- a while: an invariant over some state S, a number that falls, what the end says -/
theorem while_i {S : Type} (E : S → Env) (I : S → Prop) (μ : S → Nat) (Z : SR → Prop) (s0 : S) (h0 : I s0) (hn : μ s0 < fuel (E s0))
    (hs : ∀ s, I s → (∃ s', whT (t (E s)) body fg = .nx (E s') ∧ I s' ∧ μ s' < μ s) ∨ (∃ e1, whT (t (E s)) body fg = .bk e1 ∧ Z (.nx e1)) ∨ (∃ w e1, whT (t (E s)) body fg = .rt w e1 ∧ Z (.rt w e1)) ∨ (∃ x e1, whT (t (E s)) body fg = .exn x e1 ∧ Z (.exn x e1))) :
    Z (sWhile fuel t fg body (E s0)) := whD_i E I μ Z hs _ s0 h0 hn
end
def pushR (k : Nat) (vs : List Nat) (w : W) (e : Env) : Rs Unit := match pushK k w e with | some e4 => .ok () (e4.clr vs) | none => .fail
def lcT2 (f : Ev) (k : Nat) (vs : List Nat) (r : Rs Bool) : Rs Unit := r.bindF fun c e2 => if c = true then (f e2).bindF (pushR k vs) else .ok () (e2.clr vs)
def lcT1 (o : Option Env) (t : Env → Rs Bool) (f : Ev) (k : Nat) (vs : List Nat) : Rs Unit := match o with
  | some e1 => lcT2 f k vs (t e1)
  | none => .fail
/-- one turn of a comprehension -/
def lcT (g : Tg) (t : Env → Rs Bool) (f : Ev) (k : Nat) (vs : List Nat) (d : D) (e : Env) : Rs Unit := lcT1 (g d (e.clr vs)) t f k vs
def lcT3 (k : Nat) (vs : List Nat) (r : Rs W) : Rs Unit := r.bindF (pushR k vs)
section
variable {g : Tg} {t : Env → Rs Bool} {f : Ev} {k : Nat} {vs : List Nat} {d : D} {e : Env} {w : W}
@[simp] theorem lcT_ev : lcT g t f k vs d e = lcT1 (g d (e.clr vs)) t f k vs := rfl
@[simp] theorem lcT1_some : lcT1 (some e) t f k vs = lcT2 f k vs (t e) := rfl
@[simp] theorem lcT2_t : lcT2 f k vs (.ok true e) = lcT3 k vs (f e) := rfl
@[simp] theorem lcT2_f : lcT2 f k vs (.ok false e) = .ok () (e.clr vs) := rfl
@[simp] theorem lcT3_ok {x : D} : lcT3 k vs (.ok (.d x) e) = match e.cell k with | some (.lst acc) => if acc.length < sizeLine then .ok () ((e.setC k (some (.lst (acc ++ [x])))).clr vs) else .fail | _ => .fail := by
  show pushR k vs (.d x) e = _
  unfold pushR
  rw [pushK_ev]
  cases e.cell k with
  | none => rfl
  | some c =>
    cases c with
    | lst acc => by_cases h : acc.length < sizeLine
                 · simp only [if_pos h]
                 · simp only [if_neg h]
    | _ => rfl
theorem lcT_inv {e' : Env} (h : lcT g t f k vs d e = .ok () e') : ∃ e1, g d (e.clr vs) = some e1 ∧
    ((∃ e2 w e3 e4, t e1 = .ok true e2 ∧ f e2 = .ok w e3 ∧ pushK k w e3 = some e4 ∧ e4.clr vs = e') ∨ ∃ e2, t e1 = .ok false e2 ∧ e2.clr vs = e') := by
  unfold lcT lcT1 at h
  cases hg : g d (e.clr vs) with
  | none => rw [hg] at h; cases h
  | some e1 =>
    rw [hg] at h
    refine ⟨e1, rfl, ?_⟩
    have h : lcT2 f k vs (t e1) = .ok () e' := h
    cases ht : t e1 with
    | fail => rw [ht] at h; cases h
    | exn x e2 => rw [ht] at h; cases h
    | ok c e2 =>
      rw [ht] at h
      cases c with
      | false => cases h; exact .inr ⟨e2, rfl, rfl⟩
      | true =>
        have h : (f e2).bindF (pushR k vs) = .ok () e' := h
        cases hf : f e2 with
        | fail => rw [hf] at h; cases h
        | exn x e3 => rw [hf] at h; cases h
        | ok w e3 =>
          rw [hf] at h
          have h : pushR k vs w e3 = .ok () e' := h
          unfold pushR at h
          cases hp : pushK k w e3 with
          | none => rw [hp] at h; cases h
          | some e4 => rw [hp] at h; cases h; exact .inl ⟨e2, w, e3, e4, rfl, hf, hp, rfl⟩
end
section
variable {it : Env → Rs Itr} {g : Tg} {t : Env → Rs Bool} {f : Ev} {k : Nat} {keep : Bool} {vs : List Nat} {items : List D} {chk : Env → Prop}
theorem comp_i {S : Type} (E : S → Env) (I : Nat → S → Prop) (s0 : S) {e0 e1 : Env} (hit : it e0 = .ok ⟨items, chk⟩ e1) (ho : e1.open k = true) (hE : e1.setC k (some (.lst [])) = E s0) (h0 : I 0 s0)
    (hs : ∀ i d s, items[i]? = some d → I i s → chk (E s) ∧ ∃ s', lcT g t f k vs d (E s) = .ok () (E s') ∧ I (i + 1) s') (hc : ∀ s, I items.length s → chk (E s)) :
    ∃ s, eLc it g t f k keep vs e0 = endL keep k (E s) ∧ I items.length s := by
  unfold eLc
  rw [hit]
  show ∃ s, (if e1.open k = true then _ else _) = _ ∧ _
  rw [if_pos ho, hE]
  obtain ⟨e', h1, s, rfl, h2⟩ := lc_inv (g := g) (chk := chk) (t := t) (f := f) (k := k) (vs := vs) (items := items) (e := E s0) (fun i e => ∃ s, e = E s ∧ I i s) ⟨s0, rfl, h0⟩ (fun i d e hd he => by
    obtain ⟨s, rfl, hi⟩ := he
    obtain ⟨h1, s', h2, h3⟩ := hs i d s hd hi
    obtain ⟨e1, q1, q2⟩ := lcT_inv h2
    refine ⟨h1, e1, q1, ?_⟩
    rcases q2 with ⟨e2, w, e3, e4, a, b, c, z⟩ | ⟨e2, a, z⟩
    · exact .inl ⟨e2, w, e3, e4, a, b, c, s', z, h3⟩
    · exact .inr ⟨e2, a, s', z, h3⟩) (fun e he => by obtain ⟨s, rfl, hi⟩ := he; exact hc s hi)
  refine ⟨s, ?_, h2⟩
  rw [h1]
  rfl
/-- a comprehension that reads alone: its list -/
theorem comp_e (h : D → Option D) {e0 e1 : Env} {n : Nat} (hit : it e0 = .ok ⟨items, chk⟩ e1) (ho : e1.open k = true) (hl : items.length ≤ n) (hn : n ≤ sizeLine) (hv : e1.clr vs = e1)
    (hs : ∀ (i : Nat) d (acc : List D), items[i]? = some d → acc.length < n → chk (e1.setC k (some (.lst acc))) ∧ lcT g t f k vs d (e1.setC k (some (.lst acc))) = .ok () (e1.setC k (some (.lst (acc ++ (h d).toList))))) (hc : ∀ acc, chk (e1.setC k (some (.lst acc)))) :
    eLc it g t f k keep vs e0 = endL keep k (e1.setC k (some (.lst (items.filterMap h)))) := by
  obtain ⟨s, h1, h2⟩ := comp_i (keep := keep) (items := items) (chk := chk) (fun acc : List D => e1.setC k (some (.lst acc))) (fun i acc => acc = (items.take i).filterMap h) [] hit ho rfl (by simp) (fun i d acc hd hi => by
    have hlt : i < items.length := (List.getElem?_eq_some_iff.mp hd).1
    have hal : acc.length ≤ i := by
      rw [hi]
      exact Nat.le_trans (List.length_filterMap_le _ _) (by simp; omega)
    obtain ⟨q1, q2⟩ := hs i d acc hd (by omega)
    refine ⟨q1, _, q2, ?_⟩
    rw [List.take_add_one, List.filterMap_append, ← hi, hd]
    cases hh : h d with
    | none => simp [hh]
    | some x => simp [hh]) (fun acc _ => hc acc)
  rw [h1, h2, List.take_length]
end
end Dl
end
section
set_option Elab.async false
set_option linter.all false
set_option maxRecDepth 100000
set_option maxHeartbeats 4000000
namespace LiZ
open PySem PySem.Spec PySem.Calls PyProof.Rows L2
/-- the tuples that a zip gave out, in order -/
structure ZlG (xs ys : Array Value) (lo : Addr) (h : Heap) (as : List Addr) : Prop where
  rise : as.Pairwise (· < ·)
  above : ∀ a ∈ as, lo < a
  pairs : ∀ (j : Nat) (a : Addr), as[j]? = some a → ∃ x y, xs[j]? = some x ∧ ys[j]? = some y ∧ IsPair h a x y
theorem ZlG.there {xs ys : Array Value} {lo : Addr} {h : Heap} {as : List Addr} (g : ZlG xs ys lo h as) {a : Addr} (ha : a ∈ as) : a < h.objs.size := by
  obtain ⟨j, hj⟩ := List.mem_iff_getElem?.mp ha
  obtain ⟨_, _, _, _, e⟩ := g.pairs j a hj
  exact Heap.lt_size e
def ZSt (z TI TO i1 i2 l1 l2 S : Addr) (xs ys : Array Value) (i : Nat) (h : Heap) : Prop :=
  IsPair h TI (.ref i1) (.ref i2) ∧ h.IsListIter i1 l1 i ∧ h.IsListIter i2 l2 i ∧ h.IsList l1 xs ∧ h.IsList l2 ys ∧
    ((IsZip h z TI TO .none ∧ ∃ a b, IsPair h TO a b) ∨ ∃ T f oT, IsZipHeld h z TI TO T f ∧ h.get? T = some oT ∧ T ≠ z ∧ T ≠ i1 ∧ T ≠ i2 ∧ T ≠ S)
structure Below (z TI TO i1 i2 l1 l2 S : Addr) : Prop where
  z : z < S
  TI : TI < S
  TO : TO < S
  i1 : i1 < S
  i2 : i2 < S
  l1 : l1 < S
  l2 : l2 < S
section
variable {z TI TO i1 i2 l1 l2 S : Addr} {xs ys : Array Value}
theorem ZSt.keep {i : Nat} {h h' : Heap} (B : Below z TI TO i1 i2 l1 l2 S) (st : ZSt z TI TO i1 i2 l1 l2 S xs ys i h) (hk : ∀ b o, b ≠ S → h.get? b = some o → h'.get? b = some o) : ZSt z TI TO i1 i2 l1 l2 S xs ys i h' := by
  obtain ⟨hTI, h1, h2, hl1, hl2, hz⟩ := st
  refine ⟨hk _ _ (Nat.ne_of_lt B.TI) hTI, h1.at fun o e => hk _ o (Nat.ne_of_lt B.i1) e, h2.at fun o e => hk _ o (Nat.ne_of_lt B.i2) e, hl1.at fun o e => hk _ o (Nat.ne_of_lt B.l1) e, hl2.at fun o e => hk _ o (Nat.ne_of_lt B.l2) e, ?_⟩
  rcases hz with ⟨hz, a, b, hTO⟩ | ⟨T, f, oT, hz, hT, r1, r2, r3, r4⟩
  · exact .inl ⟨hk _ _ (Nat.ne_of_lt B.z) hz, a, b, hk _ _ (Nat.ne_of_lt B.TO) hTO⟩
  · exact .inr ⟨T, f, oT, hk _ _ (Nat.ne_of_lt B.z) hz, hk _ _ r4 hT, r1, r2, r3, r4⟩
end
end LiZ
end
section
set_option Elab.async false
set_option linter.all false
set_option maxRecDepth 100000
set_option maxHeartbeats 4000000
namespace LiZ
open PySem PySem.Spec PySem.Calls PyProof.Rows L2
section
end
end LiZ
end
section
set_option Elab.async false
set_option linter.all false
set_option maxRecDepth 100000
set_option maxHeartbeats 4000000
namespace Dl
open PySem L2
section
end
section
end
end Dl
end
section
set_option Elab.async false
set_option linter.all false
set_option maxRecDepth 100000
set_option maxHeartbeats 4000000
namespace L2
open PySem PySem.Spec PyProof.Rows
section
end
end L2
namespace Dl
open PySem L2
section
end
section
end
end Dl
end
section
set_option Elab.async false
set_option linter.all false
set_option maxRecDepth 100000
set_option maxHeartbeats 4000000
namespace Dl
open PySem L2
def spXIn (C : Addr) (fs : List Str) : Sp := fun vs H Q _ => ∃ (a : Addr) (us : List V), vs = .ref a :: us ∧ us.length = fs.length ∧ H a = some (exo a C none) ∧ ∀ dx, H dx = none → dx ≠ a → Q .non (upd (upd H dx (exd dx (fs.zip us).reverse)) a (exo a C (some dx)))
structure XClsN (K : PySem.W.Frag) (C fI : Addr) (fs : List Str) : Prop where
  ox : OexC K C
  no : ∀ f ∈ fs, PySem.W.findIn K (.ref C) f = some none
  iC : PySem.W.findIn K (.ref C) "__init__" = some (some (.ref fI))
  tI : PySem.W.typeIn K (.ref fI) = some (.type "function")
theorem XClsN.one {K : PySem.W.Frag} {C fI : Addr} {f : Str} (T : XClsN K C fI [f]) : XCls K C fI f := ⟨T.ox, T.no f List.mem_cons_self, T.iC, T.tI⟩
def sRaiseN (C : Addr) (fs : List Str) (gs : List Ev) : Sv := fun e => match evA gs e with
  | .ok ws e1 => (match toDs ws with
    | some ds => if ds.length = fs.length then .exn ⟨C, some (fs.zip ds).reverse⟩ e1 else .fail
    | none => .fail)
  | .exn x e1 => .exn x e1
  | .fail => .fail
theorem zip_names {α : Type} : ∀ {fs : List Str} {ds : List D} {vs : List α}, ds.length = fs.length → vs.length = fs.length → ((fs.zip vs).reverse).map (·.1) = ((fs.zip ds).reverse).map (·.1)
  | fs, ds, vs, h1, h2 => by
    rw [List.map_reverse, List.map_reverse, List.map_fst_zip (by omega), List.map_fst_zip (by omega)]
theorem zip_vals {K : PySem.W.Frag} {R : Hp} {fs : List Str} {ds : List D} {vs : List V} (h1 : ds.length = fs.length) (h2 : vs.length = fs.length) (r : RepL K R ds vs) : RepL K R (((fs.zip ds).reverse).map (·.2)) (((fs.zip vs).reverse).map (·.2)) := by
  rw [List.map_reverse, List.map_reverse, List.map_snd_zip (by omega), List.map_snd_zip (by omega)]
  exact r.reverse
section
variable {X : Cx} {Wx : WX} {a : Expr} {es : List Expr} {pos pos2 p : Pos} {g : Ev} {gs : List Ev} {C fI : Addr} {fs : List Str} {cn : Str} {k : Nat} {fd : FuncData} {ps : List Str} {CX : CXT}
theorem s_raiseN (hc : X.calm = true) (T : XClsN X.K C fI fs) (F1 : FnOk X.prog X.w X.K X.mg X.base CX k fI fd ps (spXIn C fs)) (hr : Room (k + 1) X.A) (hb : Binds X.K fd ps []) (hx : Passes CX X (fun _ _ _ => False)) (tk : L2.Takes X Wx)
    (hg : Gl X cn) (hm : X.mg cn = some (.ref C)) (ha : PA X (a :: es) (tDA X.K Wx (evA (g :: gs)))) (hdb : (cn == ("__debug__" : Str)) = false := by decide)
    (he : starEach (a :: es) X.env = (false, eval a X.env) :: starEach es X.env := by rfl) (hpl : (backTo pos (starEach es X.env)).any (·.1) = false := by rfl) (hlen : fs.length ≤ 900 := by decide) :
    PS X (.Raise (some (.Call (.Name cn p) (a :: es) [] pos)) none pos2) (tS X.K Wx (sRaiseN C fs (g :: gs))) :=
  (ps_raise hc tk (pmk_oex T.ox T.iC T.tI F1 hr hb .nil hx hg hm ha hdb he hpl)).imp fun D σ H h => by
    obtain ⟨b, R, ρ, e, m, q⟩ := h
    refine ⟨b, R, ρ, e, m, ?_⟩
    unfold sRaiseN at q
    cases hge : evA (g :: gs) e with
    | fail => rw [hge] at q; exact q.elim
    | exn x e1 =>
      rw [hge] at q
      exact q
    | ok ws e1 =>
      rw [hge] at q
      dsimp only at q
      cases hd : toDs ws with
      | none => rw [hd] at q; exact q.elim
      | some ds =>
        rw [hd] at q
        dsimp only at q
        split at q
        · rename_i hl
          intro R' ρ' vs H1 s l m' r
          have rl : RepL X.K R' ds vs := toDs_rep hd r
          have hvl : vs.length = fs.length := by rw [← rl.length]; exact hl
          refine ⟨by rw [hvl]; omega, fun a na => ⟨a, vs, by rw [List.append_nil], hvl, upd_same, fun dx hdx hne => ⟨rfl, dx, (fs.zip vs).reverse, upd_same, by rw [upd_ne hne, upd_same], by rw [upd_ne hne] at hdx; exact hdx, ?_⟩⟩⟩
          have hd1 : H1 dx = none := by rw [upd_ne hne] at hdx; exact hdx
          show Wx (.ref C) (some dx) σ (upd (del (upd (upd (upd H1 a _) dx _) a _) a) dx (.xd _))
          rw [del_upd na hne]
          have sm : Same R' (upd R' dx (.xd (fs.zip vs).reverse)) := same_upd (m'.freshR hd1)
          exact q _ ρ' σ _ _ _ (s.trans sm) (m'.freshD hd1 _) ⟨rfl, dx, (fs.zip vs).reverse, rfl, upd_same, zip_names hl hvl, zip_vals hl hvl (RepL.mono sm rl)⟩
        · exact q.elim
end
section
variable {P : Program} {w : World} {K : PySem.W.Frag} {mg : Str → Option Value} {base : Heap} {x qual : Str} {params : Arguments} {body : List Stmt} {scope : Scope} {kws : List (Str × V)} {C fI : Addr} {fd : FuncData}
theorem upd_twice {H : Hp} {a dx : Addr} {o1 o2 o3 : HO} (h : dx ≠ a) : upd (upd (upd H dx o1) a o2) dx o3 = upd (upd H dx o3) a o2 := by
  funext b
  by_cases hb : b = dx
  · subst hb
    rw [upd_same, upd_ne h, upd_same]
  · rw [upd_ne hb]
    by_cases ha : b = a
    · subst ha
      rw [upd_same, upd_same]
    · rw [upd_ne ha, upd_ne hb, upd_ne ha, upd_ne hb]
theorem fnX3_ok {s0 p1 p2 p3 f1 f2 f3 : Str} (F : FunD K x qual params body scope [] kws fI fd) (S : FnScope [s0, p1, p2, p3] [s0, p1, p2, p3] scope) (T : XClsN K C fI [f1, f2, f3])
    (hb : ∀ (cdv : Value) (A : Around) (outer : List PySem.Env) (s : Shared) (H : Hp) (E : XK), PSs (cxOf (L2.CX P w) P w K mg base [s0, p1, p2, p3] qual scope fI cdv A outer s H E) body (fun D σ H => tOst K f1 (tVar 0) (tVar 1) { D with nx := fun σ H => tOst K f2 (tVar 0) (tVar 2) { D with nx := tOst K f3 (tVar 0) (tVar 3) D } σ H } σ H)) :
    FnOk P w K mg base (L2.CX P w) 1 fI fd [s0, p1, p2, p3] (spXIn C [f1, f2, f3]) := by
  refine F.ok (k := 0) (CX := L2.CX P w) S (fun vs H Q E h => ?_) (fun cdv A outer s H vs Q E hr h => ⟨_, hb cdv A outer s H E, ?_⟩)
  · obtain ⟨a, us, rfl, hl, _⟩ := h
    simp at hl ⊢; exact hl
  · obtain ⟨a, us, rfl, hl, ha, q⟩ := h
    match us, hl with
    | [v, u, z], _ =>
      refine ⟨v, rfl, .ref a, rfl, a, C, rfl, T.ox, T.no f1 List.mem_cons_self, .inl ⟨ha, fun dx n ne => ?_⟩⟩
      refine ⟨u, rfl, .ref a, rfl, a, C, rfl, T.ox, T.no f2 (by simp), .inr ⟨dx, _, upd_same, by rw [upd_ne ne, upd_same], by simp, ?_⟩⟩
      rw [upd_twice ne]
      refine ⟨z, rfl, .ref a, rfl, a, C, rfl, T.ox, T.no f3 (by simp), .inr ⟨dx, _, upd_same, by rw [upd_ne ne, upd_same], by simp, ?_⟩⟩
      rw [upd_twice ne]
      exact q dx n ne
end
def xBn (K : PySem.W.Frag) (x : Str) (fs : List Str) : Bool := oexB K (He.ga K x) && (He.eqO (PySem.W.findIn K (.ref (He.ga K x)) "__setattr__") (some (some (.builtin "object.__setattr__"))) &&
  (decide (PySem.W.subIn K (.ref (He.ga K x)) (.type "BaseException") = some true) && (decide (PySem.W.typeIn K (.ref (He.ga K x)) = some (.type "type")) && (PySem.W.keepIn K (.ref (He.ga K x)) &&
  ((fs.all fun f => He.eqO (PySem.W.findIn K (.ref (He.ga K x)) f) (some none)) && (He.eqO (PySem.W.findIn K (.ref (He.ga K x)) "__init__") (some (some (.ref (He.ma K (He.ga K x) "__init__")))) &&
  (decide (PySem.W.typeIn K (.ref (He.ma K (He.ga K x) "__init__")) = some (.type "function")) && (xfB K (He.ga K x) && (decide (PySem.W.exmOne K (.ref (He.ga K x)) (.ref (He.ga K x)) = some true) && decide (PySem.W.kitOne K (.ref (He.ga K x)) (.type "ValueError") = some true))))))))))
theorem xBn_ok {K : PySem.W.Frag} {x : Str} {fs : List Str} (h : xBn K x fs = true) : XClsN K (He.ga K x) (He.ma K (He.ga K x) "__init__") fs ∧ XfC K (He.ga K x) ∧ PySem.W.exmOne K (.ref (He.ga K x)) (.ref (He.ga K x)) = some true ∧ PySem.W.kitOne K (.ref (He.ga K x)) (.type "ValueError") = some true := by
  unfold xBn at h
  simp only [Bool.and_eq_true, decide_eq_true_eq] at h
  obtain ⟨h1, h2, h3, h4, h5, h6, h7, h8, h9, h10, h11⟩ := h
  exact ⟨⟨⟨oexB_ok h1, He.eqO_ok h2, h3, h4, h5⟩, fun f hf => He.eqO_ok (List.all_eq_true.mp h6 f hf), He.eqO_ok h7, h8⟩, xfB_ok h9, h10, h11⟩
/-- x.2: a pair of classes, does the one catch the other -/
abbrev XPair : Type := Str × Str × Bool
def xpB (K : PySem.W.Frag) (p : XPair) : Bool := decide (PySem.W.exmOne K (.ref (He.ga K p.1)) (.ref (He.ga K p.2.1)) = some p.2.2)
def obsXn (xs : List (Str × List Str)) (ps : List XPair) (fa : List He.Fa) (fn : List He.DefD) (K : PySem.W.Frag) : AlX := ((xs.all fun x => xBn K x.1 x.2) && ps.all (xpB K), He.obsD fa fn K)
def SaysXn (xs : List (Str × List Str)) (ps : List XPair) (fa : List He.Fa) (fn : List He.DefD) (K : PySem.W.Frag) : Prop := obsXn xs ps fa fn K = valX fn
theorem SaysXn.d {xs : List (Str × List Str)} {ps : List XPair} {fa : List He.Fa} {fn : List He.DefD} {K : PySem.W.Frag} (c : SaysXn xs ps fa fn K) : He.SaysD fa fn K := congrArg (fun z : AlX => z.2) c
theorem SaysXn.x {xs : List (Str × List Str)} {ps : List XPair} {fa : List He.Fa} {fn : List He.DefD} {K : PySem.W.Frag} (c : SaysXn xs ps fa fn K) (i : Nat) {x : Str × List Str} (h : xs[i]? = some x := by rfl) : xBn K x.1 x.2 = true := by
  have c1 : ((xs.all fun x => xBn K x.1 x.2) && ps.all (xpB K)) = true := congrArg (fun z : AlX => z.1) c
  rw [Bool.and_eq_true] at c1
  exact List.all_eq_true.mp c1.1 x (List.mem_of_getElem? h)
theorem SaysXn.p {xs : List (Str × List Str)} {ps : List XPair} {fa : List He.Fa} {fn : List He.DefD} {K : PySem.W.Frag} (c : SaysXn xs ps fa fn K) (i : Nat) {x : XPair} (h : ps[i]? = some x := by rfl) : PySem.W.exmOne K (.ref (He.ga K x.1)) (.ref (He.ga K x.2.1)) = some x.2.2 := by
  have c1 : ((xs.all fun x => xBn K x.1 x.2) && ps.all (xpB K)) = true := congrArg (fun z : AlX => z.1) c
  rw [Bool.and_eq_true] at c1
  exact of_decide_eq_true (List.all_eq_true.mp c1.2 x (List.mem_of_getElem? h))
def xrnK (C : Addr) (fs : List Str) (r : Rs (List W)) : SR := match r with
  | .ok ws e1 => (match toDs ws with
    | some ds => if ds.length = fs.length then .exn ⟨C, some (fs.zip ds).reverse⟩ e1 else .fail
    | none => .fail)
  | .exn x e1 => .exn x e1
  | .fail => .fail
@[simp] theorem sRaiseN_ev {C : Addr} {fs : List Str} {gs : List Ev} {e : Env} : sRaiseN C fs gs e = xrnK C fs (evA gs e) := rfl
@[simp] theorem xrnK_ok {C : Addr} {fs : List Str} {ws : List W} {e : Env} : xrnK C fs (.ok ws e) = (match toDs ws with | some ds => if ds.length = fs.length then .exn ⟨C, some (fs.zip ds).reverse⟩ e else .fail | none => .fail) := rfl
end Dl
end
section
set_option Elab.async false
set_option linter.all false
set_option maxRecDepth 100000
set_option maxHeartbeats 4000000
namespace L2
open PySem PySem.Spec PyProof.Rows
section
end
end L2
namespace Dl
open PySem L2
section
end
def xB0 (K : PySem.W.Frag) (x : Str) : Bool := PySem.W.excIn K (He.ga K x) [.type "ValueError", .type "Exception", .type "BaseException", .type "object"] "ValueError.__new__" && (PySem.W.keepIn K (.ref (He.ga K x)) &&
  (decide (PySem.W.subIn K (.ref (He.ga K x)) (.type "BaseException") = some true) && (decide (PySem.W.typeIn K (.ref (He.ga K x)) = some (.type "type")) && decide (PySem.W.exmOne K (.ref (He.ga K x)) (.ref (He.ga K x)) = some true))))
def obsXz (xs : List (Str × List Str)) (zs : List Str) (ps : List XPair) (fa : List He.Fa) (fn : List He.DefD) (K : PySem.W.Frag) : AlX := ((xs.all fun x => xBn K x.1 x.2) && (zs.all (xB0 K) && ps.all (xpB K)), He.obsD fa fn K)
def SaysXz (xs : List (Str × List Str)) (zs : List Str) (ps : List XPair) (fa : List He.Fa) (fn : List He.DefD) (K : PySem.W.Frag) : Prop := obsXz xs zs ps fa fn K = valX fn
section
variable {n : Nat} {xs : List (Str × List Str)} {zs : List Str} {ps : List XPair} {fa : List He.Fa} {fn : List He.DefD} {K : PySem.W.Frag}
theorem SaysXz.d (c : SaysXz xs zs ps fa fn K) : He.SaysD fa fn K := congrArg (fun z : AlX => z.2) c
theorem SaysXz.all (c : SaysXz xs zs ps fa fn K) : (xs.all fun x => xBn K x.1 x.2) = true ∧ zs.all (xB0 K) = true ∧ ps.all (xpB K) = true := by
  have c1 : ((xs.all fun x => xBn K x.1 x.2) && (zs.all (xB0 K) && ps.all (xpB K))) = true := congrArg (fun z : AlX => z.1) c
  rw [Bool.and_eq_true, Bool.and_eq_true] at c1
  exact c1
theorem SaysXz.x (c : SaysXz xs zs ps fa fn K) (i : Nat) {x : Str × List Str} (h : xs[i]? = some x := by rfl) : xBn K x.1 x.2 = true := List.all_eq_true.mp c.all.1 x (List.mem_of_getElem? h)
theorem SaysXz.z (c : SaysXz xs zs ps fa fn K) (i : Nat) {x : Str} (h : zs[i]? = some x := by rfl) : xB0 K x = true := List.all_eq_true.mp c.all.2.1 x (List.mem_of_getElem? h)
theorem SaysXz.p (c : SaysXz xs zs ps fa fn K) (i : Nat) {x : XPair} (h : ps[i]? = some x := by rfl) : PySem.W.exmOne K (.ref (He.ga K x.1)) (.ref (He.ga K x.2.1)) = some x.2.2 := of_decide_eq_true (List.all_eq_true.mp c.all.2.2 x (List.mem_of_getElem? h))
end
end Dl
end
section
set_option Elab.async false
set_option linter.all false
set_option maxRecDepth 100000
set_option maxHeartbeats 4000000
namespace L2
open PySem PySem.Spec PyProof.Rows
abbrev HdT : Type := Value × Option Nat × (Addr → Value → Option Addr → TS)
def wMix (K : PySem.W.Frag) (Wout : WX) (D : Ends) : List HdT → WX
  | [] => Wout
  | (c, oi, ts) :: r => fun cls d σ H => ∃ b, PySem.W.exmOne K cls c = some b ∧ (b = true → ∀ a, H a = none → match oi with
      | none => ts a cls d D σ H
      | some i => ts a cls d { nx := fun σ' H' => D.nx (σ'.set i none) H', rt := D.rt, bk := fun σ' H' => D.bk (σ'.set i none) H', ct := fun σ' H' => D.ct (σ'.set i none) H' } (σ.set i (some (.ref a))) H) ∧ (b = false → wMix K Wout D r cls d σ H)
inductive HdMix (X : Cx) : List ExceptHandler → List HdT → Prop
  | nil : HdMix X [] []
  | cons {x : Str} {c : Value} {ts : Addr → Value → Option Addr → TS} {b₀ : Stmt} {suite : List Stmt} {np pos' : Pos} {hds : List ExceptHandler} {l : List HdT} (hc : Names X x c)
      (hsu : ∀ (a : Addr) (oe : Obj) (cls : Value) (d : Option Addr) (pn : List (Addr × Obj)), Zc cls d oe → (∃ vs, oe.data = .fields vs) → PSs (X.suite a ((a, oe) :: pn)) (b₀ :: suite) (ts a cls d)) (r : HdMix X hds l) :
      HdMix X (.ExceptHandler (some (.Name x np)) none (b₀ :: suite) pos' :: hds) ((c, none, ts) :: l)
  | as {x n : Str} {i : Nat} {c : Value} {ts : Addr → Value → Option Addr → TS} {b₀ : Stmt} {suite : List Stmt} {np pos' : Pos} {hds : List ExceptHandler} {l : List HdT} (hN : X.N.Nodup) (hi : X.N[i]? = some n) (hln : X.env.kindOf n = some .local) (hc : Names X x c)
      (hsu : ∀ (a : Addr) (oe : Obj) (cls : Value) (d : Option Addr) (pn : List (Addr × Obj)), Zc cls d oe → (∃ vs, oe.data = .fields vs) → PSs (X.suite a ((a, oe) :: pn)) (b₀ :: suite) (ts a cls d)) (r : HdMix X hds l) :
      HdMix X (.ExceptHandler (some (.Name x np)) (some n) (b₀ :: suite) pos' :: hds) ((c, some i, ts) :: l)
/-- an own error is caught: it stands at a, and behind it the walk's state -/
structure Caught1 (X : Cx) (pins : List (Addr × Obj)) (σ : St) (H : Hp) (G : Heap) (s0 : Shared) (a : Addr) (cls : Value) (d : Option Addr) (s : Shared) : Prop where
  state : Inv X pins σ H s0
  ground : ∀ b o, s0.heap.get? b = some o → b ∉ frs X.stack → G.get? b = some o
  grown : s0.heap.UpToSlots s.heap
  flies : HandSPX.FlyingZ G (X.env :: X.outer) a (Zc cls d) s.heap
  free : H a = none
  os : s.os = s0.os
  bare : AllBare s.gens
section
variable {X : Cx} {pins : List (Addr × Obj)} {σ : St} {H : Hp} {G : Heap} {s0 s : Shared} {a : Addr} {cls : Value} {d : Option Addr}
theorem Caught1.inv (c : Caught1 X pins σ H G s0 a cls d s) : Inv X pins σ H s := c.state.landed c.ground c.flies.1 c.grown c.os c.bare
theorem Caught1.noFrame (c : Caught1 X pins σ H G s0 a cls d s) : a ∉ frs (X.env :: X.outer) := by
  obtain ⟨o, v, at_, _, dat⟩ := c.flies.there
  intro m
  obtain ⟨_, o2, at2, no⟩ := c.flies.2.2.1.mem m
  cases at_.symm.trans at2
  exact no _ dat
/-- within a suite -/
theorem Caught1.within (c : Caught1 X pins σ H G s0 a cls d s) (hf : X.env.frame = some X.env.locals) : ∃ o, s.heap.get? a = some o ∧ Zc cls d o ∧ (∃ v, o.data = .fields v) ∧ Inv (X.suite a ((a, o) :: (X.pn ++ pins))) [] σ H s := by
  obtain ⟨o, v, at_, z, dat⟩ := c.flies.there
  have no := c.noFrame
  refine ⟨o, at_, z, ⟨v, dat⟩, c.inv.suite at_ dat c.free (fun e => no ?_) fun m => no ?_⟩
  · exact List.mem_filterMap.mpr ⟨X.env, List.mem_cons_self, hf.trans (congrArg some e.symm)⟩
  · obtain ⟨e, me, fe⟩ := List.mem_filterMap.mp m
    exact List.mem_filterMap.mpr ⟨e, List.mem_cons_of_mem _ me, fe⟩
/-- the class that a clause names -/
theorem Caught1.named (c : Caught1 X pins σ H G s0 a cls d s) (hf : X.env.frame = some X.env.locals) {x : Str} {v : Value} {np : Pos} (hx : Names X x v) {Q E : Value → Shared → Prop} (q : Q v s) : wpAny (model X.prog X.w) (X.A.mark (some (.ref a))) (eval (.Name x np) X.env) Q E s := by
  obtain ⟨o, _, _, _, I⟩ := c.within hf
  obtain ⟨gl, db, r | ⟨r, bo, nn⟩⟩ := hx
  · exact ld_glob I gl r q db
  · exact ld_blt I gl r bo q nn db
/-- does the clause's class meet the error's -/
theorem Caught1.meets (c : Caught1 X pins σ H G s0 a cls d s) {v : Value} {b : Bool} (h : PySem.W.exmOne X.K cls v = some b) : PySem.W.Looks (model X.prog X.w) s.heap (excMatches (.ref a) v) b :=
  PySem.W.exm_one (M := model X.prog X.w) c.inv.kIn (fun A Q E t keep q => by
    obtain ⟨o, _, at_, z, _⟩ := c.flies.there
    exact wpAny_typeOf_ref (keep _ _ at_) (by rw [z.1]; exact q)) h
/-- no clause is left: the error goes on -/
theorem Caught1.over (c : Caught1 X pins σ H G s0 a cls d s) (hs : X.stack = X.env :: X.outer) (hf : X.env.frame = some X.env.locals) {W : WX} (tk : Takes X W) (w : W cls d σ H) {P : Flow → Shared → Prop} : wpAny (model X.prog X.w) X.A (handleBy (.ref a) X.env []) P X.xe s := by
  have fin : wpAny (model X.prog X.w) X.A (setFlight (.ref a) X.env.frame) (fun _ t => wpAny (model X.prog X.w) X.A (throw (.ref a) : Sem Flow) P X.xe t) X.xe s := by
    rw [hf]
    refine HandSPX.setFlight_upZ c.flies fun h hold up => wpAny_throw (tk _ _ ?_)
    refine ⟨a, G, s0, pins, σ, H, cls, d, rfl, c.state, c.ground, c.grown.trans up, .inr (.inr ?_), c.free, c.os, c.bare, w⟩
    rw [hs]; exact hold
  obtain ⟨_, _, _, o, v, T, oT, t0, at_, z, dat, first, rest⟩ := id c.flies
  refine wpAny_handleBy_nil ?_
  unfold PySem.passOn
  refine wpAny_bind (wpAny_field at_ dat first ?_)
  rw [if_neg (show ¬ ((Value.ref T == Value.none) = true) from by simp)]
  first
    | exact wpAny_bind (wpAny_pure (wpAny_bind fin))
    | exact wpAny_bind fin
/-- a clause without a name -/
theorem Caught1.plain (c : Caught1 X pins σ H G s0 a cls d s) (hf : X.env.frame = some X.env.locals) {t : Addr → Value → Option Addr → TS} {b0 : Stmt} {su : List Stmt} {D : Ends}
    (hsu : ∀ (a : Addr) (oe : Obj) (cls : Value) (d : Option Addr) (pn : List (Addr × Obj)), Zc cls d oe → (∃ vs, oe.data = .fields vs) → PSs (X.suite a ((a, oe) :: pn)) (b0 :: su) (t a cls d)) (q : t a cls d D σ H) {E : Value → Shared → Prop} :
    wpAny (model X.prog X.w) (X.A.mark (some (.ref a))) (execs (b0 :: su) X.env) (SP X pins D) (fun _ _ => False) s := by
  obtain ⟨o, at_, z, dat, I⟩ := c.within hf
  refine wpAny_mono ((hsu a o cls d (X.pn ++ pins) z dat).run [] s σ H D I q) (fun f t1 e => ?_) fun _ _ no => no.elim
  cases f with
  | ret v =>
    obtain ⟨x, σ1, H1, I1, r1, q1⟩ := e
    exact ⟨x, σ1, H1, I1.unsuite c.state.ok, r1, q1⟩
  | next => exact let ⟨σ1, H1, I1, q1⟩ := e; ⟨σ1, H1, I1.unsuite c.state.ok, q1⟩
  | brk => exact let ⟨σ1, H1, I1, q1⟩ := e; ⟨σ1, H1, I1.unsuite c.state.ok, q1⟩
  | cont => exact let ⟨σ1, H1, I1, q1⟩ := e; ⟨σ1, H1, I1.unsuite c.state.ok, q1⟩
/-- a clause with a name, which is gone behind it -/
def gone (i : Nat) (D : Ends) : Ends := { nx := fun σ H => D.nx (σ.set i none) H, rt := D.rt, bk := fun σ H => D.bk (σ.set i none) H, ct := fun σ H => D.ct (σ.set i none) H }
theorem Caught1.bound (c : Caught1 X pins σ H G s0 a cls d s) (hf : X.env.frame = some X.env.locals) {n : Str} {i : Nat} {pos : Pos} (hN : X.N.Nodup) (hi : X.N[i]? = some n) (hl : X.env.kindOf n = some .local) {t : Addr → Value → Option Addr → TS} {b0 : Stmt} {su : List Stmt} {D : Ends}
    (hsu : ∀ (a : Addr) (oe : Obj) (cls : Value) (d : Option Addr) (pn : List (Addr × Obj)), Zc cls d oe → (∃ vs, oe.data = .fields vs) → PSs (X.suite a ((a, oe) :: pn)) (b0 :: su) (t a cls d)) (q : t a cls d (gone i D) (σ.set i (some (.ref a))) H) {E : Value → Shared → Prop} :
    wpAny (model X.prog X.w) (X.A.mark (some (.ref a))) (storeName X.env n (.ref a)) (fun _ t0 => wpAny (model X.prog X.w) (X.A.mark (some (.ref a))) (execs (b0 :: su) X.env)
      (fun f t1 => wpAny (model X.prog X.w) X.A (do bindName X.env n .none; unbindBehindTheSuite X.env n pos) (fun _ t2 => SP X pins D f t2) X.xe t1) (fun _ _ => False) t0) E s := by
  obtain ⟨o, at_, z, dat, I⟩ := c.within hf
  refine store_ok (X := X.suite a ((a, o) :: (X.pn ++ pins))) (v := .ref a) I hN hi (.inl hl) rfl (fun t0 I0 => ?_) (.inr hl)
  refine wpAny_mono ((hsu a o cls d (X.pn ++ pins) z dat).run [] t0 _ H _ I0 q) (fun f t1 e => ?_) fun _ _ no => no.elim
  have off : ∀ {σ1 : St} {H1 : Hp} {Q : Shared → Prop}, Inv (X.suite a ((a, o) :: (X.pn ++ pins))) [] σ1 H1 t1 → (∀ t2, Inv X pins (σ1.set i none) H1 t2 → Q t2) →
      wpAny (model X.prog X.w) X.A (do bindName X.env n .none; unbindBehindTheSuite X.env n pos) (fun _ t2 => Q t2) X.xe t1 := fun I1 q1 => gone_ok (I1.unsuite c.state.ok) hN hi hl q1
  cases f with
  | ret v =>
    obtain ⟨x, σ1, H1, I1, r1, q1⟩ := e
    exact off I1 fun t2 I2 => ⟨x, _, H1, I2, r1, q1⟩
  | next => exact let ⟨σ1, H1, I1, q1⟩ := e; off I1 fun t2 I2 => ⟨_, H1, I2, q1⟩
  | brk => exact let ⟨σ1, H1, I1, q1⟩ := e; off I1 fun t2 I2 => ⟨_, H1, I2, q1⟩
  | cont => exact let ⟨σ1, H1, I1, q1⟩ := e; off I1 fun t2 I2 => ⟨_, H1, I2, q1⟩
end
section
variable {X : Cx} {pins : List (Addr × Obj)} {σ : St} {H : Hp} {G : Heap} {s0 s : Shared} {a : Addr} {cls : Value} {d : Option Addr}
theorem Caught1.on (c : Caught1 X pins σ H G s0 a cls d s) {h : Heap} (fl : HandSPX.FlyingZ G (X.env :: X.outer) a (Zc cls d) h) (up : s.heap.UpToSlots h) : Caught1 X pins σ H G s0 a cls d { s with heap := h } := ⟨c.state, c.ground, c.grown.trans up, fl, c.free, c.os, c.bare⟩
/-- the clauses, one after another -/
theorem Caught1.clauses (c : Caught1 X pins σ H G s0 a cls d s) (hs : X.stack = X.env :: X.outer) (hf : X.env.frame = some X.env.locals) {W : WX} (tk : Takes X W) {D : Ends} {hds : List ExceptHandler} {l : List HdT} (k : HdMix X hds l) : wMix X.K W D l cls d σ H → wpAny (model X.prog X.w) X.A (handleBy (.ref a) X.env hds) (SP X pins D) X.xe s := by
  induction k with
  | nil => exact fun w => c.over hs hf tk w
  | cons hx hsu more ih =>
    rintro ⟨b, hb, yes, no⟩
    refine wpAny_handleBy_cons (codeAny_handlers_test (c.named hf hx ((c.meets hb).here ?_))) nofun
    cases b with
    | false => exact ih (no rfl)
    | true => exact codeAny_handlers_suite (HandSPX.lands_againZ c.flies fun h fl up => wpAny_mono ((c.on fl up).plain hf hsu (yes rfl a c.free) (E := fun _ _ => False)) (fun f t1 e => e) fun _ _ no => no.elim)
  | as hN hi hl hx hsu more ih =>
    rintro ⟨b, hb, yes, no⟩
    refine wpAny_handleBy_cons (codeAny_handlers_test (c.named hf hx ((c.meets hb).here ?_))) nofun
    cases b with
    | false => exact ih (no rfl)
    | true => exact codeAny_handlers_suite_as (HandSPX.lands_againZ c.flies fun h fl up => wpAny_mono ((c.on fl up).bound hf hN hi hl hsu (yes rfl a c.free)) (fun _ t0 e => wpAny_mono e (fun _ _ e => e) fun _ _ no => no.elim) fun _ _ e => e)
variable {body : List Stmt} {h₀ : ExceptHandler} {hds : List ExceptHandler} {l : List HdT} {pos : Pos} {tb : WX → TS} {Wout : WX}
theorem ps_try_mix (hs : X.stack = X.env :: X.outer) (hf : X.env.frame = some X.env.locals) (tk : Takes X Wout)
    (hb : ∀ (W : WX) (pn : List (Addr × Obj)) (xe : Value → Shared → Prop), Takes (X.tr pn xe) W → PassesOwn (model X.prog X.w) X.A X.env xe → PSs (X.tr pn xe) body (tb W))
    (hh : HdMix X (h₀ :: hds) l) : PS X (.Try body (h₀ :: hds) [] [] pos) (fun D σ H => tb (wMix X.K Wout D l) D σ H) := ⟨fun pins s σ H D I h => by
  have ok := I.ok
  have go := (hb (wMix X.K Wout D l) (X.pn ++ pins) (fun e t => wpAny (model X.prog X.w) X.A (noteFrame e X.env) (fun _ t2 => wpAny (model X.prog X.w) X.A (setFlight e none) (fun _ t3 => wpAny (model X.prog X.w) X.A (handleBy e X.env (h₀ :: hds)) (SP X pins D) X.xe t3) X.xe t2) X.xe t)
    (fun u t ⟨a, G, s0, ps, σ1, H1, cls, d, eu, I1, gr, up, sk, fr, os, ba, w⟩ => by
      subst eu
      rw [show (X.tr _ _).stack = X.env :: X.outer from hs] at sk
      exact Sky.land Zc.steady (by rw [ok.frames, hs]) hf sk fun h fl up2 => Caught1.clauses (s := { t with heap := h }) ⟨I1.ofTry ok, gr, up.trans up2, fl, fr, os, ba⟩ hs hf tk hh w) PassesOwn.looking).run [] s σ H D (I.toTry _) h
  refine wpAny_Try_except (wpAny_mono go (fun f t e => ?_) fun _ _ e => e)
  cases f with
  | next => exact let ⟨σ1, H1, I1, q1⟩ := e; wpAny_execs_nil ⟨σ1, H1, I1.ofTry ok, q1⟩
  | ret v => exact let ⟨x, σ1, H1, I1, r1, q1⟩ := e; ⟨x, σ1, H1, I1.ofTry ok, r1, q1⟩
  | brk => exact let ⟨σ1, H1, I1, q1⟩ := e; ⟨σ1, H1, I1.ofTry ok, q1⟩
  | cont => exact let ⟨σ1, H1, I1, q1⟩ := e; ⟨σ1, H1, I1.ofTry ok, q1⟩⟩
end
end L2
namespace Dl
open PySem L2
abbrev Hd : Type := Addr × Option Nat × (List (Str × D) → Option D)
def pickH (n : Nat) : List Hd → Xn → Option D
  | [], _ => none
  | (C, oi, k) :: r, x => if x.C = C then (if (match oi with | none => true | some i => decide (i < n)) = true then k (x.fs.getD []) else none) else pickH n r x
def sTryM (hs : List Hd) (fb : Sv) : Sv := fun e => match fb e with
  | .exn x e1 => (match pickH e1.ws.length hs x with | some y => .rt (.d y) e1 | none => .fail)
  | r => r
/-- what a suite must do -/
def SuOk (K : PySem.W.Frag) (C : Addr) (oi : Option Nat) (k : List (Str × D) → Option D) (ts : Addr → Value → Option Addr → TS) : Prop :=
  ∀ (a : Addr) (D' : Ends) (σ : St) (H R : Hp) (x : Xn) (d : Option Addr) (y : D), k (x.fs.getD []) = some y → (∀ i, oi = some i → σ[i]? = some (some (.ref a))) → ExR K R x (.ref C) d → Same R H →
    (∀ (v : V) (H' : Hp), (∃ (p : Addr) (o : HO), H p = none ∧ H' = upd H p o ∧ Rep K (upd R p o) y v) ∨ (H' = H ∧ Rep K R y v) → D'.rt v H') → ts a (.ref C) d D' σ H
inductive HdOkD (K : PySem.W.Frag) : List Hd → List HdT → Prop
  | nil : HdOkD K [] []
  | cons {C : Addr} {oi : Option Nat} {k : List (Str × D) → Option D} {ts : Addr → Value → Option Addr → TS} {l : List Hd} {t : List HdT} (su : SuOk K C oi k ts) (te : PySem.W.exmOne K (.ref C) (.ref C) = some true)
      (ne : ∀ h ∈ l, PySem.W.exmOne K (.ref h.1) (.ref C) = some false) (r : HdOkD K l t) : HdOkD K ((C, oi, k) :: l) ((.ref C, oi, ts) :: t)
theorem pick_mem {n : Nat} : ∀ {l : List Hd} {x : Xn} {y : D}, pickH n l x = some y → ∃ h ∈ l, x.C = h.1
  | [], _, _, h => by cases h
  | (C, oi, k) :: r, x, y, h => by
    unfold pickH at h
    by_cases hc : x.C = C
    · exact ⟨_, List.mem_cons_self, hc⟩
    · rw [if_neg hc] at h
      obtain ⟨g, h1, h2⟩ := pick_mem h
      exact ⟨g, List.mem_cons_of_mem _ h1, h2⟩
section
variable {X : Cx} {Wx : WX} {pos : Pos}
theorem wMix_ok {D' : Ends} {σ : St} {H R : Hp} {x : Xn} {d : Option Addr} {y : D} (xr : ExR X.K R x (.ref x.C) d) (sm : Same R H)
    (q : ∀ (v : V) (H' : Hp), (∃ (p : Addr) (o : HO), H p = none ∧ H' = upd H p o ∧ Rep X.K (upd R p o) y v) ∨ (H' = H ∧ Rep X.K R y v) → D'.rt v H') : ∀ {l : List Hd} {t : List HdT}, HdOkD X.K l t → pickH σ.length l x = some y → wMix X.K Wx D' t (.ref x.C) d σ H
  | _, _, .nil, h => by cases h
  | _, _, .cons (C := C) (oi := oi) (k := k) (ts := ts) su te ne r, h => by
    unfold pickH at h
    by_cases hc : x.C = C
    · rw [if_pos hc] at h
      subst hc
      refine ⟨true, te, fun _ a na => ?_, fun z => Bool.noConfusion z⟩
      cases oi with
      | none =>
        rw [if_pos rfl] at h
        exact su a D' σ H R x d y h (fun i z => by cases z) xr sm q
      | some i =>
        dsimp only at h ⊢
        split at h
        · rename_i hi
          have hi : i < σ.length := of_decide_eq_true hi
          exact su a _ _ H R x d y h (fun j z => by cases z; exact List.getElem?_set_self hi) xr sm q
        · cases h
    · rw [if_neg hc] at h
      obtain ⟨g, h1, h2⟩ := pick_mem h
      refine ⟨false, by rw [h2]; exact ne g h1, fun z => Bool.noConfusion z, fun _ => wMix_ok xr sm q r h⟩
theorem s_tryM {body : List Stmt} {h₀ : ExceptHandler} {hds : List ExceptHandler} {l : List Hd} {t : List HdT} {fb : Sv} (hs : X.stack = X.env :: X.outer) (hf : X.env.frame = some X.env.locals) (tk : L2.Takes X Wx)
    (hb : ∀ (W : WX) (pn : List (Addr × Obj)) (xe : Value → Shared → Prop), L2.Takes (X.tr pn xe) W → PassesOwn (model X.prog X.w) X.A X.env xe → PSs (X.tr pn xe) body (tS X.K W fb))
    (hh : HdMix X (h₀ :: hds) t) (ok : HdOkD X.K l t) : PS X (.Try body (h₀ :: hds) [] [] pos) (tS X.K Wx (sTryM l fb)) :=
  (L2.ps_try_mix (tb := fun W => tS X.K W fb) hs hf tk hb hh).imp fun D' σ H h => by
    obtain ⟨b, R, ρ, e, m, q⟩ := h
    refine ⟨b, R, ρ, e, m, ?_⟩
    unfold sTryM at q
    cases hfe : fb e with
    | nx e1 => rw [hfe] at q; exact q
    | rt w e1 => rw [hfe] at q; exact q
    | bk e1 => rw [hfe] at q; exact q
    | ct e1 => rw [hfe] at q; exact q
    | fail => rw [hfe] at q; exact q.elim
    | exn x e1 =>
      rw [hfe] at q
      intro R' ρ' σ' H' cls d s' m' xr
      dsimp only at q
      cases hp : pickH e1.ws.length l x with
      | none => rw [hp] at q; exact q.elim
      | some y =>
        rw [hp] at q
        have hcls := xr.1
        subst hcls
        refine wMix_ok xr m'.sub (fun v H2 hv => ?_) ok (by rw [m'.len]; exact hp)
        rcases hv with ⟨p, o, hp, rfl, rv⟩ | ⟨rfl, rv⟩
        · exact q _ ρ' σ' _ v (s'.trans (same_upd (m'.freshR hp))) (m'.freshD hp o) rv
        · exact q R' ρ' σ' _ v s' m' rv
end
/-- a part of what a suite returns -/
def PtOk (K : PySem.W.Frag) (C : Addr) (oi : Option Nat) (k : List (Str × D) → Option D) (t : Addr → Value → Option Addr → TE) : Prop :=
  ∀ (a : Addr) (σ : St) (H R : Hp) (x : Xn) (d : Option Addr) (y : D) (Q : VK), k (x.fs.getD []) = some y → (∀ i, oi = some i → σ[i]? = some (some (.ref a))) → ExR K R x (.ref C) d → Same R H → (∀ v, Rep K R y v → Q v H) → t a (.ref C) d σ H Q
def PtsOk (K : PySem.W.Frag) (C : Addr) (oi : Option Nat) (k : List (Str × D) → Option (List D)) (t : Addr → Value → Option Addr → TA) : Prop :=
  ∀ (a : Addr) (σ : St) (H R : Hp) (x : Xn) (d : Option Addr) (ys : List D) (Q : List V → Hp → Prop), k (x.fs.getD []) = some ys → (∀ i, oi = some i → σ[i]? = some (some (.ref a))) → ExR K R x (.ref C) d → Same R H → (∀ vs, RepL K R ys vs → Q vs H) → t a (.ref C) d σ H Q
def kNil : List (Str × D) → Option (List D) := fun _ => some []
def kCons (k : List (Str × D) → Option D) (r : List (Str × D) → Option (List D)) : List (Str × D) → Option (List D) := fun fs => match k fs, r fs with | some x, some xs => some (x :: xs) | _, _ => none
def upTo (f : List D → D) : Option (List D) → Option D
  | some ys => if ys.length ≤ 1000 then some (f ys) else none
  | none => none
def kLstF (k : List (Str × D) → Option (List D)) : List (Str × D) → Option D := fun fs => upTo .lst (k fs)
theorem upTo_some {f : List D → D} {o : Option (List D)} {y : D} (h : upTo f o = some y) : ∃ ys, o = some ys ∧ ys.length ≤ 1000 ∧ y = f ys := by
  cases o with
  | none => cases h
  | some ys =>
    by_cases hl : ys.length ≤ 1000
    · have h2 : upTo f (some ys) = some (f ys) := if_pos hl
      exact ⟨ys, rfl, hl, Option.some.inj (h.symm.trans h2)⟩
    · have h2 : upTo f (some ys) = none := if_neg hl
      exact nomatch h.symm.trans h2
section
variable {K : PySem.W.Frag} {C : Addr} {oi : Option Nat}
theorem pt_fld {i : Nat} {f : Str} : PtOk K C (some i) (kFld f) (fun a cls d => tXf a cls d C f (tVar i)) := fun a σ H R x d y Q hk hi xr sm q => by
  have h2 := xr.2
  unfold kFld at hk
  cases hfs : x.fs with
  | none => rw [hfs] at hk; cases hk
  | some fs =>
    rw [hfs] at hk h2
    have hk : fs.lookup f = some y := hk
    obtain ⟨dd, ws, rfl, g1, g2, g3⟩ := h2
    obtain ⟨c, q1, q2⟩ := lookup_rep (F := fun x v => Rep K R x v) f g2 g3.paired hk
    exact ⟨.ref a, hi i rfl, rfl, rfl, dd, ws, c, rfl, sm _ _ g1, q1, q c q2⟩
theorem pts_nil' : PtsOk K C oi kNil (fun _ _ _ => tNil) := fun a σ H R x d ys Q hk hi xr sm q => by
  cases hk
  exact q _ .nil
theorem pts_cons' {k : List (Str × D) → Option D} {r : List (Str × D) → Option (List D)} {t : Addr → Value → Option Addr → TE} {u : Addr → Value → Option Addr → TA} (h : PtOk K C oi k t) (g : PtsOk K C oi r u) : PtsOk K C oi (kCons k r) (fun a cls d => tCons (t a cls d) (u a cls d)) := fun a σ H R x d ys Q hk hi xr sm q => by
  unfold kCons at hk
  cases h1 : k (x.fs.getD []) with
  | none => simp only [h1] at hk; cases hk
  | some y =>
    cases h2 : r (x.fs.getD []) with
    | none => simp only [h1, h2] at hk; cases hk
    | some zs =>
      simp only [h1, h2] at hk
      cases hk
      exact h a σ H R x d y _ h1 hi xr sm fun v rv => g a σ H R x d zs _ h2 hi xr sm fun vs rvs => q _ (.cons rv rvs)
theorem freeR {R H : Hp} (sm : Same R H) {p : Addr} (hp : H p = none) : R p = none := by
  cases hR : R p with
  | none => rfl
  | some o => exact absurd ((sm p o hR).symm.trans hp) (fun z => nomatch z)
/-- return [part, ..] -/
theorem su_lst {k : List (Str × D) → Option (List D)} {t : Addr → Value → Option Addr → TA} (h : PtsOk K C oi k t) : SuOk K C oi (kLstF k) (fun a cls d => tRet (tLst (t a cls d))) := fun a D' σ H R x d y hk hi xr sm q => by
  obtain ⟨ys, hl, hz, rfl⟩ := upTo_some hk
  exact h a σ H R x d ys _ hl hi xr sm fun vs rvs => ⟨by rw [← rvs.length, sizeL]; omega, fun p hp => q (.ref p) _ (.inl ⟨p, _, hp, rfl, .lst upd_same (RepL.mono (same_upd (freeR sm hp)) rvs)⟩)⟩
end
section
variable {hs : List Hd} {fb : Sv} {e : Env} {w : W} {x : Xn} {y : D}
def tmK (hs : List Hd) (r : SR) : SR := match r with
  | .exn x e1 => (match pickH e1.ws.length hs x with | some y => .rt (.d y) e1 | none => .fail)
  | r => r
@[simp] theorem sTryM_ev : sTryM hs fb e = tmK hs (fb e) := rfl
@[simp] theorem tmK_nx : tmK hs (.nx e) = .nx e := rfl
@[simp] theorem tmK_rt : tmK hs (.rt w e) = .rt w e := rfl
end
end Dl
end
section
set_option Elab.async false
set_option linter.all false
set_option maxRecDepth 100000
set_option maxHeartbeats 4000000
namespace DlSet
open PySem PySem.Spec PySem.Calls PyProof.Rows L2
/-- what set() makes -/
abbrev bare (w : World) : Obj := { cls := .type "set", dict := none, data := .set #[] 0 (.fresh 0 0 (!w.params.followText "set-order")) }
section
variable {P : Program} {w : World} {A : Around} {E : Value → Shared → Prop} {s : Shared} {l S : Addr} {items : Array Value} {ns : List Int}
theorem fill {R : Result → Shared → Prop} (hh : A.handled = none) (hl : s.heap.IsList l items) (hS : s.heap.get? S = some (bare w)) (hit : IntsAre items.toList ns) (hb : ns.length + 1 < scanBound)
    (hR : ∀ (h' : Heap) (tk c : Nat), SetR w h' S (fun j => decide (j ∈ ns)) c → c ≤ ns.length → (∀ b o, b ≠ S → s.heap.get? b = some o → h'.get? b = some o) → R (.ok (.ret .none)) { s with heap := h', toks := tk }) :
    codeAny (model P w) A (.call (.builtin "set.__init__") ⟨[.ref S, .ref l], []⟩) R s := by
  have tS : Shared.TypeIs s (.ref S) "set" := ⟨_, hS, rfl⟩
  have sz : items.size = ns.length := (Array.length_toList (xs := items)).symm.trans (IntsAre.length hit)
  obtain ⟨⟨lc, ld, lda, lsl⟩, gl, cl, n, dl⟩ := id hl
  simp only at cl dl
  subst cl dl
  refine codeAny_call_builtin F.called_set.init.plain F.entry_set_init (check_set_init_1 tS ?_)
  have n1 := F.sub_list_set
  have n2 := F.sub_list_frozenset
  have n3 : (Value.type "list" == Value.type "dict") = false := by decide
  unfold Builtin.«set.__init__» noKeywords Builtin.Frozenset.updateFrom
  generalize hi : pyIter = it
  wp_walk
  subst hi
  have hneS : S ≠ s.heap.objs.size := Nat.ne_of_lt (Heap.lt_size hS)
  have hnel : l ≠ s.heap.objs.size := Nat.ne_of_lt (Heap.lt_size gl)
  have hSl : S ≠ l := fun e => by
    subst e
    have z := congrArg Obj.cls (Option.some.inj (gl.symm.trans hS))
    exact absurd z (by simp)
  refine wpAny_pyIter_list hl (wpAny_bind (wpAny_runValue ?_))
  have quiet : A.in1.in1.handled = none := hh
  refine set_update_ints ((Walks.list quiet s.heap.objs.size l hnel items).toS) S (by simp [hneS, hSl]) ns sz hb (fun i v hv => ?_) (items.size - 0) 0 _ (by omega) (Nat.zero_le _)
    ⟨⟨_, Heap.get?_push_size _ rfl, rfl, rfl⟩, hl.push _⟩ ⟨0, Nat.le_refl 0, setR_new_at (Heap.get?_push_of_some _ hS)⟩ fun t c mv le sr => ?_
  · have hi : i < ns.length := by rw [← sz]; exact (Array.getElem?_eq_some_iff.mp hv).1
    obtain ⟨tk, e⟩ := IntsAre.int_at hit i v (by rw [Array.getElem?_toList]; exact hv)
    exact ⟨ns[i], tk, List.getElem?_eq_getElem hi, by rw [e, List.getD_eq_getElem?_getD, List.getElem?_eq_getElem hi] <;> rfl⟩
  · obtain ⟨th, tg, td, tt, to⟩ := t
    obtain rfl : tg = s.gens := mv.gens
    obtain rfl : td = s.drawn := mv.drawn
    obtain rfl : to = s.os := mv.os
    refine wpAny_pure ?_
    show wpAny _ _ (ret Value.none) _ _ _
    exact wpAny_pure (hR th tt c sr (by rw [← sz]; exact le) fun b o ne e => mv.heap b o (by simp [ne, Nat.ne_of_lt (Heap.lt_size e)]) (Heap.get?_push_of_some _ e))
/-- set(xs), the items whole numbers -/
theorem made {Q : Value → Shared → Prop} (hh : A.handled = none) (hl : s.heap.IsList l items) (hit : IntsAre items.toList ns) (hb : ns.length + 1 < scanBound)
    (hQ : ∀ (h' : Heap) (tk c : Nat), SetR w h' s.heap.objs.size (fun j => decide (j ∈ ns)) c → c ≤ ns.length → (∀ b o, s.heap.get? b = some o → h'.get? b = some o) → Q (.ref s.heap.objs.size) { s with heap := h', toks := tk }) :
    wpAny (model P w) A (call (.type "set") [.ref l]) Q E s := by
  have T := F.called_set
  obtain ⟨c0, tl, mro⟩ := T.mro
  have a1 := T.made
  have a2 := T.sub
  have a3 := T.notType
  have a4 := T.canCreate
  have a5 := F.typeCall_set_1 (.ref l)
  refine wpAny_call (codeAny_of_tree ?_)
  show wpAny _ _ (callAny (.type "set") _) _ _ _
  refine wpAny_pure ⟨Code.quiet_builtin _ (by decide +kernel), codeAny_builtin F.entry_type_call ?_⟩
  rw [Around.under_plain (weight_type_call_type "set" [.ref l] []) rfl]
  repeat (any_goals (first | assumption | wp_step))
  refine codeAny_mono (code_set_led1 (.ref l) (E := E) (Q₁ := fun v t => v = .ref s.heap.objs.size ∧ t = { s with heap := s.heap.push (bare w) }) ⟨rfl, rfl⟩) fun r t e => ?_
  match r, e with
  | .ok (.ret v), e =>
    obtain ⟨rfl, rfl⟩ := e
    have at_ : (s.heap.push (bare w)).get? s.heap.objs.size = some (bare w) := Heap.get?_push_size _ rfl
    have tS : Shared.TypeIs { s with heap := s.heap.push (bare w) } (.ref s.heap.objs.size) "set" := ⟨_, at_, rfl⟩
    have b1 := T.init.lookup
    have b2 := T.init.bind (.ref s.heap.objs.size)
    repeat (any_goals (first | assumption | wp_step))
    refine codeAny_mono (fill (R := wants (fun r t => r = .none ∧ ∃ h' tk c, t = { s with heap := h', toks := tk } ∧ SetR w h' s.heap.objs.size (fun j => decide (j ∈ ns)) c ∧ c ≤ ns.length ∧ (∀ b o, s.heap.get? b = some o → h'.get? b = some o)) E) hh (hl.push _) at_ hit hb
      fun h' tk c sr le old => ⟨rfl, h', tk, c, rfl, sr, le, fun b o e => old b o (Nat.ne_of_lt (Heap.lt_size e)) (Heap.get?_push_of_some _ e)⟩) fun r2 t2 e2 => ?_
    match r2, e2 with
    | .ok (.ret v2), e2 =>
      obtain ⟨rfl, h', tk, c, rfl, sr, le, old⟩ := e2
      repeat (any_goals (first | assumption | wp_step))
      exact hQ _ _ _ sr le old
    | .error _, e2 => exact e2
  | .error _, e => exact e
end
end DlSet
end
section
set_option Elab.async false
set_option linter.all false
set_option maxRecDepth 100000
set_option maxHeartbeats 4000000
namespace Dl
open PySem L2
section
end
section
end
section
variable {f : Ev} {e : Env} {ns : List Int} {k : Int}
@[simp] theorem isLst_dat {l : List D} : isLst e (.d (.lst l)) = true := rfl
end
end Dl
end
section
set_option Elab.async false
set_option linter.all false
set_option maxRecDepth 100000
set_option maxHeartbeats 4000000
namespace Dl
open PySem L2
section
variable {κ : Type} [DecidableEq κ]
def lkp : List (κ × D) → κ → Option D
  | [], _ => none
  | p :: r, k => if p.1 = k then some p.2 else lkp r k
end
def keyD : D → Option Key
  | .int i => some (.inl i)
  | .str x => some (.inr x)
  | _ => none
def keysD : List D → Option (List Key)
  | [] => some []
  | x :: r => match keyD x, keysD r with | some k, some ks => some (k :: ks) | _, _ => none
/-- what a dict holds at a key -/
def getD (kvs : List (Key × D)) (y : D) : Option (Option D) := (keyD y).map (lkp kvs)
def getT (kvs : List (List Key × D)) (y : D) : Option (Option D) := match y with | .tup xs => (keysD xs).map (lkp kvs) | _ => none
section
variable {K : PySem.W.Frag} {R : Hp}
theorem keyD_rep {x : D} {k : Key} {v : V} (h : keyD x = some k) (r : Rep K R x v) : v = kV k := by
  cases r <;> first | (cases h; rfl) | cases h
variable {κ : Type} [DecidableEq κ]
theorem lkp_rep : ∀ {kvs : List (κ × D)} {ws : List (κ × V)} (k : κ), ws.map (·.1) = kvs.map (·.1) → RepL K R (kvs.map (·.2)) (ws.map (·.2)) →
    (lkp kvs k = none ∧ valV ws k = none) ∨ ∃ d v, lkp kvs k = some d ∧ valV ws k = some v ∧ Rep K R d v
  | [], [], k, _, _ => .inl ⟨rfl, valV_nil⟩
  | [], _ :: _, k, h, _ => by simp at h
  | _ :: _, [], k, h, _ => by simp at h
  | p :: r, q :: s, k, h, .cons a t => by
    rw [List.map_cons, List.map_cons] at h
    injection h with h1 h2
    unfold lkp
    by_cases e : p.1 = k
    · rw [if_pos e, valV_pos (h1.trans e)]
      exact .inr ⟨_, _, rfl, rfl, a⟩
    · rw [if_neg e, valV_neg (fun z => e (h1.symm.trans z))]
      exact lkp_rep k h2 t
end
end Dl
end
section
set_option Elab.async false
set_option linter.all false
set_option maxRecDepth 100000
set_option maxHeartbeats 4000000
namespace Dl
open PySem L2
section
variable {K : PySem.W.Frag} {Wx : WX} {b : Bs} {R : Hp} {ρ : Nat → Addr} {e : Env} {σ : St} {H : Hp}
def LkR (K : PySem.W.Frag) (R : Hp) (o : Option D) (ov : Option V) : Prop := (o = none ∧ ov = none) ∨ ∃ d v, o = some d ∧ ov = some v ∧ Rep K R d v
theorem getD_ok {kvs : List (Key × D)} {ws : List (Key × V)} {a : Addr} {y : D} {vy : V} {o : Option D} (h : getD kvs y = some o) (ha : H a = some (.dK ws)) (hk : ws.map (·.1) = kvs.map (·.1)) (hl : RepL K R (kvs.map (·.2)) (ws.map (·.2))) (ry : Rep K R y vy) :
    ∃ ov, DGet H a vy ov ∧ LkR K R o ov := by
  unfold getD at h
  cases hy : keyD y with
  | none => rw [hy] at h; cases h
  | some k =>
    rw [hy] at h
    cases h
    rw [keyD_rep hy ry]
    refine ⟨valV ws k, .k ha, ?_⟩
    rcases lkp_rep k hk hl with ⟨h1, h2⟩ | ⟨d, v, h1, h2, h3⟩
    · exact .inl ⟨h1, h2⟩
    · exact .inr ⟨d, v, h1, h2, h3⟩
end
section
end
section
end
section
end
def eDicC (keep : Option Nat) (kvs : List (Key × D)) : Ev := match keep with
  | none => fun e => .ok (.d (.dic kvs)) e
  | some k => newC k (.dic kvs)
section
variable {X : Cx} {Wx : WX} {pos : Pos}
/-- {k: v, ..}, constants -/
def cPairs (ws : List (Key × V)) : List (TE × TE) := ws.map fun kv => (tC (kV kv.1), tC kv.2)
theorem tPairs_c {σ : St} {H : Hp} {Q : List (V × V) → Hp → Prop} : ∀ {ws : List (Key × V)}, Q (ws.map fun kv => (kV kv.1, kv.2)) H → tPairs (cPairs ws) σ H Q
  | [], h => h
  | kv :: ws, h => tPairs_c (ws := ws) (Q := fun ps H3 => Q ((kV kv.1, kv.2) :: ps) H3) h
theorem d_dicC {keep : Option Nat} {kvs : List (Key × D)} {ws : List (Key × V)} {keys : List (Option Expr)} {values : List Expr} (h : PPs X pos keys values (cPairs ws)) (hk : ws.map (·.1) = kvs.map (·.1)) (hr : ∀ K R, RepL K R (kvs.map (·.2)) (ws.map (·.2)))
    (hm : mergeK [] ws = ws) (hall : keys.all (·.isSome) = true := by rfl) (hl : keys.length = values.length := by rfl) (h0 : keys ≠ [] := by exact fun z => nomatch z) (h15 : keys.length ≤ 15 := by decide) (h15' : ws.length ≤ 15 := by decide) :
    PE X (.Dict keys values pos) (tD X.K Wx (eDicC keep kvs)) := (pe_disp h hall hl h0 h15).imp fun σ H Q q p hp => by
  obtain ⟨b, R, ρ, e, m, q⟩ := q
  refine tPairs_c ⟨upd_same, ws, rfl, h15', ?_⟩
  rw [hm, upd_upd]
  unfold eDicC at q
  cases keep with
  | none => exact OkR.finD q m hp (.dic upd_same hk (hr _ _))
  | some k => exact newC_ok m q hp ⟨ws, upd_same, hk, hr _ _⟩
end
section
variable {f g fo fi fv : Ev} {e : Env} {neg : Bool} {n : Nat} {y x : D} {c : Cell}
@[simp] theorem getD_int {kvs : List (Key × D)} {i : Int} : getD kvs (.int i) = some (lkp kvs (.inl i)) := rfl
@[simp] theorem getD_str {kvs : List (Key × D)} {i : Str} : getD kvs (.str i) = some (lkp kvs (.inr i)) := rfl
@[simp] theorem getT_ints {kvs : List (List Key × D)} {i j : Int} : getT kvs (.tup [.int i, .int j]) = some (lkp kvs [.inl i, .inl j]) := rfl
@[simp] theorem eDicC_none {kvs : List (Key × D)} : eDicC none kvs e = .ok (.d (.dic kvs)) e := rfl
@[simp] theorem eDicC_some {k : Nat} {kvs : List (Key × D)} : eDicC (some k) kvs e = newC k (.dic kvs) e := rfl
end
end Dl
end
section
set_option Elab.async false
set_option linter.all false
set_option maxRecDepth 100000
set_option maxHeartbeats 4000000
namespace Dl
open PySem L2
section
end
section
end
end Dl
end
section
set_option Elab.async false
set_option linter.all false
set_option maxRecDepth 100000
set_option maxHeartbeats 4000000
namespace Dl
open PySem L2
section
variable {K : PySem.W.Frag} {Wx : WX}
theorem eqV_int (i j : Int) : eqV (.int i) (.int j) = decide (i = j) := by
  show (i == j) = _
  by_cases h : i = j <;> simp [h]
end
section
end
end Dl
end
section
set_option Elab.async false
set_option linter.all false
set_option maxRecDepth 100000
set_option maxHeartbeats 4000000
namespace DlRev
open PySem PySem.Spec PySem.Calls PyProof.Rows L2
theorem nolen : typeLookup (.type "list_reverseiterator") "__len__" = pure none := by rw [typeLookup_type, builtinLookup_eq_fast]; kernel_rfl
theorem hint : typeLookup (.type "list_reverseiterator") "__length_hint__" = pure (some (.builtin "list_reverseiterator.__length_hint__")) := by rw [typeLookup_type, builtinLookup_eq_fast]; kernel_rfl
section
variable {P : Program} {w : World} {A : Around} {E : Value → Shared → Prop} {s : Shared} {it l S : Addr} {items : Array Value}
theorem no_room {Q : Bool → Shared → Prop} (ty : s.TypeIs (.ref it) "list_reverseiterator") (q : Q false s) : wpAny (model P w) A (Builtin.List.listLengthHint (.ref it)) Q E s := by
  unfold Builtin.List.listLengthHint
  refine wpAny_bind (wpAny_specialOf ty nolen ?_)
  refine wpAny_ite_split (fun z => absurd z (by decide +kernel)) fun _ => ?_
  refine wpAny_ite_split (fun z => absurd z (by decide +kernel)) fun _ => ?_
  refine wpAny_bind (wpAny_specialOf ty hint ?_)
  generalize hd : ("list_reverseiterator.__length_hint__" : String) = id0
  wp_delta
  rw [show splitId id0 = some ("list_reverseiterator", "__length_hint__") from by subst hd; decide +kernel]
  subst hd
  refine wpAny_bind (wpAny_isInstance (T := "list_reverseiterator") (b := true) ty (by rw [isSubtype_type]; kernel_rfl) ?_)
  refine wpAny_ite_split (fun z => absurd z (by decide)) fun _ => ?_
  refine wpAny_ite_split (fun _ => ?_) fun z => absurd (by decide +kernel) z
  refine wpAny_ite_split (fun z => absurd z (by decide +kernel)) fun _ => ?_
  exact wpAny_pure q
/-- what the new list holds, and what stays -/
def Turned (h : Heap) (S it : Addr) (items : Array Value) (h' : Heap) : Prop := (∀ b o, b ≠ it → b ≠ S → h.get? b = some o → h'.get? b = some o) ∧ ∃ acc c, h'.get? S = some { cls := .type "list", dict := none, data := .seq acc c, slots := #[] } ∧ ItemsOf (fun i v => items[items.size - 1 - i]? = some v) acc items.size
theorem pour {R : Result → Shared → Prop} (hh : A.handled = none) (ri : s.heap.IsRevIter it l ((items.size : Int) - 1)) (li : s.heap.IsList l items) (ne : l ≠ it) (few : items.size ≤ sizeLine) (c0 : Nat) (at_ : s.heap.get? S = some { cls := .type "list", data := .seq #[] c0 }) (nS : S ≠ it) (nl : S ≠ l)
    (hR : ∀ (h' : Heap) (tk : Nat), Turned s.heap S it items h' → R (.ok (.ret .none)) { s with heap := h', toks := tk }) :
    wpAny (model P w) A.in1 (Builtin.List.listExtendWith (.ref S) (.ref it) .none) (fun fin t => match fin with | .done f => R (.ok f) t | .again k => k.quiet = true ∧ codeAny (model P w) A k R t) (fun e t => R (.error e) t) s := by
  have q1 : Builtin.List.listSameRef (.ref S) (.ref it) = false := beq_false_of_ne nS
  have q2 : (Value.type "list_reverseiterator" == Value.type "list") = false := by decide
  have q3 : (Value.type "list_reverseiterator" == Value.type "tuple") = false := by decide
  have ty : s.TypeIs (.ref it) "list_reverseiterator" := ri.typeIs
  unfold Builtin.List.listExtendWith
  refine wpAny_bind (wpAny_typeOf ty ?_)
  simp only [q1, q2, q3, Bool.or_false, Bool.false_eq_true, if_false]
  refine wpAny_bind (wpAny_pyIter_revIter ri ?_)
  refine wpAny_bind (wpAny_holding (no_room ty ?_))
  refine wpAny_ite_split (fun z => absurd z (by decide +kernel)) fun _ => ?_
  refine wpAny_pure ⟨plainId_quiet PySem.F.plain_extend_loop _, ?_⟩
  have z0 : s.heap.IsRevIter it l ((items.size : Int) - 1 - ((0 : Nat) : Int)) := by simpa using ri
  refine codeAny_extend_loopS ((Walks.listRev (prog := P) (w := w) (A := A.in1) hh it l ne items).toS) few S (by simp [nS, nl]) .none items.size 0 s #[] c0 rfl (Nat.zero_le _) ⟨Nat.zero_le _, z0, li⟩ at_ (ItemsOf.nil _) fun t acc c mv at2 its => ?_
  rw [Moved.eq_with mv]
  exact hR t.heap t.toks ⟨fun b o n1 n2 e => mv.heap b o (by simp [n1, n2]) e, acc, c, at2, its⟩
theorem call_listRev {Q : Value → Shared → Prop} (hh : A.handled = none) (ri : s.heap.IsRevIter it l ((items.size : Int) - 1)) (li : s.heap.IsList l items) (ne : l ≠ it) (few : items.size ≤ sizeLine)
    (hQ : ∀ (h' : Heap) (tk : Nat) (acc : Array Value) (c : Nat), (∀ b o, b ≠ it → s.heap.get? b = some o → h'.get? b = some o) → h'.get? s.heap.objs.size = some { cls := .type "list", dict := none, data := .seq acc c, slots := #[] } → ItemsOf (fun i v => items[items.size - 1 - i]? = some v) acc items.size → Q (.ref s.heap.objs.size) { s with heap := h', toks := tk }) :
    wpAny (model P w) A (call (.type "list") [.ref it]) Q E s := by
  have below : ∀ {b o}, s.heap.get? b = some o → b ≠ s.heap.objs.size := fun e => Nat.ne_of_lt (Heap.lt_size e)
  obtain ⟨lo, ge, _⟩ := id li
  obtain ⟨ro, re, _⟩ := ri.typeIs
  refine callType_codes (Q₁ := fun v t => v = .ref s.heap.objs.size ∧ t = { s with heap := s.heap.push { cls := .type "list", data := .seq #[] } }) PySem.F.called_list (PySem.F.typeCall_list_1 _) PySem.F.entry_list_init (code_list_new _ ⟨rfl, rfl⟩) ?_
  rintro _ _ ⟨rfl, rfl⟩
  have a0 : (s.heap.push { cls := .type "list", data := .seq #[] }).get? s.heap.objs.size = some { cls := .type "list", data := .seq #[] } := Heap.get?_push_size _ rfl
  refine ⟨⟨_, a0, rfl⟩, PySem.F.args_list_init_2 _ _, ?_⟩
  show wpAny _ _ (do let old ← Builtin.List.listItems (.ref s.heap.objs.size); Builtin.List.listUpdate (.ref s.heap.objs.size) (fun _ => #[]); letGo old.toList.reverse; Builtin.List.listExtendWith (.ref s.heap.objs.size) (.ref it) .none) _ _ _
  unfold Builtin.List.listItems
  refine wpAny_bind (wpAny_bind (wpAny_seqItems a0 rfl (wpAny_pure ?_)))
  show wpAny _ _ (updateSeq s.heap.objs.size (fun _ => #[]) >>= fun _ => letGo (#[] : Array Value).toList.reverse >>= fun _ => Builtin.List.listExtendWith (.ref s.heap.objs.size) (.ref it) .none) _ _ _
  refine wpAny_bind (wpAny_updateSeq a0 rfl (wpAny_bind (wpAny_letGo ?_)))
  have a1 := Heap.get?_update_self (Obj.mapSeq (fun _ => (#[] : Array Value))) a0 rfl
  have stay : ∀ b o, b ≠ s.heap.objs.size → s.heap.get? b = some o → ((s.heap.push { cls := .type "list", data := .seq #[] }).update s.heap.objs.size (Obj.mapSeq (fun _ => (#[] : Array Value)))).get? b = some o :=
    fun b o n e => (Heap.get?_update_other _ _ (Ne.symm n)).trans (Heap.get?_push_of_some _ e)
  refine pour hh (l := l) (items := items) (ri.at fun o e => stay _ o (below e) e) (li.at fun o e => stay _ o (below e) e) ne few _ a1 (Ne.symm (below re)) (Ne.symm (below ge)) fun h' tk ⟨k1, acc, c, k2, k3⟩ => ?_
  exact ⟨rfl, hQ h' tk acc c (fun b o n e => k1 b o n (below e) (stay b o (below e) e)) k2 k3⟩
end
end DlRev
namespace Dl
open PySem PySem.Calls PyProof.Rows L2
section
variable {X : Cx} {Wx : WX} {a : Expr} {p p2 pos pos2 : Pos}
/-- list(reversed(x)) -/
def tLiRev (K : PySem.W.Frag) (te : TE) : TE := fun σ H Q => te σ H fun v H1 => ∃ (l : Addr) (xs : List V), v = .ref l ∧ SqL K H1 l xs ∧ ∀ q, H1 q = none → Q (.ref q) (upd H1 q (.lst xs.reverse))
theorem pe_liRev {te : TE} (hc : X.calm = true) (hg : Gl X "list") (hm : X.mg "list" = none) (hv : bootBuiltins "list" = some (.type "list")) (hg2 : Gl X "reversed") (hm2 : X.mg "reversed" = none) (he : PE X a te)
    (hs : starEach [a] X.env = (false, eval a X.env) :: starEach [] X.env := by rfl) (hs2 : starEach [.Call (.Name "reversed" p2) [a] [] pos2] X.env = (false, eval (.Call (.Name "reversed" p2) [a] [] pos2) X.env) :: starEach [] X.env := by rfl) :
    PE X (.Call (.Name "list" p) [.Call (.Name "reversed" p2) [a] [] pos2] [] pos) (tLiRev X.K te) := ⟨fun pins s σ H Q I h => by
  have inner : ∀ {Q2 : Value → Shared → Prop}, (∀ (t : Shared) (H1 : Hp) (l : Addr) (xs : List V), Inv X pins σ H1 t → SqL X.K H1 l xs → (∀ q, H1 q = none → Q (.ref q) (upd H1 q (.lst xs.reverse))) → wpAny (model X.prog X.w) X.A (call (.type "reversed") [.ref l]) Q2 X.xe t) →
      wpAny (model X.prog X.w) X.A (eval (.Call (.Name "reversed" p2) [a] [] pos2) X.env) Q2 X.xe s := fun k =>
    Call_ (ld_blt I hg2 hm2 PyProof.Rows.boot_reversed (PyProof.Rows.callWith_type1 (args_cons (thn (he.run pins s σ H _ I h) fun u t ⟨v, H1, I1, r1, l, xs, ev, hq, q⟩ => args_nil (by
      subst ev
      obtain rfl : u = Value.ref l := r1
      exact k t H1 l xs I1 hq q)) hs) hs rfl))
  refine Call_ (ld_blt I hg hm hv (PyProof.Rows.callWith_type1 (args_cons (inner fun t H1 l xs I1 hq q => ?_) hs2) hs2 rfl))
  obtain ⟨its, rv, pl, hz⟩ := I1.list hq
  refine PySem.call_reversed_list pl.isList (args_nil ?_)
  have old : ∀ b o, t.heap.get? b = some o → (t.heap.push (PySem.revObj l ((its.toArray.size : Int) - 1))).get? b = some o := fun b o e => Heap.get?_push_of_some _ e
  obtain ⟨lo, le, _⟩ := id pl.isList
  have sz : (t.heap.push (PySem.revObj l ((its.toArray.size : Int) - 1))).objs.size = t.heap.objs.size + 1 := Heap.size_push ..
  refine DlRev.call_listRev (s := { t with heap := t.heap.push (PySem.revObj l ((its.toArray.size : Int) - 1)) }) (I1.ok.hd hc) ⟨_, Heap.get?_push_size _ rfl, rfl, rfl⟩ (pl.isList.push _) (Nat.ne_of_lt (Heap.lt_size le)) (by rw [List.size_toArray, ← rv.length]; exact hz) fun h' tk acc c k at_ is => ?_
  have keep : ∀ b o, t.heap.get? b = some o → h'.get? b = some o := fun b o e => k b o (Nat.ne_of_lt (Heap.lt_size e)) (old b o e)
  have hp : t.heap.objs.size ≤ (t.heap.push (PySem.revObj l ((its.toArray.size : Int) - 1))).objs.size := by rw [sz]; exact Nat.le_succ _
  exact ⟨.ref _, upd H1 _ (.lst xs.reverse), I1.laid (t' := tk) keep hp ⟨by rw [List.length_reverse]; exact hz, acc.toList, c, RT.vals_rev rv is, at_⟩, rfl, q _ (I1.hok.fresh hp)⟩⟩
def kLiRev (keep : Option Nat) : W → Ev := fun w e => match w with
  | .d (.lst xs) => newL keep xs.reverse e
  | _ => .fail
def eLiRev (keep : Option Nat) (f : Ev) : Ev := fun e => (f e).bind (kLiRev keep)
theorem d_liRev {keep : Option Nat} {f : Ev} (hc : X.calm = true) (hg : Gl X "list") (hm : X.mg "list" = none) (hg2 : Gl X "reversed") (hm2 : X.mg "reversed" = none) (ha : PE X a (tD X.K Wx f))
    (hs : starEach [a] X.env = (false, eval a X.env) :: starEach [] X.env := by rfl) (hs2 : starEach [.Call (.Name "reversed" p2) [a] [] pos2] X.env = (false, eval (.Call (.Name "reversed" p2) [a] [] pos2) X.env) :: starEach [] X.env := by rfl) :
    PE X (.Call (.Name "list" p) [.Call (.Name "reversed" p2) [a] [] pos2] [] pos) (tD X.K Wx (eLiRev keep f)) := (pe_liRev hc hg hm (by rfl) hg2 hm2 ha hs hs2).imp fun σ H Q q =>
  tG_one q fun bs R ρ e H w v m r q2 => by
    unfold kLiRev at q2
    split at q2
    · have r : Rep X.K R (.lst _) v := r
      cases r with
      | lst h1 l1 => exact ⟨_, _, rfl, SqL.of (m.sub _ _ h1), fun q hq => newL_ok m q2 l1.reverse hq⟩
    · exact q2.elim
def lrK (keep : Option Nat) (r : Rs W) : Rs W := r.bind (kLiRev keep)
@[simp] theorem eLiRev_ev {keep : Option Nat} {f : Ev} {e : Env} : eLiRev keep f e = lrK keep (f e) := rfl
@[simp] theorem lrK_ok {keep : Option Nat} {xs : List D} {e : Env} : lrK keep (.ok (.d (.lst xs)) e) = newL keep xs.reverse e := rfl
end
end Dl
end
section
set_option Elab.async false
set_option linter.all false
set_option maxRecDepth 100000
set_option maxHeartbeats 4000000
namespace Dl
open PySem PySem.Calls PyProof.Rows L2
section
end
section
end
end Dl
end
section
set_option Elab.async false
set_option linter.all false
set_option maxRecDepth 100000
set_option maxHeartbeats 4000000
namespace Dl
open PySem L2
section
end
section
end
end Dl
end
section
set_option Elab.async false
set_option linter.all false
set_option maxRecDepth 100000
set_option maxHeartbeats 4000000
namespace Dl
open PySem PySem.Spec PyProof.Rows L2
section
end
section
end
section
end
end Dl
end
section
set_option Elab.async false
set_option linter.all false
set_option maxRecDepth 100000
set_option maxHeartbeats 1000000
namespace RS
open PySem PySem.Spec PyProof.Rows L2 RT
/-- reversed(x), the next place i -/
def IsRs (h : Heap) (a : Addr) (x : Str) (t : Tok) (i : Int) : Prop := ∃ o, h.get? a = some o ∧ o.cls = .type "reversed" ∧ o.data = .fields #[.str x t, rawInt i]
theorem IsRs.at {h h' : Heap} {a : Addr} {x : Str} {t : Tok} {i : Int} (z : IsRs h a x t i) (e : ∀ o, h.get? a = some o → h'.get? a = some o) : IsRs h' a x t i := let ⟨o, ho, r⟩ := z; ⟨o, e _ ho, r⟩
section
variable {prog : Program} {w : World} {A : Around} {E : Value → Shared → Prop} {s : Shared} {x : Str} {t : Tok}
theorem IsRs.typeIs {a : Addr} {i : Int} (z : IsRs s.heap a x t i) : s.TypeIs (.ref a) "reversed" := let ⟨o, ho, hc, _⟩ := z; ⟨o, ho, hc⟩
end
section
end
end RS
namespace Dl
open PySem PySem.Spec PyProof.Rows L2
section
end
end Dl
end
section
set_option Elab.async false
set_option linter.all false
set_option maxRecDepth 100000
set_option maxHeartbeats 4000000
namespace BD
open PySem PySem.W PySem.Spec PySem.Calls PyProof.Rows PyProof.V Builtin
section
end
section
end
end BD
end
section
set_option Elab.async false
set_option linter.all false
set_option maxRecDepth 100000
set_option maxHeartbeats 4000000
namespace BD
open PySem PySem.Spec PySem.Calls PyProof.Rows L2 RT
section
end
section
end
end BD
namespace Dl
open PySem PySem.Spec PyProof.Rows L2
section
end
section
end
end Dl
end
section
set_option Elab.async false
set_option linter.all false
set_option maxRecDepth 100000
set_option maxHeartbeats 4000000
set_option autoImplicit true
namespace KL
open PySem PySem.W PySem.Calls PyProof.Rows
section
end
section
end
end KL
end
section
set_option Elab.async false
set_option linter.all false
set_option maxRecDepth 100000
set_option maxHeartbeats 4000000
namespace KL
open PySem PySem.W PySem.Calls PyProof.Rows
section
end
end KL
end
section
set_option Elab.async false
set_option linter.all false
set_option maxRecDepth 100000
set_option maxHeartbeats 4000000
namespace KL
open PySem PySem.W PySem.Calls PyProof.Rows L2 LamX
section
end
section
end
end KL
end
section
set_option Elab.async false
set_option linter.all false
set_option maxRecDepth 100000
set_option maxHeartbeats 4000000
namespace Dl
open PySem PySem.Spec PyProof.Rows L2
section
end
section
end
section
end
end Dl
end
section
set_option Elab.async false
set_option linter.all false
set_option maxRecDepth 100000
set_option maxHeartbeats 4000000
namespace Dl
open PySem PySem.Spec PyProof.Rows L2
section
end
section
end
section
end
section
variable {k : Nat} {f : Ev} {y : D} {e : Env}
@[simp] theorem keyD_str {s : Str} : keyD (.str s) = some (.inr s) := rfl
@[simp] theorem keyD_int {i : Int} : keyD (.int i) = some (.inl i) := rfl
end
end Dl
end
section
set_option Elab.async false
set_option linter.all false
set_option maxRecDepth 100000
set_option maxHeartbeats 4000000
namespace Dl
open PySem L2
section
end
end Dl
end
section
set_option Elab.async false
set_option linter.all false
set_option maxRecDepth 100000
set_option maxHeartbeats 4000000
namespace Dl
open PySem L2
end Dl
end
section
set_option Elab.async false
set_option linter.all false
set_option maxRecDepth 100000
set_option maxHeartbeats 4000000
namespace DlKs
open PySem PySem.Spec PySem.Calls PyProof.Rows L2
/-- the text of an entry -/
def txt (en : Int × Value) : Str := match en.2 with
  | .str x _ => x
  | _ => Str.empty
def TxE (P : Program) (w : World) (en : Int × Value) : Prop := ∃ x tk, en.2 = Value.str x tk ∧ en.1 = (PySem.strKind P w).hash x
/-- a set of texts at a: m its members in some order -/
def SetS (P : Program) (w : World) (hp : Heap) (a : Addr) (m : List Str) : Prop := ∃ ob ens ep tb, hp.get? a = some ob ∧ ob.ExactSet ∧ ob.data = .set ens ep tb ∧ (∀ en ∈ ens.toList, TxE P w en) ∧
  (ens.toList.map txt).Perm m ∧ m.Nodup ∧ ens.size < scanBound ∧ tb.fits ens.size = true ∧ Ris tb.place.toList ∧ (w.params.followText "set-order" = true ∨ tb.led = true)
section
variable {P : Program} {w : World} {hp hp' : Heap} {a : Addr} {m m' : List Str}
theorem SetS.keep (T : SetS P w hp a m) (k : ∀ ob, hp.get? a = some ob → hp'.get? a = some ob) : SetS P w hp' a m := by
  obtain ⟨ob, ens, ep, tb, g, rest⟩ := T
  exact ⟨ob, ens, ep, tb, k ob g, rest⟩
theorem tx_elems {l : List (Int × Value)} (gd : ∀ en ∈ l, TxE P w en) : ElemsOf (PySem.strKind P w) l := fun en hm => by
  obtain ⟨x, tk, q1, q2⟩ := gd en hm
  refine ⟨⟨x, ?_, q2⟩, ?_⟩
  · rw [q1]; exact PySem.strKind_is P w x tk
  · rw [q1]; rfl
theorem tx_is {en : Int × Value} (gd : TxE P w en) {x : Str} : (PySem.strKind P w).is x en.2 = true ↔ txt en = x := by
  obtain ⟨y, tk, q1, _⟩ := gd
  unfold txt
  rw [q1]
  constructor
  · intro h
    simpa [PySem.strKind, Value.isStrOf] using h
  · rintro rfl
    exact PySem.strKind_is P w y tk
end
section
variable {P : Program} {w : World} {A : Around} {E : Value → Shared → Prop} {s : Shared} {a : Addr} {m : List Str}
theorem put_at {hp : Heap} {ob : Obj} {ens ens' : Array (Int × Value)} {ep : Nat} {tb tb' : SetTable} (g : hp.get? a = some ob) (d : ob.data = .set ens ep tb) :
    (hp.update a (Obj.putSet ens' tb')).get? a = some { ob with data := .set ens' (ep + 1) tb' } := by
  have z := Heap.get?_update_self (Obj.putSet ens' tb') g (by rw [putSet_of ens' tb' d]; rfl)
  rwa [putSet_of ens' tb' d] at z
/-- the new table is laid, and laid anew where it is too full -/
theorem lay_tail {gv : Bool → Sem Unit} (hgv : ∀ (b : Bool) (s1 : Shared) (Z : Unit → Shared → Prop), Z () s1 → wpAny (model P w) A (gv b) Z E s1)
    {ob : Obj} {ens en1 : Array (Int × Value)} {ep : Nat} {tb tb2 : SetTable} (g : s.heap.get? a = some ob) (x : ob.ExactSet) (d : ob.data = .set ens ep tb)
    (gd : ∀ en ∈ en1.toList, TxE P w en) (pm : (en1.toList.map txt).Perm m) (nd : m.Nodup) (sz : en1.size < scanBound) (ft : tb2.fits en1.size = true) (ri : Ris tb2.place.toList)
    (ld : w.params.followText "set-order" = true ∨ tb2.led = true) {dummy : Bool} {Z : Option Bool → Shared → Prop} (hZ : ∀ hp', Heap.SameBut a s.heap hp' → SetS P w hp' a m → Z (some true) { s with heap := hp' }) :
    wpAny (model P w) A (do
        storeSet a en1 tb2
        if (!dummy && tb2.tooFull) = true then do
            gv (relayAll tb2 en1 (SetTable.grown en1.size)).2.2
            storeSet a (relayAll tb2 en1 (SetTable.grown en1.size)).1 (relayAll tb2 en1 (SetTable.grown en1.size)).2.1
            pure (some true)
          else pure (some true)) Z E s := by
  have g1 := put_at (ens' := en1) (tb' := tb2) g d
  have b1 := Heap.SameBut.update s.heap a (Obj.putSet en1 tb2)
  refine wpAny_bind (wpAny_storeSet_of g d ?_ (fits_of_scanBound sz))
  by_cases hfull : (!dummy && tb2.tooFull) = true
  case neg =>
    rw [if_neg hfull]
    exact wpAny_pure (hZ _ b1 ⟨_, en1, _, tb2, g1, x, rfl, gd, pm, nd, sz, ft, ri, ld⟩)
  rw [if_pos hfull]
  have r1 := relayAll_perm tb2 en1 (SetTable.grown en1.size)
  have r2 := relayAll_fits tb2 en1 (SetTable.grown en1.size)
  have r3 := relayAll_ris tb2 en1 (SetTable.grown en1.size)
  have r4 := relayAll_led tb2 en1 (SetTable.grown en1.size)
  generalize relayAll tb2 en1 (SetTable.grown en1.size) = Y at r1 r2 r3 r4 ⊢
  obtain ⟨en2, tb3, _⟩ := Y
  dsimp only at r1 r2 r3 r4 ⊢
  have z1 : en2.size = en1.size := by
    rw [← Array.length_toList, r1.length_eq, Array.length_toList]
  have z2 : en2.size < scanBound := z1 ▸ sz
  refine wpAny_bind (hgv _ _ _ (wpAny_bind (wpAny_storeSet_of g1 rfl ?_ (fits_of_scanBound z2))))
  have g2 := put_at (ens' := en2) (tb' := tb3) g1 rfl
  refine wpAny_pure (hZ _ (b1.trans (Heap.SameBut.update _ a _)) ⟨_, en2, _, tb3, g2, x, rfl, fun en hm => gd en (r1.mem_iff.mp hm), (r1.map txt).trans pm, nd, z2, r2, r3, ?_⟩)
  exact ld.imp id fun y => by rw [r4]; exact y
/-- one text is put into the set -/
theorem put_txt {x : Str} {tk : Tok} {Q : Bool → Shared → Prop} (T : SetS P w s.heap a m) (room : m.length + 1 < scanBound)
    (hQ : ∀ hp' b, Heap.SameBut a s.heap hp' → SetS P w hp' a (if x ∈ m then m else x :: m) → Q b { s with heap := hp' }) :
    wpAny (model P w) A (setAddHashed a (.str x tk) ((PySem.strKind P w).hash x)) Q E s := by
  obtain ⟨ob, ens, ep, tb, g, ex, d, gd, pm, nd, sz, ft, ri, ld⟩ := T
  have kx := PySem.strKind_is P w x tk
  have sc : (Value.str x tk).scannable = true := rfl
  have el := tx_elems gd
  unfold setAddHashed setAddHashedIn
  refine wpAny_holding (wpAny_bind (wpAny_setState_of g d ft ?_))
  dsimp only
  rw [byScan_of sc sz el]
  simp only [↓reduceIte]
  unfold setAddByScan
  refine wpAny_bind (wpAny_bind (wpAny_rule (wpAny_bind (wpAny_setScan_of kx g d ft el ?_))))
  cases hf : List.findIdx? (fun en => (PySem.strKind P w).is x en.2) ens.toList with
  | some j =>
    dsimp only
    obtain ⟨hj, pj, _⟩ := List.findIdx?_eq_some_iff_getElem.mp hf
    have hx : x ∈ m := pm.mem_iff.mp (List.mem_map.mpr ⟨_, List.getElem_mem hj, (tx_is (gd _ (List.getElem_mem hj))).mp pj⟩)
    refine wpAny_pure (wpAny_pure (hQ s.heap _ (Heap.SameBut.refl a s.heap) ?_))
    rw [if_pos hx]
    exact ⟨ob, ens, ep, tb, g, ex, d, gd, pm, nd, sz, ft, ri, ld⟩
  | none =>
    dsimp only
    have hx : x ∉ m := fun z => by
      obtain ⟨en, hm, q⟩ := List.mem_map.mp (pm.mem_iff.mpr z)
      have c := List.findIdx?_eq_none_iff.mp hf en hm
      rw [(tx_is (gd en hm)).mpr q] at c
      cases c
    rw [if_neg hx] at hQ
    have l1 := layNew_perm tb ens ((PySem.strKind P w).hash x) (.str x tk)
    have l2 := layNew_fits tb ens ((PySem.strKind P w).hash x) (.str x tk)
    have l3 := layNew_ris tb ens ((PySem.strKind P w).hash x) (.str x tk) ri
    have l4 := layNew_led tb ens ((PySem.strKind P w).hash x) (.str x tk)
    generalize layNew tb ens ((PySem.strKind P w).hash x) (.str x tk) = Y at l1 l2 l3 l4 ⊢
    obtain ⟨en1, tb1, dummy, gv⟩ := Y
    dsimp only at l1 l2 l3 l4 ⊢
    rw [Array.toList_push] at l1
    have p1 : en1.toList.Perm (((PySem.strKind P w).hash x, Value.str x tk) :: ens.toList) := l1.trans (List.perm_append_singleton _ _)
    have p2 : (en1.toList.map txt).Perm (x :: m) := (p1.map txt).trans (pm.cons x)
    have gd1 : ∀ en ∈ en1.toList, TxE P w en := fun en hm => (List.mem_cons.mp (p1.mem_iff.mp hm)).elim (fun z => z ▸ ⟨x, tk, rfl, rfl⟩) (gd en)
    have nd1 : (x :: m).Nodup := List.nodup_cons.mpr ⟨hx, nd⟩
    have sz1 : en1.size < scanBound := by
      have e1 := p2.length_eq
      rw [List.length_map, Array.length_toList, List.length_cons] at e1
      omega
    have ld1 : w.params.followText "set-order" = true ∨ tb1.led = true := ld.imp id fun y => by rw [l4]; exact y
    have hgv : ∀ (b : Bool) (s1 : Shared) (Z : Unit → Shared → Prop), Z () s1 → wpAny (model P w) A (match b with | true => rule "set.scan.the-table-gave-way" | false => pure ()) Z E s1 :=
      fun b s1 Z q => by cases b <;> first | exact wpAny_pure q | exact wpAny_rule q
    refine wpAny_bind (hgv _ _ _ ?_)
    split
    · refine wpAny_bind ?_
      rw [hashByValue_scannable 8 sc]
      refine wpAny_pure (lay_tail ?_ g ex d gd1 p2 nd1 sz1 ?_ ?_ ?_ ?_)
      · intro b s1 Z q; cases b <;> first | exact wpAny_pure q | exact wpAny_rule q
      · first | (split <;> first | exact l2 | exact SetTable.fits_plain_off l2) | exact l2
      · first | (split <;> exact l3) | exact l3
      · first | (split <;> exact ld1) | exact ld1
      · intro hp' sb r; dsimp only; exact wpAny_pure (hQ hp' _ sb r)
    · refine wpAny_bind (wpAny_pure ?_)
      simp only [↓reduceIte]
      refine lay_tail ?_ g ex d gd1 p2 nd1 sz1 l2 l3 ld1 ?_
      · intro b s1 Z q; cases b <;> first | exact wpAny_pure q | exact wpAny_rule q
      · intro hp' sb r; dsimp only; exact wpAny_pure (hQ hp' _ sb r)
/-- the members, told once each -/
def once (xs : List Str) : List Str := xs.foldl (fun m x => if x ∈ m then m else x :: m) []
theorem once_snoc (xs : List Str) (x : Str) : once (xs ++ [x]) = if x ∈ once xs then once xs else x :: once xs := by
  unfold once
  rw [List.foldl_append]
  rfl
theorem once_len0 : ∀ xs m : List Str, (xs.foldl (fun m x => if x ∈ m then m else x :: m) m).length ≤ m.length + xs.length
  | [], m => Nat.le_refl _
  | x :: xs, m => by
    rw [List.foldl_cons]
    refine Nat.le_trans (once_len0 xs _) ?_
    rw [List.length_cons]
    split
    · omega
    · rw [List.length_cons]; omega
theorem once_len (xs : List Str) : (once xs).length ≤ xs.length := by
  have h := once_len0 xs []
  rw [List.length_nil, Nat.zero_add] at h
  exact h
/-- the loop that fills the set -/
theorem fill_loop {I : Addr} {fp wr : List Addr} {G : Array GenState → Array GenState → Prop} {n : Nat} {Pv : Nat → Value → Prop} {St : Nat → Shared → Prop} {Z : Result → Shared → Prop}
    (Wk : WalksS P w A.in1 I fp wr G n Pv St) (T : Addr) (hT : T ∉ fp) (xs : List Str) (hn : n = xs.length) (room : xs.length + 1 < scanBound) (hv : ∀ i v, Pv i v → ∃ x tk, xs[i]? = some x ∧ v = .str x tk) :
    ∀ (j i : Nat) (s : Shared), n - i = j → i ≤ n → St i s → SetS P w s.heap T (once (xs.take i)) →
      (∀ s', Moved (T :: wr) G s s' → SetS P w s'.heap T (once xs) → Z (.ok (.ret .none)) s') → codeAny (model P w) A (.builtin "set.update.loop" ⟨[.ref T, .ref I], []⟩) Z s := by
  have nw : T ∉ wr := fun z => hT (Wk.sub _ z)
  have up : ∀ b ∈ wr, b ∈ T :: wr := fun b z => List.mem_cons_of_mem _ z
  intro j
  induction j with
  | zero =>
    intro i s e1 e2 st tS k
    obtain rfl : i = n := by omega
    refine codeAny_builtin F.entry_set_update_loop ?_
    rw [Around.under_plainId F.plain_set_update_loop _]
    show wpAny _ A.in1 (pyNext (.ref I) >>= _) _ _ s
    refine wpAny_bind (Wk.done s _ _ st fun s' mv => ?_)
    show wpAny _ A.in1 (ret Value.none) _ _ s'
    rw [List.take_of_length_le (by omega)] at tS
    exact wpAny_pure (k s' (mv.mono up) (tS.keep fun ob z => mv.heap T ob nw z))
  | succ j ih =>
    intro i s e1 e2 st tS k
    have lt : i < n := by omega
    refine codeAny_builtin F.entry_set_update_loop ?_
    rw [Around.under_plainId F.plain_set_update_loop _]
    show wpAny _ A.in1 (pyNext (.ref I) >>= _) _ _ s
    refine wpAny_bind (Wk.item i s _ _ lt st fun v s' pv st' mv => ?_)
    obtain ⟨x, tk, ex, rfl⟩ := hv i v pv
    have tS' := tS.keep (hp' := s'.heap) fun ob z => mv.heap T ob nw z
    show wpAny _ A.in1 (holding [Value.str x tk] (setAdd T (.str x tk)) >>= _) _ _ s'
    refine wpAny_bind (wpAny_holding ?_)
    unfold setAdd
    have hl : (once (xs.take i)).length + 1 < scanBound := by
      have := once_len (xs.take i)
      rw [List.length_take] at this
      omega
    refine wpAny_holding (wpAny_bind ((PySem.strKind P w).pyHash (k := x) (PySem.strKind_is _ _ _ _) ?_))
    refine put_txt (s := { s' with toks := s'.toks + 1 }) tS' hl fun hp' b sb tS2 => ?_
    rw [← once_snoc, show xs.take i ++ [x] = xs.take (i + 1) by rw [List.take_add_one, ex]; rfl] at tS2
    refine wpAny_pure ⟨plainId_quiet F.plain_set_update_loop _, ih (i + 1) _ (by omega) lt (Wk.frame _ s' _ _ st' (Nat.le_succ _) fun c hc ob z => ?_) tS2 fun s2 mv2 tS3 => k s2 ?_ tS3⟩
    · rw [sb.2 c (fun y : c = T => hT (y ▸ hc))]
      exact z
    · refine Moved.trans Wk.gtrans ((mv.mono up).then_heap (Nat.le_succ _) fun c ob hc z => ?_) mv2
      rw [sb.2 c (fun y : c = T => hc (y ▸ List.mem_cons_self))]
      exact z
end
/-- what set() makes -/
abbrev bare (w : World) : Obj := { cls := .type "set", dict := none, data := .set #[] 0 (.fresh 0 0 (!w.params.followText "set-order")) }
section
variable {P : Program} {w : World} {A : Around} {E : Value → Shared → Prop} {s : Shared} {l T : Addr} {items : Array Value} {xs : List Str}
/-- the items are these texts -/
def TxtsAre (items : Array Value) (xs : List Str) : Prop := items.size = xs.length ∧ ∀ (i : Nat) (v : Value), items[i]? = some v → ∃ x tk, xs[i]? = some x ∧ v = Value.str x tk
theorem bare_set {hp : Heap} (g : hp.get? T = some (bare w)) : SetS P w hp T [] := by
  refine ⟨_, #[], 0, _, g, ⟨rfl, rfl, rfl⟩, rfl, fun en hm => by simp at hm, List.Perm.refl _, List.nodup_nil, by unfold scanBound; decide, rfl, ?_, ?_⟩
  · exact List.Pairwise.nil
  · cases h : w.params.followText "set-order" with
    | true => exact .inl rfl
    | false => exact .inr rfl
theorem fill {Z : Result → Shared → Prop} (quiet : A.handled = none) (hl : s.heap.IsList l items) (g : s.heap.get? T = some (bare w)) (tx : TxtsAre items xs) (room : xs.length + 1 < scanBound)
    (k : ∀ (hp' : Heap) (tk : Nat), SetS P w hp' T (once xs) → (∀ b o, b ≠ T → s.heap.get? b = some o → hp'.get? b = some o) → Z (.ok (.ret .none)) { s with heap := hp', toks := tk }) :
    codeAny (model P w) A (.call (.builtin "set.__init__") ⟨[.ref T, .ref l], []⟩) Z s := by
  have isT : Shared.TypeIs s (.ref T) "set" := ⟨_, g, rfl⟩
  obtain ⟨⟨lc, ld, lda, lsl⟩, gl, cl, n, dl⟩ := id hl
  simp only at cl dl
  subst cl dl
  refine codeAny_call_builtin F.called_set.init.plain F.entry_set_init (check_set_init_1 isT ?_)
  have n1 := F.sub_list_set
  have n2 := F.sub_list_frozenset
  have n3 : (Value.type "list" == Value.type "dict") = false := by decide
  unfold Builtin.«set.__init__» noKeywords Builtin.Frozenset.updateFrom
  generalize hi : pyIter = it
  wp_walk
  subst hi
  have ne1 : T ≠ s.heap.objs.size := Nat.ne_of_lt (Heap.lt_size g)
  have ne2 : l ≠ s.heap.objs.size := Nat.ne_of_lt (Heap.lt_size gl)
  have ne3 : T ≠ l := fun e => by
    subst e
    exact absurd (congrArg Obj.cls (Option.some.inj (gl.symm.trans g))) (by simp)
  refine wpAny_pyIter_list hl (wpAny_bind (wpAny_runValue ?_))
  have q1 : A.in1.in1.handled = none := quiet
  refine fill_loop ((Walks.list q1 s.heap.objs.size l ne2 items).toS) T (by simp [ne1, ne3]) xs tx.1 room (fun i v hv => tx.2 i v hv) (items.size - 0) 0 _ (by omega) (Nat.zero_le _)
    ⟨⟨_, Heap.get?_push_size _ rfl, rfl, rfl⟩, hl.push _⟩ (bare_set (Heap.get?_push_of_some _ g)) fun t mv tS => ?_
  obtain ⟨th, tg, td, tt, to⟩ := t
  obtain rfl : tg = s.gens := mv.gens
  obtain rfl : td = s.drawn := mv.drawn
  obtain rfl : to = s.os := mv.os
  refine wpAny_pure ?_
  show wpAny _ _ (ret Value.none) _ _ _
  exact wpAny_pure (k th tt tS fun b o ne e => mv.heap b o (by simp [ne, Nat.ne_of_lt (Heap.lt_size e)]) (Heap.get?_push_of_some _ e))
/-- set(xs), the items texts -/
theorem made {Q : Value → Shared → Prop} (quiet : A.handled = none) (hl : s.heap.IsList l items) (tx : TxtsAre items xs) (room : xs.length + 1 < scanBound)
    (k : ∀ (hp' : Heap) (tk : Nat), SetS P w hp' s.heap.objs.size (once xs) → (∀ b o, s.heap.get? b = some o → hp'.get? b = some o) → Q (.ref s.heap.objs.size) { s with heap := hp', toks := tk }) :
    wpAny (model P w) A (call (.type "set") [.ref l]) Q E s := by
  have K := F.called_set
  obtain ⟨c0, tl, mro⟩ := K.mro
  have a1 := K.made
  have a2 := K.sub
  have a3 := K.notType
  have a4 := K.canCreate
  have a5 := F.typeCall_set_1 (.ref l)
  refine wpAny_call (codeAny_of_tree ?_)
  show wpAny _ _ (callAny (.type "set") _) _ _ _
  refine wpAny_pure ⟨Code.quiet_builtin _ (by decide +kernel), codeAny_builtin F.entry_type_call ?_⟩
  rw [Around.under_plain (weight_type_call_type "set" [.ref l] []) rfl]
  repeat (any_goals (first | assumption | wp_step))
  refine codeAny_mono (code_set_led1 (.ref l) (E := E) (Q₁ := fun v t => v = .ref s.heap.objs.size ∧ t = { s with heap := s.heap.push (bare w) }) ⟨rfl, rfl⟩) fun r t e => ?_
  match r, e with
  | .error _, e => exact e
  | .ok (.ret v), e =>
    obtain ⟨rfl, rfl⟩ := e
    have g : (s.heap.push (bare w)).get? s.heap.objs.size = some (bare w) := Heap.get?_push_size _ rfl
    have isT : Shared.TypeIs { s with heap := s.heap.push (bare w) } (.ref s.heap.objs.size) "set" := ⟨_, g, rfl⟩
    have b1 := K.init.lookup
    have b2 := K.init.bind (.ref s.heap.objs.size)
    repeat (any_goals (first | assumption | wp_step))
    refine codeAny_mono (fill (Z := wants (fun r t => r = .none ∧ ∃ hp' tk, t = { s with heap := hp', toks := tk } ∧ SetS P w hp' s.heap.objs.size (once xs) ∧ (∀ b o, s.heap.get? b = some o → hp'.get? b = some o)) E) quiet (hl.push _) g tx room
      fun hp' tk tS old => ⟨rfl, hp', tk, rfl, tS, fun b o e => old b o (Nat.ne_of_lt (Heap.lt_size e)) (Heap.get?_push_of_some _ e)⟩) fun r2 t2 e2 => ?_
    match r2, e2 with
    | .error _, e2 => exact e2
    | .ok (.ret v2), e2 =>
      obtain ⟨rfl, hp', tk, rfl, tS, old⟩ := e2
      repeat (any_goals (first | assumption | wp_step))
      exact k _ _ tS old
end
end DlKs
end
section
set_option Elab.async false
set_option linter.all false
set_option maxRecDepth 100000
set_option maxHeartbeats 4000000
namespace DlKs
open PySem PySem.Spec PySem.Calls PyProof.Rows L2
section
end
end DlKs
namespace Dl
open PySem PySem.Spec PyProof.Rows L2 DlKs
section
end
section
end
end Dl
end
section
set_option Elab.async false
set_option linter.all false
set_option maxRecDepth 100000
set_option maxHeartbeats 4000000
namespace Dl
open PySem L2 DlKs
section
end
section
end
section
end
end Dl
namespace Dl
open PySem L2 DlKs
section
end
end Dl
end
section
set_option Elab.async false
set_option linter.all false
set_option maxRecDepth 100000
set_option maxHeartbeats 4000000
namespace DlZd
open PySem PySem.Spec PySem.Calls PyProof.Rows L2
section
end
end DlZd
namespace Dl
open PySem L2
section
end
section
end
end Dl
end
section
set_option Elab.async false
set_option linter.all false
set_option maxRecDepth 100000
set_option maxHeartbeats 4000000
namespace DlRrg
open PySem PySem.Spec PySem.Calls PyProof.Rows L2
theorem nolen : typeLookup (.type "range_iterator") "__len__" = pure none := by rw [typeLookup_type, builtinLookup_eq_fast]; kernel_rfl
theorem hint : typeLookup (.type "range_iterator") "__length_hint__" = pure (some (.builtin "range_iterator.__length_hint__")) := by rw [typeLookup_type, builtinLookup_eq_fast]; kernel_rfl
section
variable {P : Program} {w : World} {A : Around} {E : Value → Shared → Prop} {s : Shared} {it S : Addr} {x c : Int} {n : Nat}
theorem call_hint {n : Int} {Q : Value → Shared → Prop} (hit : IsRangeIter s.heap it x n c) (h : Q (.int n s.toks) { s with toks := s.toks + 1 }) : wpAny (model P w) A (call (.builtin "range_iterator.__length_hint__") [.ref it]) Q E s := by
  have hT : s.TypeIs (.ref it) "range_iterator" := ⟨_, hit, rfl⟩
  refine wpAny_call_entry PySem.F.slot_range_iterator_length_hint hT PySem.F.entry_range_iterator_length_hint ?_ (PySem.F.args_range_iterator_length_hint_1 _)
  show wpAny _ _ (field (.ref it) 1 >>= _) _ _ s
  refine wpAny_bind (wpAny_field hit rfl (x := rawInt n) rfl ?_)
  obtain ⟨hp, g, d, tk, os⟩ := s
  wp_walk
  exact ⟨_, rfl, h⟩
theorem no_room {Q : Bool → Shared → Prop} (hit : IsRangeIter s.heap it x n c) (few : n ≤ sizeLine) (q : Q false { s with toks := s.toks + 1 }) : wpAny (model P w) A (Builtin.List.listLengthHint (.ref it)) Q E s := by
  have ty : s.TypeIs (.ref it) "range_iterator" := ⟨_, hit, rfl⟩
  unfold Builtin.List.listLengthHint
  refine wpAny_bind (wpAny_specialOf ty nolen ?_)
  refine wpAny_ite_split (fun z => absurd z (by decide +kernel)) fun _ => ?_
  refine wpAny_ite_split (fun z => absurd z (by decide +kernel)) fun _ => ?_
  refine wpAny_bind (wpAny_specialOf ty hint ?_)
  generalize hd : ("range_iterator.__length_hint__" : String) = id0
  wp_delta
  rw [show splitId id0 = some ("range_iterator", "__length_hint__") from by subst hd; decide +kernel]
  subst hd
  refine wpAny_bind (wpAny_isInstance (T := "range_iterator") (b := true) ty (by rw [isSubtype_type]; kernel_rfl) ?_)
  refine wpAny_ite_split (fun z => absurd z (by decide)) fun _ => ?_
  refine wpAny_ite_split (fun _ => ?_) fun z => absurd (by decide +kernel) z
  refine wpAny_ite_split (fun _ => ?_) fun z => absurd (by decide +kernel) z
  refine wpAny_bind (call_hint hit ?_)
  have hk : Builtin.List.listTooLong ((n : Int).toNat) = false := by
    unfold Builtin.List.listTooLong
    rw [Int.toNat_natCast]
    exact decide_eq_false (Nat.not_lt.mpr few)
  refine wpAny_bind (m := asInt? (.int n s.toks)) (wpAny_pure ?_)
  dsimp only
  rw [if_neg (by rw [hk]; decide)]
  exact wpAny_pure q
def Turned (h : Heap) (S it : Addr) (x c : Int) (n : Nat) (h' : Heap) : Prop := (∀ b o, b ≠ it → b ≠ S → h.get? b = some o → h'.get? b = some o) ∧ ∃ acc k, h'.get? S = some { cls := .type "list", dict := none, data := .seq acc k, slots := #[] } ∧ ItemsOf (fun i v => ∃ t, v = .int (x + i * c) t) acc n
theorem pour {R : Result → Shared → Prop} (hh : A.handled = none) (ri : IsRangeIter s.heap it x n c) (few : n ≤ sizeLine) (c0 : Nat) (at_ : s.heap.get? S = some { cls := .type "list", data := .seq #[] c0 }) (nS : S ≠ it)
    (hR : ∀ (h' : Heap) (tk : Nat), Turned s.heap S it x c n h' → R (.ok (.ret .none)) { s with heap := h', toks := tk }) :
    wpAny (model P w) A.in1 (Builtin.List.listExtendWith (.ref S) (.ref it) .none) (fun fin t => match fin with | .done f => R (.ok f) t | .again k => k.quiet = true ∧ codeAny (model P w) A k R t) (fun e t => R (.error e) t) s := by
  have q1 : Builtin.List.listSameRef (.ref S) (.ref it) = false := beq_false_of_ne nS
  have q2 : (Value.type "range_iterator" == Value.type "list") = false := by decide
  have q3 : (Value.type "range_iterator" == Value.type "tuple") = false := by decide
  have ty : s.TypeIs (.ref it) "range_iterator" := ⟨_, ri, rfl⟩
  unfold Builtin.List.listExtendWith
  refine wpAny_bind (wpAny_typeOf ty ?_)
  simp only [q1, q2, q3, Bool.or_false, Bool.false_eq_true, if_false]
  refine wpAny_bind (wpAny_pyIter_rangeiter ri ?_)
  refine wpAny_bind (wpAny_holding (no_room ri few ?_))
  refine wpAny_ite_split (fun z => absurd z (by decide +kernel)) fun _ => ?_
  refine wpAny_pure ⟨plainId_quiet PySem.F.plain_extend_loop _, ?_⟩
  have z0 : IsRangeIter s.heap it (x + ((0 : Nat) : Int) * c) ((n : Int) - ((0 : Nat) : Int)) c := by simpa using ri
  refine codeAny_extend_loopS ((Walks.range (prog := P) (w := w) (A := A.in1) hh it x c n).toS) few S (by simp [nS]) .none n 0 { s with toks := s.toks + 1 } #[] c0 rfl (Nat.zero_le _) z0 at_ (ItemsOf.nil _) fun t acc c mv at2 its => ?_
  rw [Moved.eq_with mv]
  exact hR t.heap t.toks ⟨fun b o n1 n2 e => mv.heap b o (by simp [n1, n2]) e, acc, c, at2, its⟩
end
end DlRrg
namespace Dl
open PySem PySem.Calls PyProof.Rows L2
section
end
section
end
section
end
end Dl
end
section
set_option Elab.async false
set_option linter.all false
set_option maxRecDepth 100000
set_option maxHeartbeats 4000000
namespace Dl
open PySem L2
theorem flatL_ints : ∀ ns : List Int, flatL (ns.map D.int) = some (ns.map V.int)
  | [] => rfl
  | n :: ns => by
    rw [List.map_cons, flatL, flatL_ints ns]
    rfl
theorem inV_ints (k : Int) : ∀ ns : List Int, inV (.int k) (ns.map V.int) = decide (k ∈ ns)
  | [] => rfl
  | n :: ns => by
    have ih := inV_ints k ns
    unfold inV at *
    rw [List.map_cons, List.any_cons, ih]
    by_cases h : k = n
    · simp [h, eqV_int]
    · have h2 : ¬ n = k := fun e => h e.symm
      simp [h, h2, eqV_int]
@[simp] theorem inB_ints {k : Int} {ns : List Int} : inB (.int k) (.lst (ns.map D.int)) = some (decide (k ∈ ns)) := by
  show inSeq _ _ = _
  unfold inSeq
  rw [flatL_ints]
  show some (inV (.int k) (ns.map V.int)) = _
  rw [inV_ints]
@[simp] theorem notInB_ints {k : Int} {ns : List Int} : notInB (.int k) (.lst (ns.map D.int)) = some (!decide (k ∈ ns)) := by
  unfold notInB
  rw [inB_ints]
section
end
end Dl
end
section
set_option Elab.async false
set_option linter.all false
set_option maxRecDepth 100000
set_option maxHeartbeats 4000000
namespace Dl
open PySem L2
section
end
section
end
section
end
end Dl
end
section
set_option Elab.async false
set_option linter.all false
set_option maxRecDepth 100000
set_option maxHeartbeats 4000000
namespace Dl
open PySem L2
section
end
section
end
section
end
end Dl
end
section
set_option Elab.async false
set_option linter.all false
set_option maxRecDepth 100000
set_option maxHeartbeats 4000000
namespace Dl
open PySem L2
def absD : D → Option D
  | .int i => some (.int (if i < 0 then -i else i))
  | _ => none
section
variable {K : PySem.W.Frag} {Wx : WX}
theorem kAbs_ok : CallD K Wx (k1 absD) (fun xs H Q => ∃ i, xs = [.int i] ∧ Q (.int (if i < 0 then -i else i)) H) := k1_ok fun x z v R H Q hz rv s q n => by
  cases rv <;> first | (cases hz; exact ⟨_, rfl, q _ (.int _)⟩) | cases hz
end
@[simp] theorem absD_int {i : Int} : absD (.int i) = some (.int (if i < 0 then -i else i)) := rfl
section
end
def leS : D → D → Option Bool
  | .int i, .int j => some (decide (i ≤ j))
  | .str x, .str y => some (!decide (y.cps.toList < x.cps.toList))
  | _, _ => none
section
variable {X : Cx} {K : PySem.W.Frag}
theorem op_leS : OpR X (compareOp .LtE) (fun x y H Q => rI0 (fun i j => .bl (decide (i ≤ j))) x y H Q ∨ ∃ i j, x = .str i ∧ y = .str j ∧ Q (.bl (!decide (j.cps.toList < i.cps.toList))) H) := op_le.or op_le_str
theorem leS_ok : OpB K leS (fun x y H Q => rI0 (fun i j => .bl (decide (i ≤ j))) x y H Q ∨ ∃ i j, x = .str i ∧ y = .str j ∧ Q (.bl (!decide (j.cps.toList < i.cps.toList))) H) := fun x y z v u R H Q hg r1 r2 s q => by
  cases x <;> cases y <;> first | (cases hg; done) | skip
  · cases hg; cases r1; cases r2; exact .inl ⟨_, _, rfl, rfl, q⟩
  · cases hg; cases r1; cases r2; exact .inr ⟨_, _, rfl, rfl, q⟩
end
@[simp] theorem leS_int {i j : Int} : leS (.int i) (.int j) = some (decide (i ≤ j)) := rfl
@[simp] theorem leS_str {x y : Str} : leS (.str x) (.str y) = some (!decide (y.cps.toList < x.cps.toList)) := rfl
section
end
def eOfB (f : Env → Rs Bool) : Ev := fun e => (f e).bind fun k e1 => .ok (.d (.bl k)) e1
section
variable {X : Cx} {Wx : WX} {a b c : Expr} {pos : Pos}
theorem d_chain {op op' : CmpOp} {r r' : R2} {g g' : D → D → Option Bool} {f1 f2 f3 : Ev} (ho : OpR X (compareOp op) r) (ho' : OpR X (compareOp op') r') (hd : OpB X.K g r) (hd' : OpB X.K g' r') (ha : PE X a (tD X.K Wx f1)) (hb : PE X b (tD X.K Wx f2)) (hc : PE X c (tD X.K Wx f3))
    (hm : lastMarks [op, op'] [b, c] = false := by with_unfolding_all rfl) : PE X (.Compare a [op, op'] [b, c] pos) (tD X.K Wx (eOfB (bChain g g' f1 f2 f3))) := by
  refine d_test ((pe_chain ho ho' ha hb hc hm).imp fun σ H Q h => ?_)
  refine tG_two h fun bs R ρ e H2 w1 w2 v1 v2 m r1 r2 q => ?_
  cases w1 with
  | loc n => exact q.elim
  | d x =>
    cases w2 with
    | loc n => exact q.elim
    | d y =>
      unfold kB2 at q
      cases hg : g x y with
      | none => simp only [hg] at q; exact q.elim
      | some z =>
        simp only [hg, Rs.bind] at q
        refine hd x y z v1 v2 R H2 _ hg r1 r2 m.sub ⟨z, rfl, ?_⟩
        cases z with
        | false => exact q.fin m rfl
        | true =>
          rw [if_pos rfl] at q
          rw [if_pos rfl]
          have q : OkR X.K Wx lB bs R ρ e σ (fun k H1 => Q (.bl k) H1) ((f3 e).bind (kB2 g' (W.d y))) := q
          refine ⟨bs, R, ρ, e, m, (OkR.bind (L := lW X.K) q).imp fun v H4 h2 => ?_⟩
          obtain ⟨R2, ρ2, e2, w3, s2, l2, m2, r3, _, q2⟩ := h2
          cases w3 with
          | loc n => exact q2.elim
          | d z =>
            unfold kB2 at q2
            cases hg2 : g' y z with
            | none => simp only [hg2] at q2; exact q2.elim
            | some z2 =>
              simp only [hg2] at q2
              exact hd' y z z2 v2 v R2 H4 _ hg2 (Rep.mono s2 r2) r3 m2.sub (q2.fin m2 rfl)
end
def ofbK (r : Rs Bool) : Rs W := r.bind fun k e1 => .ok (.d (.bl k)) e1
section
variable {f : Env → Rs Bool} {e : Env} {k : Bool}
@[simp] theorem eOfB_ev : eOfB f e = ofbK (f e) := rfl
@[simp] theorem ofbK_ok : ofbK (.ok k e) = .ok (.d (.bl k)) e := rfl
end
end Dl
end
section
set_option Elab.async false
set_option linter.all false
set_option maxRecDepth 100000
set_option maxHeartbeats 4000000
namespace Dl
open PySem L2
section
end
section
end
section
end
section
end
section
end
end Dl
end
section
set_option Elab.async false
set_option linter.all false
set_option maxRecDepth 100000
set_option maxHeartbeats 4000000
namespace Dl
open PySem L2
section
end
section
end
end Dl
namespace Dl
open PySem L2
section
end
section
end
end Dl
end
section
set_option Elab.async false
set_option linter.all false
set_option maxRecDepth 100000
set_option maxHeartbeats 4000000
namespace L2
open PySem PySem.Spec PyProof.Rows
section
end
end L2
namespace Dl
open PySem L2
end Dl
end
section
set_option Elab.async false
set_option linter.all false
set_option maxRecDepth 100000
set_option maxHeartbeats 4000000
namespace Dl
open PySem L2
section
end
section
end
end Dl
end
section
set_option Elab.async false
set_option linter.all false
set_option maxRecDepth 100000
set_option maxHeartbeats 4000000
namespace Dl
open PySem L2
def kTupW (k : Nat) : List W → Ev := fun ws e => if ws.length ≤ sizeLine then (if (ws.all fun w => !isLoc k w) = true then newC k (.tw ws) e else .fail) else .fail
section
end
section
variable {X : Cx} {Wx : WX} {a c : Expr} {es : List Expr} {pos p : Pos} {x : Str}
theorem d_tupW {k : Nat} {fs : List Ev} {x1} (ha : PA X es (tDA X.K Wx (evA fs))) : PE X (.Tuple es x1 pos) (tD X.K Wx (eCB (kTupW k) fs)) := (pe_tup ha).imp fun σ H Q h =>
  tG_one h fun bs R ρ e H ws vs m r q => by
    unfold kTupW at q
    split at q
    · rename_i hl
      refine ⟨by rw [← Paired.lengthEq r]; exact hl, fun p hp => ?_⟩
      split at q
      · rename_i hw
        exact newC_ok m q hp ⟨vs, upd_same, lw_setR (e := e) r fun w hm => by
          have := List.all_eq_true.mp hw w hm
          simpa using this⟩
      · exact q.elim
    · exact q.elim
end
end Dl
end
section
set_option Elab.async false
set_option linter.all false
set_option maxRecDepth 100000
set_option maxHeartbeats 4000000
namespace Dl
open PySem PySem.Spec PyProof.Rows L2
section
end
section
end
end Dl
end
section
set_option Elab.async false
set_option linter.all false
set_option maxRecDepth 100000
set_option maxHeartbeats 4000000
namespace Dl
open PySem PySem.Spec PyProof.Rows L2
section
variable {X : Cx} {Wx : WX} {k : Nat} {f : Addr} {fd : FuncData} {F : Fd} {x : Str} {p pos : Pos}
theorem d_call0 {ps : List Str} (tk : Takes X Wx) (G : FnOk X.prog X.w X.K X.mg X.base (L2.CX X.prog X.w) k f fd ps (spD X.K 0 F)) (hr : Room k X.A) (hg : Gl X x) (hm : X.mg x = some (.ref f)) (hk : PySem.W.keepIn X.K (.ref f) = true) (hb : Binds X.K fd ps [])
    (hdb : (x == ("__debug__" : Str)) = false := by decide) :
    PE X (.Call (.Name x p) [] [] pos) (tD X.K Wx (eCall 0 F [] [] [] [])) := by
  refine ⟨fun pins s σ H Q I h => ?_⟩
  obtain ⟨b, R, ρ, e, m, q⟩ := h
  have q : OkR X.K Wx (lW X.K) b R ρ e σ Q (runF F [] [] [] e) := q
  refine wpAny_Call_Name_kw (ld_glob I hg hm ?_ hdb)
  refine PySem.W.callWith_K0 I.kIn hk (run_fnSD (us := []) (vs := []) G hr hb .nil (passAt tk σ) I .nil (call_run m .nil rfl q))
end
end Dl
end
section
set_option Elab.async false
set_option linter.all false
set_option maxRecDepth 100000
set_option maxHeartbeats 4000000
namespace Dl
open PySem L2
def leadC : List (Option Cell) → List Cell
  | some c :: r => c :: leadC r
  | _ => []
def lead (M : List (Option Cell)) : Nat := (leadC M).length
def locIn (n : Nat) : W → Bool
  | .loc k => decide (k < n)
  | .d _ => true
def Cell.inn (n : Nat) : Cell → Bool
  | .obj _ fs => fs.all fun f => locIn n f.2
  | .lw us => us.all (locIn n)
  | .tw us => us.all (locIn n)
  | _ => true
def eLd (g : Nat → Ev) : Ev := fun e => g (lead e.M) e
/-- a call that hands over all leading cells; two more may come back -/
def runL (F : Fd) (ws : List W) : Ev := fun e =>
  let cs := leadC e.M
  let n := cs.length
  if (cs.all (Cell.inn n) && ws.all (locIn n)) = true then
    (match F ws cs with
      | .ok w cs2 => if (decide (cs2.length = n) && (cs2.all (Cell.inn n) && locIn n w)) = true then .ok w { e with M := cs2.map some ++ e.M.drop n }
        else if (decide (cs2.length = n + 2) && (cs2.all (Cell.inn (n + 2)) && (locIn (n + 2) w && (e.open n && e.open (n + 1))))) = true then .ok w { e with M := cs2.map some ++ e.M.drop (n + 2) } else .fail
      | .exn x cs2 => if (decide (cs2.length = n) && cs2.all (Cell.inn n)) = true then .exn x { e with M := cs2.map some ++ e.M.drop n } else .fail
      | .fail => .fail)
  else .fail
def eMethL (C : Addr) (mn : Str) (P : Nat) (F : Fd) (g : Ev) (fs : List Ev) : Ev := fun e => (g e).bind fun w e1 => if (insD C mn e1 w && wl e1 w) = true then
  (evA fs e1).bind fun ws e2 => (if (w :: ws).length = P then runL F (w :: ws) e2 else .fail) else .fail
/-- as many cells come back as stand at the end -/
def mkFL (N m : Nat) (f : Sv) : Fd := fun ws cs => mkF N m (match f (env0 N m ws cs) with | .rt _ e => lead e.M | .nx e => lead e.M | _ => 0) f ws cs
def kPopW (w : W) (ws : List W) : Ev := fun e => match w, ws with
  | .loc n, [] => match e.cell n with
    | some (.lw xs) => match xs[xs.length - 1]? with
      | some y => .ok y (e.setC n (some (.lw xs.dropLast)))
      | none => .fail
    | _ => .fail
  | _, _ => .fail
/-- [] as an own list of whatever comes -/
def kDispW (k : Nat) (ws : List W) : Ev := fun e => if ws.length ≤ sizeLine then (if (ws.all fun w => !isLoc k w) = true then newC k (.lw ws) e else .fail) else .fail
/-- an own tuple in a slot, and the own list ahead of it, frozen -/
def frzD (i : Nat) (e : Env) : Option Env := match e.slot i with
  | some (.loc k) => (match frz (k - 1) e with | some e1 => frz k e1 | none => none)
  | _ => some e
def sThenD (i : Nat) (f : Sv) : Sv := fun e => match f e with
  | .nx e1 => (match frzD i e1 with | some e2 => .nx e2 | none => .fail)
  | r => r
theorem leadC_eq : ∀ M : List (Option Cell), (leadC M).map some = M.take (lead M)
  | [] => rfl
  | none :: r => rfl
  | some c :: r => by
    show some c :: (leadC r).map some = (some c :: r).take (lead r + 1)
    rw [leadC_eq r, List.take_succ_cons]
theorem lead_le (M : List (Option Cell)) : lead M ≤ M.length := by
  have := congrArg List.length (leadC_eq M)
  rw [List.length_map, List.length_take] at this
  unfold lead at *
  omega
theorem lead_app {cs : List Cell} {t : List (Option Cell)} (h : leadC t = []) : leadC (cs.map some ++ t) = cs := by
  induction cs with
  | nil => exact h
  | cons c cs ih => show c :: leadC (cs.map some ++ t) = _; rw [ih]
theorem lead_get (M : List (Option Cell)) {i : Nat} (h : i < lead M) : ∃ c, M[i]? = some (some c) ∧ (leadC M)[i]? = some c := by
  have e := leadC_eq M
  have h2 : i < (leadC M).length := h
  refine ⟨(leadC M)[i], ?_, List.getElem?_eq_getElem h2⟩
  have q : ((leadC M).map some)[i]? = (M.take (lead M))[i]? := by rw [e]
  rw [List.getElem?_take_of_lt h, List.getElem?_map, List.getElem?_eq_getElem h2] at q
  exact q.symm
theorem cellsOf_lead (e : Env) : ∀ n, n ≤ lead e.M → cellsOf e (List.range n) = some ((leadC e.M).take n) := by
  have g : ∀ (L : List Nat) (cs : List Cell), (∀ i, i < L.length → ∃ n c, L[i]? = some n ∧ cs[i]? = some c ∧ e.cell n = some c) → L.length = cs.length → cellsOf e L = some cs := by
    intro L
    induction L with
    | nil => intro cs _ hl; cases cs with
      | nil => rfl
      | cons c cs => cases hl
    | cons n L ih =>
      intro cs h hl
      cases cs with
      | nil => cases hl
      | cons c cs =>
        obtain ⟨n', c', h1, h2, h3⟩ := h 0 (Nat.zero_lt_succ _)
        cases h1; cases h2
        unfold cellsOf
        rw [h3, ih cs (fun i hi => by
          obtain ⟨n', c', g1, g2, g3⟩ := h (i + 1) (Nat.succ_lt_succ hi)
          exact ⟨n', c', by simpa using g1, by simpa using g2, g3⟩) (Nat.succ.inj hl)]
  intro n hn
  refine g _ _ (fun i hi => ?_) ?_
  · rw [List.length_range] at hi
    obtain ⟨c, h1, h2⟩ := lead_get e.M (Nat.lt_of_lt_of_le hi hn)
    refine ⟨i, c, List.getElem?_range hi, by rw [List.getElem?_take_of_lt hi]; exact h2, ?_⟩
    unfold Env.cell
    rw [h1]; rfl
  · rw [List.length_range, List.length_take]
    have : (leadC e.M).length = lead e.M := rfl
    omega
theorem ren_range {n : Nat} {w : W} (h : locIn n w = true) : renW (List.range n) w = some w := by
  cases w with
  | d x => rfl
  | loc k =>
    have hk : k < n := of_decide_eq_true h
    have hm : k ∈ List.range n := List.mem_range.mpr hk
    show (if k ∈ List.range n then some (W.loc ((List.range n).idxOf k)) else none) = _
    rw [if_pos hm, idx_of List.nodup_range (List.getElem?_range hk)]
theorem back_range {n : Nat} {w : W} (h : locIn n w = true) : backW (List.range n) w = some w := by
  cases w with
  | d x => rfl
  | loc k =>
    have hk : k < n := of_decide_eq_true h
    show (match (List.range n)[k]? with | some n => some (W.loc n) | none => none) = _
    rw [List.getElem?_range hk]
theorem mapW_id {g : W → Option W} : ∀ {ws : List W}, (∀ w ∈ ws, g w = some w) → mapW g ws = some ws
  | [], _ => rfl
  | w :: ws, h => by
    unfold mapW
    rw [h w (List.mem_cons_self ..), mapW_id fun x hx => h x (List.mem_cons_of_mem _ hx)]
theorem mapF_id {g : W → Option W} : ∀ {ws : List (Str × W)}, (∀ w ∈ ws, g w.2 = some w.2) → mapF g ws = some ws
  | [], _ => rfl
  | (n, w) :: ws, h => by
    unfold mapF
    have h1 : g w = some w := h (n, w) (List.mem_cons_self ..)
    rw [h1, mapF_id fun x hx => h x (List.mem_cons_of_mem _ hx)]
theorem mapCell_id {g : W → Option W} {n : Nat} (h : ∀ w, locIn n w = true → g w = some w) {c : Cell} (hc : c.inn n = true) : mapCell g c = some c := by
  cases c with
  | obj C fs =>
    show (match mapF g fs with | some fs' => some (Cell.obj C fs') | none => none) = _
    rw [mapF_id fun w hw => h _ (List.all_eq_true.mp hc w hw)]
  | lw us =>
    show (match mapW g us with | some us' => some (Cell.lw us') | none => none) = _
    rw [mapW_id fun w hw => h _ (List.all_eq_true.mp hc w hw)]
  | tw us =>
    show (match mapW g us with | some us' => some (Cell.tw us') | none => none) = _
    rw [mapW_id fun w hw => h _ (List.all_eq_true.mp hc w hw)]
  | _ => rfl
theorem mapCs_id {g : W → Option W} {n : Nat} (h : ∀ w, locIn n w = true → g w = some w) : ∀ {cs : List Cell}, cs.all (Cell.inn n) = true → mapCs g cs = some cs
  | [], _ => rfl
  | c :: cs, hc => by
    rw [List.all_cons, Bool.and_eq_true] at hc
    unfold mapCs
    rw [mapCell_id h hc.1, mapCs_id h hc.2]
theorem upds_range (M : List (Option Cell)) : ∀ (cs : List Cell) (k : Nat), k + cs.length ≤ M.length → upds M (List.range' k cs.length) cs = M.take k ++ (cs.map some ++ M.drop (k + cs.length))
  | [], k, h => by
    show M = _
    simp
  | c :: cs, k, h => by
    have h : k + (cs.length + 1) ≤ M.length := h
    show (upds M (List.range' (k + 1) cs.length) cs).set k (some c) = _
    rw [upds_range M cs (k + 1) (by omega)]
    have e1 : M.take (k + 1) = M.take k ++ [M[k]'(by omega)] := by rw [List.take_succ_eq_append_getElem]
    rw [e1]
    have hl : (M.take k).length = k := by rw [List.length_take]; omega
    rw [List.append_assoc, List.set_append_right _ _ (by omega), hl, Nat.sub_self]
    show M.take k ++ (some c :: (cs.map some ++ M.drop (k + 1 + cs.length))) = M.take k ++ (some c :: (cs.map some ++ M.drop (k + (cs.length + 1))))
    rw [show k + 1 + cs.length = k + (cs.length + 1) by omega]
theorem nodup_of : ∀ {l : List Nat}, l.Nodup → nodup l = true
  | [], _ => rfl
  | n :: ns, h => by
    obtain ⟨h1, h2⟩ := List.nodup_cons.mp h
    unfold nodup
    rw [nodup_of h2]
    simp [h1]
theorem range_two (n : Nat) : List.range n ++ [n, n + 1] = List.range (n + 2) := by
  rw [List.range_succ, List.range_succ]
  simp
/-- what runL tells, runF tells at the right registers -/
theorem runL_runF {F : Fd} {ws : List W} {e : Env} (h : runL F ws e ≠ .fail) : runL F ws e = runF F (List.range (lead e.M)) [] ws e ∨ runL F ws e = runF F (List.range (lead e.M)) [lead e.M, lead e.M + 1] ws e := by
  unfold runL at h ⊢
  dsimp only at h ⊢
  by_cases hc : ((leadC e.M).all (Cell.inn (leadC e.M).length) && ws.all (locIn (leadC e.M).length)) = true
  case neg => rw [if_neg hc] at h; exact absurd rfl h
  rw [if_pos hc] at h ⊢
  rw [Bool.and_eq_true] at hc
  obtain ⟨hc, hw⟩ := hc
  have hn : (leadC e.M).length = lead e.M := rfl
  rw [hn] at hc hw
  have hle := lead_le e.M
  have e1 : mapW (renW (List.range (lead e.M))) ws = some ws := mapW_id fun w hm => ren_range (List.all_eq_true.mp hw w hm)
  have e2 : cellsOf e (List.range (lead e.M)) = some (leadC e.M) := by
    rw [cellsOf_lead e _ (Nat.le_refl _), ← hn, List.take_length]
  have e3 : mapCs (renW (List.range (lead e.M))) (leadC e.M) = some (leadC e.M) := mapCs_id (n := lead e.M) (fun w => ren_range) hc
  have nd : nodup (List.range (lead e.M)) = true := nodup_of List.nodup_range
  have up : ∀ (cs : List Cell) (k : Nat), cs.length = k → k ≤ e.M.length → upds e.M (List.range k) cs = cs.map some ++ e.M.drop k := fun cs k hk hl => by
    subst hk
    have := upds_range e.M cs 0 (by omega)
    rw [List.range_eq_range', this]
    simp
  cases hF : F ws (leadC e.M) with
  | fail => rw [hF] at h; exact absurd rfl h
  | ok w cs2 =>
    rw [hF] at h
    dsimp only at h ⊢
    by_cases h1 : (decide (cs2.length = (leadC e.M).length) && (cs2.all (Cell.inn (leadC e.M).length) && locIn (leadC e.M).length w)) = true
    · rw [if_pos h1]
      left
      rw [Bool.and_eq_true, Bool.and_eq_true] at h1
      obtain ⟨a1, a2, a3⟩ := h1
      have a1 : cs2.length = lead e.M := of_decide_eq_true a1
      rw [hn] at a2 a3
      unfold runF
      rw [if_pos (by rw [List.append_nil, nd]; rfl), e1, e2]
      simp only
      rw [e3]
      simp only
      rw [hF]
      simp only
      rw [List.append_nil, mapCs_id (n := lead e.M) (fun w => back_range) a2, back_range a3]
      simp only
      rw [if_pos (by rw [List.length_range]; exact a1), up cs2 _ a1 hle, hn]
    · rw [if_neg h1] at h ⊢
      by_cases h2 : (decide (cs2.length = (leadC e.M).length + 2) && (cs2.all (Cell.inn ((leadC e.M).length + 2)) && (locIn ((leadC e.M).length + 2) w && (e.open (leadC e.M).length && e.open ((leadC e.M).length + 1))))) = true
      · rw [if_pos h2]
        right
        rw [Bool.and_eq_true, Bool.and_eq_true, Bool.and_eq_true, Bool.and_eq_true] at h2
        obtain ⟨a1, a2, a3, a4, a5⟩ := h2
        have a1 : cs2.length = lead e.M + 2 := of_decide_eq_true a1
        rw [hn] at a2 a3 a4 a5
        have hl2 : lead e.M + 2 ≤ e.M.length := (Env.open_of a5).2.2.1
        unfold runF
        rw [if_pos (by rw [range_two, nodup_of List.nodup_range]; simp [a4, a5]), e1, e2]
        simp only
        rw [e3]
        simp only
        rw [hF]
        simp only
        rw [range_two, mapCs_id (n := lead e.M + 2) (fun w => back_range) a2, back_range a3]
        simp only
        rw [if_pos (by rw [List.length_range]; exact a1), up cs2 _ a1 hl2, hn]
      · rw [if_neg h2] at h; exact absurd rfl h
  | exn x cs2 =>
    rw [hF] at h
    dsimp only at h ⊢
    by_cases h1 : (decide (cs2.length = (leadC e.M).length) && cs2.all (Cell.inn (leadC e.M).length)) = true
    · rw [if_pos h1]
      left
      rw [Bool.and_eq_true] at h1
      obtain ⟨a1, a2⟩ := h1
      have a1 : cs2.length = lead e.M := of_decide_eq_true a1
      rw [hn] at a2
      unfold runF
      rw [if_pos (by rw [List.append_nil, nd]; rfl), e1, e2]
      simp only
      rw [e3]
      simp only
      rw [hF]
      simp only
      rw [mapCs_id (n := lead e.M) (fun w => back_range) a2]
      simp only
      rw [if_pos (by rw [List.length_range]; exact a1), up cs2 _ a1 hle, hn]
    · rw [if_neg h1] at h; exact absurd rfl h
section
variable {K : PySem.W.Frag} {Wx : WX} {b : Bs} {R : Hp} {ρ : Nat → Addr} {e : Env} {σ : St} {H : Hp}
theorem callL_run {P : Nat} {F : Fd} {ws : List W} {vs : List V} {Q : VK} (m : Md K b R ρ e σ H) (rs : Paired (RepW K R ρ) ws vs) (hP : vs.length = P) (q : OkR K Wx (lW K) b R ρ e σ Q (runL F ws e)) :
    spD K P F vs H Q (fun cls d H' => Wx cls d σ H') := by
  by_cases hf : runL F ws e = .fail
  · rw [hf] at q; exact q.elim
  · rcases runL_runF hf with h | h
    · rw [h] at q; exact call_run m rs hP q
    · rw [h] at q; exact call_run m rs hP q
theorem kPopW_ok : MethD K Wx kPopW rPop := fun b R ρ e σ H w v ws vs Q m r rs q => by
  unfold kPopW at q
  split at q
  · rename_i n
    have e1 : v = .ref (ρ n) := r
    subst e1
    cases rs
    split at q
    · rename_i xs hc
      obtain ⟨us, h1, l1⟩ := m.cell n _ hc
      split at q
      · rename_i y hy
        obtain ⟨u, hu, ru⟩ := Paired.get2 l1 hy
        refine ⟨_, us, u, rfl, rfl, h1, by rw [← Paired.lengthEq l1]; exact hu, ?_⟩
        exact q R ρ u _ (Same.refl R) (fun k c1 h => ⟨rfl, by
          rw [Env.cell_setC]
          by_cases z : n = k
          · subst z; rw [if_pos rfl, if_pos (Env.cell_lt hc)]; exact ⟨_, rfl⟩
          · rw [if_neg z]; exact ⟨c1, h⟩⟩) (m.write hc (c' := .lw xs.dropLast) ⟨_, upd_same, Paired.dropLastP l1⟩) ru
      · exact q.elim
    · exact q.elim
  · exact q.elim
theorem Md.frzD {i : Nat} {e' : Env} (m : Md K b R ρ e σ H) (h : frzD i e = some e') : ∃ R', Same R R' ∧ Md K b R' ρ e' σ H := by
  unfold Dl.frzD at h
  split at h
  · rename_i k _
    cases h1 : Dl.frz (k - 1) e with
    | none => rw [h1] at h; cases h
    | some e1 =>
      rw [h1] at h
      obtain ⟨R1, s1, m1⟩ := m.frz h1
      obtain ⟨R2, s2, m2⟩ := m1.frz h
      exact ⟨R2, s1.trans s2, m2⟩
  · cases h; exact ⟨R, Same.refl R, m⟩
end
section
variable {X : Cx} {Wx : WX} {a c o : Expr} {es : List Expr} {pos p apos : Pos} {k : Nat} {f C : Addr} {fd : FuncData} {ps : List Str} {F : Fd} {x mn : Str} {fs : List Ev} {ds : List Value} {st : Stmt}
theorem d_ld {g : Nat → Ev} (h : ∀ n, PE X a (tD X.K Wx (g n))) : PE X a (tD X.K Wx (eLd g)) := ⟨fun pins s σ H Q I q => by
  obtain ⟨b, R, ρ, e, m, q⟩ := q
  exact (h (lead e.M)).run pins s σ H Q I ⟨b, R, ρ, e, m, q⟩⟩
theorem d_methL {np : Nat} {pl : Sem Bool} {g : Ev} (tk : Takes X Wx) (ho : PE X o (tD X.K Wx g)) (cl : Cls X.K C) (hm : Meth X.K C mn f) (G : FnOk X.prog X.w X.K X.mg X.base (L2.CX X.prog X.w) k f fd ps (spD X.K np F)) (hr : Room k X.A) (hb : Binds X.K fd ps [])
    (ha : PA X (a :: es) (tDA X.K Wx (evA fs))) (hst : starEach (a :: es) X.env = (false, eval a X.env) :: starEach es X.env := by rfl) (hpl : (backTo pos (starEach es X.env)).any (·.1) = false := by rfl)
    (ht : eval (.Call (.Attribute o mn apos) (a :: es) [] pos) X.env = (do
      let ov ← eval o X.env
      standAt apos.atName
      let (f, first) ← holding [ov] (getMethod ov mn pl)
      callWith pos f first (backTo pos (starEach (a :: es) X.env)) (backToKw pos (keywordEach [] X.env))) := by rfl) :
    PE X (.Call (.Attribute o mn apos) (a :: es) [] pos) (tD X.K Wx (eMethL C mn np F g fs)) := (pe_methS (E := WE Wx) (dvs := []) ho cl hm G hr hb .nil (fun σ => passAt tk σ) ha hst hpl ht).imp fun σ H Q h =>
  tG_one h fun bs R ρ e H w v m r q => by
    split at q
    · rename_i h1
      rw [Bool.and_eq_true] at h1
      obtain ⟨a', dx, fs', e1, e2, e3⟩ := insD_ok m r h1.1
      refine ⟨a', dx, fs', e1, e2, e3, bs, R, ρ, e, m, (OkR.bind (L := lA X.K) q).imp fun vs H2 h2 => ?_⟩
      obtain ⟨R2, ρ2, e2, ws, s2, l2, m2, r2, _, q2⟩ := h2
      split at q2
      · rename_i hlen
        have r3 : Paired (RepW X.K R2 ρ2) (w :: ws) (v :: (vs ++ [])) := .cons (r.later h1.2 s2 l2) (by rw [List.append_nil]; exact r2)
        exact callL_run m2 r3 (by rw [← Paired.lengthEq r3]; exact hlen) q2
      · exact q2.elim
    · exact q.elim
theorem d_methL0 {np : Nat} {pl : Sem Bool} {g : Ev} (tk : Takes X Wx) (ho : PE X o (tD X.K Wx g)) (cl : Cls X.K C) (hm : Meth X.K C mn f) (G : FnOk X.prog X.w X.K X.mg X.base (L2.CX X.prog X.w) k f fd ps (spD X.K np F)) (hr : Room k X.A) (hb : Binds X.K fd ps [])
    (ht : eval (.Call (.Attribute o mn apos) [] [] pos) X.env = (do
      let ov ← eval o X.env
      standAt apos.atName
      let (f, first) ← holding [ov] (getMethod ov mn pl)
      callWith pos f first (backTo pos (starEach [] X.env)) (backToKw pos (keywordEach [] X.env))) := by rfl) :
    PE X (.Call (.Attribute o mn apos) [] [] pos) (tD X.K Wx (eMethL C mn np F g [])) := (pe_methS0 (E := WE Wx) (dvs := []) ho cl hm G hr hb .nil (fun σ => passAt tk σ) ht).imp fun σ H Q h =>
  tG_one h fun bs R ρ e H w v m r q => by
    split at q
    · rename_i h1
      rw [Bool.and_eq_true] at h1
      obtain ⟨a', dx, fs', e1, e2, e3⟩ := insD_ok m r h1.1
      refine ⟨a', dx, fs', e1, e2, e3, ?_⟩
      have q2 : OkR X.K Wx (lW X.K) bs R ρ e σ Q (if [w].length = np then runL F [w] e else .fail) := q
      split at q2
      · rename_i hlen
        have r3 : Paired (RepW X.K R ρ) [w] (v :: ([] ++ [])) := .cons r .nil
        exact callL_run m r3 (by rw [← Paired.lengthEq r3]; exact hlen) q2
      · exact q2.elim
    · exact q.elim
theorem d_listW {k : Nat} {fs : List Ev} (ha : PA X es (tDA X.K Wx (evA fs))) : PE X (.List es pos) (tD X.K Wx (eCB (kDispW k) fs)) := (pe_lst ha).imp fun σ H Q h =>
  tG_one h fun bs R ρ e H ws vs m r q => by
    unfold kDispW at q
    split at q
    · rename_i hl
      refine ⟨by rw [← Paired.lengthEq r]; exact hl, fun p hp => ?_⟩
      split at q
      · rename_i hw
        exact newC_ok m q hp ⟨vs, upd_same, lw_setR (e := e) r fun w hm => by
          have := List.all_eq_true.mp hw w hm
          simpa using this⟩
      · exact q.elim
    · exact q.elim
theorem s_thenD {i : Nat} {f : Sv} (h : PS X st (tS X.K Wx f)) : PS X st (tS X.K Wx (sThenD i f)) := h.imp fun D σ H ⟨b, R, ρ, e, m, q⟩ => by
  refine ⟨b, R, ρ, e, m, ?_⟩
  unfold sThenD at q
  cases hf : f e with
  | nx e1 =>
    rw [hf] at q
    cases hz : frzD i e1 with
    | none => simp only [hz] at q; exact q.elim
    | some e2 =>
      simp only [hz] at q
      intro R' ρ' σ' H' s' m'
      obtain ⟨R2, s2, m2⟩ := m'.frzD hz
      exact q R2 ρ' σ' H' (s'.trans s2) m2
  | rt w e1 => rw [hf] at q; exact q
  | bk e1 => rw [hf] at q; exact q
  | ct e1 => rw [hf] at q; exact q
  | exn x e1 => rw [hf] at q; exact q
  | fail => rw [hf] at q; exact q
end
section
variable {P : Program} {w : World} {K : PySem.W.Frag} {mg : Str → Option Value} {base : Heap} {x qual : Str} {params : Arguments} {body : List Stmt} {scope : Scope} {dvs : List V} {kws : List (Str × V)} {f : Addr} {fd : FuncData}
theorem fnL_ok {N ps : List Str} {k m : Nat} {fb : Sv} (F : FunD K x qual params body scope dvs kws f fd) (S : FnScope N ps scope)
    (hb : ∀ (cdv : Value) (A : Around) (outer : List PySem.Env) (s : Shared) (H : Hp) (E : XK), Room k (A.deeper (PyProof.Rows.envOfC qual scope s.heap.objs.size f cdv)) →
      PSs (cxOf (L2.CX P w) P w K mg base N qual scope f cdv A outer s H E) body (tS K (WofE E) fb)) : FnOk P w K mg base (L2.CX P w) (k + 1) f fd ps (spD K ps.length (mkFL N.length m fb)) := by
  have h0 : ∀ r, FnOk P w K mg base (L2.CX P w) (k + 1) f fd ps (spD K ps.length (mkF N.length m r fb)) := fun r => fnD_ok F S hb
  refine ⟨fun vs H Q E h => h.1, fun A outer s H args us vs Q E hr he hb2 hv hs => ?_⟩
  obtain ⟨hl, R, ρ, ws, cs, sR, rs, hc, hn, hi, q⟩ := hs
  exact (h0 _).run A outer s H args us vs Q E hr he hb2 hv ⟨hl, R, ρ, ws, cs, sR, rs, hc, hn, hi, q⟩
end
end Dl
end
section
set_option Elab.async false
set_option linter.all false
set_option maxRecDepth 100000
set_option maxHeartbeats 4000000
namespace Dl
open PySem PySem.Spec PyProof.Rows L2
section
end
section
end
def agfZ (C : Addr) (f : Str) (o : Option D) (n : Nat) (c : Option Cell) (e : Env) : SR := match o with
  | some z => (match c with
    | some (.obj C' fs) => if C' = C ∧ fs.length < 1000 then .nx (e.setC n (some (.obj C' (putW f (.d z) fs)))) else .fail
    | _ => .fail)
  | none => .fail
def agfY (C : Addr) (f : Str) (g : D → D → Option D) (n : Nat) (x : D) (w : W) (e : Env) : SR := match w with
  | .d y => agfZ C f (g x y) n (e.cell n) e
  | _ => .fail
def agfL (C : Addr) (f : Str) (g : D → D → Option D) (n : Nat) (o : Option W) (fv : Ev) (e : Env) : SR := match o with
  | some (.d x) => (fv e).to (agfY C f g n x)
  | _ => .fail
def agfX (C : Addr) (f : Str) (g : D → D → Option D) (n : Nat) (c : Option Cell) (fv : Ev) (e : Env) : SR := match c with
  | some (.obj C' fs) => if C' = C then agfL C f g n (fs.lookup f) fv e else .fail
  | _ => .fail
def kAugF (C : Addr) (f : Str) (g : D → D → Option D) (fv : Ev) (o : W) (e : Env) : SR := match o with
  | .loc n => agfX C f g n (e.cell n) fv e
  | _ => .fail
def sAugF (C : Addr) (f : Str) (g : D → D → Option D) (fo fv : Ev) : Sv := fun e => (fo e).to (kAugF C f g fv)
section
variable {X : Cx} {Wx : WX} {o a : Expr} {fo fv : Ev} {p' pos : Pos} {op : Operator} {g : D → D → Option D} {r : R2} {C : Addr} {f : Str}
theorem s_augF (cl : Cls X.K C) (na : NoAttr X.K C f) (ho : PE X o (tD X.K Wx fo)) (hv : PE X a (tD X.K Wx fv)) (hp : OpR X (inplaceOp op) r) (hd : OpD X.K g r) : PS X (.AugAssign (.Attribute o f p') op a pos) (tS X.K Wx (sAugF C f g fo fv)) :=
  (ps_fldaug ho hv (rd := r) hp).imp fun D σ H h => tS_one h fun b R ρ e H w v m r1 q => by
    unfold kAugF at q
    split at q
    case h_2 => exact q.elim
    case h_1 n =>
    have e1 : v = .ref (ρ n) := r1
    subst e1
    unfold agfX at q
    split at q
    case h_2 => exact q.elim
    case h_1 C' fs hc =>
    split at q
    case isFalse => exact q.elim
    case isTrue hC =>
    subst hC
    unfold agfL at q
    split at q
    case h_2 => exact q.elim
    case h_1 x hx =>
    obtain ⟨dx, ws, g1, g2, g3⟩ := m.cell n _ hc
    obtain ⟨vx, hvx, rx⟩ := lookup_rep f g2 g3 hx
    have rx : Rep X.K R x vx := rx
    refine ⟨_, C', dx, ws, vx, rfl, g1, cl, na, hvx, b, R, ρ, e, m, (OkS.to (L := lW X.K) q).imp fun yv H3 h3 => ?_⟩
    obtain ⟨R3, ρ3, e3, w3, s3, l3, m3, r3, q3⟩ := h3
    obtain ⟨hn1, _⟩ := l3 n _ hc
    unfold agfY at q3
    split at q3
    case h_2 => exact q3.elim
    case h_1 y =>
    unfold agfZ at q3
    split at q3
    case h_2 => exact q3.elim
    case h_1 z hg =>
    split at q3
    case h_2 => exact q3.elim
    case h_1 C'' fs3 hc3 =>
    split at q3
    case isFalse => exact q3.elim
    case isTrue hcc =>
    obtain ⟨hC3, hlen⟩ := hcc
    subst hC3
    have r3 : Rep X.K R3 y yv := r3
    refine hd x y z _ _ R3 H3 _ hg (Rep.mono s3 rx) r3 m3.sub (fun u ru => ?_) fun p oo hpp rp => ?_
    · obtain ⟨dx3, ws3, f1, f2, f3⟩ := m3.cell n _ hc3
      have e3 := congrArg List.length f2
      rw [List.length_map, List.length_map] at e3
      obtain ⟨p1, p2⟩ := putW_rep (F := RepW X.K R3 ρ3) (w := .d z) f ru f2 f3
      refine ⟨dx3, ws3, by rw [← hn1]; exact f1, by rw [e3]; exact hlen, ?_⟩
      rw [← hn1]
      exact q3 R3 ρ3 σ _ (Same.refl R3) (m3.write (c' := .obj C'' (putW f (.d z) fs3)) hc3 ⟨dx3, _, upd_same, p1, p2⟩)
    · have m4 := m3.freshD hpp oo
      obtain ⟨dx3, ws3, f1, f2, f3⟩ := m4.cell n _ hc3
      have e3 := congrArg List.length f2
      rw [List.length_map, List.length_map] at e3
      obtain ⟨p1, p2⟩ := putW_rep (F := RepW X.K _ ρ3) (w := .d z) f rp f2 f3
      refine ⟨dx3, ws3, by rw [← hn1]; exact f1, by rw [e3]; exact hlen, ?_⟩
      rw [← hn1]
      exact q3 _ ρ3 σ _ (same_upd (m3.freshR hpp)) (m4.write (c' := .obj C'' (putW f (.d z) fs3)) hc3 ⟨dx3, _, upd_same, p1, p2⟩)
end
section
variable {C C' : Addr} {f : Str} {g : D → D → Option D} {fo fv : Ev} {e : Env} {n : Nat} {x y z : D} {w : W} {fs : List (Str × W)} {c : Option Cell}
def afK (r : Rs W) (C : Addr) (f : Str) (g : D → D → Option D) (fv : Ev) : SR := r.to (kAugF C f g fv)
@[simp] theorem sAugF_ev : sAugF C f g fo fv e = afK (fo e) C f g fv := rfl
@[simp] theorem afK_loc : afK (.ok (.loc n) e) C f g fv = agfX C f g n (e.cell n) fv e := rfl
@[simp] theorem agfX_obj : agfX C f g n (some (.obj C fs)) fv e = agfL C f g n (fs.lookup f) fv e := if_pos rfl
def agfW (r : Rs W) (C : Addr) (f : Str) (g : D → D → Option D) (n : Nat) (x : D) : SR := r.to (agfY C f g n x)
@[simp] theorem agfL_some : agfL C f g n (some (.d x)) fv e = agfW (fv e) C f g n x := rfl
@[simp] theorem agfW_ok : agfW (.ok (.d y) e) C f g n x = agfZ C f (g x y) n (e.cell n) e := rfl
@[simp] theorem agfZ_some : agfZ C f (some z) n (some (.obj C fs)) e = if fs.length < 1000 then .nx (e.setC n (some (.obj C (putW f (.d z) fs)))) else .fail := by
  unfold agfZ
  simp
end
end Dl
end
section
set_option Elab.async false
set_option linter.all false
set_option maxRecDepth 100000
set_option maxHeartbeats 4000000
namespace Dl
open PySem L2
section
end
theorem tgL_len : ∀ {gs : List Tg} {ds : List D} {e e' : Env}, tgL gs ds e = some e' → ds.length = gs.length
  | [], [], _, _, _ => rfl
  | [], _ :: _, _, _, h => by cases h
  | _ :: _, [], _, _, h => by cases h
  | g :: gs, d :: ds, e, e', h => by
    have h : (match g d e with | some e1 => tgL gs ds e1 | none => none) = some e' := h
    cases q : g d e with
    | none => rw [q] at h; cases h
    | some e1 =>
      rw [q] at h
      rw [List.length_cons, List.length_cons, tgL_len h]
end Dl
end
section
set_option Elab.async false
set_option linter.all false
set_option maxRecDepth 100000
set_option maxHeartbeats 4000000
namespace Dl
open PySem PySem.Spec PyProof.Rows L2
abbrev GTab : Type := List (Str × D)
structure GDic (K : PySem.W.Frag) (w : World) (a : Addr) (tab : GTab) : Prop where
  kd : ∃ es n, KDict K w a es n
  hit : ∀ z d, tab.lookup z = some d → ∃ u v, PySem.W.nsIn K a z = some (some u) ∧ RelV v u ∧ ∀ R, Rep K R d v
  miss : ∀ z, tab.lookup z = none → PySem.W.nsIn K a z = some none
section
variable {X : Cx} {Wx : WX} {a : Addr} {tab : GTab}
theorem GDic.ns {K : PySem.W.Frag} {w : World} (G : GDic K w a tab) (z : Str) : ∃ r, PySem.W.nsIn K a z = some r ∧ r.isSome = (tab.lookup z).isSome := by
  cases h : tab.lookup z with
  | none => exact ⟨none, G.miss z h, rfl⟩
  | some d =>
    obtain ⟨u, v, h1, _⟩ := G.hit z d h
    exact ⟨some u, h1, rfl⟩
end
def flatB : D → Value → Bool
  | .non, .none => true
  | .bl b, .bool c => b == c
  | .int i, .int j _ => i == j
  | .str x, .str y _ => x == y
  | _, _ => false
theorem flatB_ok {d : D} {u : Value} (h : flatB d u = true) : ∃ v : V, RelV v u ∧ ∀ (K : PySem.W.Frag) (R : Hp), Rep K R d v := by
  unfold flatB at h
  split at h
  · exact ⟨.non, rfl, fun _ _ => .non⟩
  · rw [beq_iff_eq] at h; subst h; exact ⟨.bl _, rfl, fun _ _ => .bl _⟩
  · rw [beq_iff_eq] at h; subst h; exact ⟨.int _, ⟨_, rfl⟩, fun _ _ => .int _⟩
  · rw [beq_iff_eq] at h; subst h; exact ⟨.str _, ⟨_, rfl⟩, fun _ _ => .str _⟩
  · cases h
def entB (e : DictEntry) (q : Str × D) : Bool := e.key.isStr q.1 && flatB q.2 e.val
def entsB : List DictEntry → GTab → Bool
  | [], [] => true
  | e :: es, q :: qs => entB e q && (match e.key with | .str x _ => x == q.1 | _ => false) && entsB es qs
  | _, _ => false
def gdB (K : PySem.W.Frag) (a : Addr) (tab : GTab) : Bool := match K.lookup a with
  | some ⟨_, _, .dict es _, _⟩ => entsB es.toList tab
  | _ => false
theorem entsB_find : ∀ {es : List DictEntry} {tab : GTab} (z : Str), entsB es tab = true → (match tab.lookup z with
    | some d => ∃ e, es.find? (·.key.isStr z) = some e ∧ flatB d e.val = true
    | none => es.find? (·.key.isStr z) = none) ∧ es.any (·.refKey) = false
  | [], [], z, _ => ⟨rfl, rfl⟩
  | [], _ :: _, _, h => by cases h
  | _ :: _, [], _, h => by cases h
  | e :: es, (k, d) :: qs, z, h => by
    unfold entsB at h
    rw [Bool.and_eq_true, Bool.and_eq_true] at h
    obtain ⟨⟨h1, h2⟩, h3⟩ := h
    obtain ⟨i1, i2⟩ := entsB_find z h3
    unfold entB at h1
    rw [Bool.and_eq_true] at h1
    split at h2
    case h_2 => cases h2
    case h_1 x t hk =>
    rw [beq_iff_eq] at h2
    have h2 : x = k := h2
    subst h2
    have hr : e.refKey = false := by
      show e.key.isRef = false
      rw [hk]; rfl
    refine ⟨?_, by rw [List.any_cons, hr, i2]; rfl⟩
    have hz : e.key.isStr z = (x == z) := by rw [hk]; rfl
    by_cases e1 : z = x
    · subst e1
      rw [show List.lookup z ((z, d) :: qs) = some d by simp]
      refine ⟨e, ?_, h1.2⟩
      rw [List.find?_cons, hz]
      simp
    · rw [show List.lookup z ((x, d) :: qs) = qs.lookup z by
        show (match z == x with | true => some d | false => qs.lookup z) = _
        rw [beq_false_of_ne e1]]
      have hf : List.find? (·.key.isStr z) (e :: es) = List.find? (·.key.isStr z) es := by
        rw [List.find?_cons, hz, show (x == z) = false from beq_false_of_ne (Ne.symm e1)]
      rw [hf]
      exact i1
theorem gdic_of {K : PySem.W.Frag} {w : World} {a : Addr} {tab : GTab} {ks : List Str} (h1 : He.dicW K a = some (He.keysIn w.params ks)) (h2 : gdB K a tab = true) : GDic K w a tab := by
  have kd := He.dicW_ok h1
  obtain ⟨es, n, D⟩ := kd
  unfold gdB at h2
  rw [D.at_] at h2
  have h2 : entsB es.toList tab = true := h2
  refine ⟨⟨es, n, D⟩, fun z d hz => ?_, fun z hz => ?_⟩
  · obtain ⟨g1, g2⟩ := entsB_find z h2
    rw [hz] at g1
    obtain ⟨e, f1, f2⟩ := g1
    obtain ⟨v, r1, r2⟩ := flatB_ok f2
    refine ⟨e.val, v, ?_, r1, r2 K⟩
    unfold PySem.W.nsIn
    rw [D.at_]
    show (match es.toList.find? (·.key.isStr z) with | some e => some (some e.val) | none => if es.toList.any (·.refKey) then none else some none) = _
    rw [f1]
  · obtain ⟨g1, g2⟩ := entsB_find z h2
    rw [hz] at g1
    have g1 : es.toList.find? (·.key.isStr z) = none := g1
    unfold PySem.W.nsIn
    rw [D.at_]
    show (match es.toList.find? (·.key.isStr z) with | some e => some (some e.val) | none => if es.toList.any (·.refKey) then none else some none) = _
    rw [g1, g2]
    rfl
section
end
abbrev TabX : Type := Str × GTab
abbrev AlT : Type := AlX × (Bool × List (Option (List (Option (Str × Int)))))
def obsXt (xs : List (Str × List Str)) (zs : List Str) (ps : List XPair) (ts : List TabX) (fa : List He.Fa) (fn : List He.DefD) (K : PySem.W.Frag) : AlT := (obsXz xs zs ps fa fn K, (ts.all fun t => gdB K (He.ga K t.1) t.2), ts.map fun t => He.dicW K (He.ga K t.1))
def valXt (ts : List TabX) (fn : List He.DefD) (w : World) : AlT := (valX fn, true, ts.map fun t => some (He.keysIn w.params (t.2.map (·.1))))
def SaysXt (xs : List (Str × List Str)) (zs : List Str) (ps : List XPair) (ts : List TabX) (fa : List He.Fa) (fn : List He.DefD) (w : World) (K : PySem.W.Frag) : Prop := obsXt xs zs ps ts fa fn K = valXt ts fn w
section
variable {n : Nat} {xs : List (Str × List Str)} {zs : List Str} {ps : List XPair} {ts : List TabX} {fa : List He.Fa} {fn : List He.DefD} {w : World} {K : PySem.W.Frag}
theorem SaysXt.z0 (c : SaysXt xs zs ps ts fa fn w K) : SaysXz xs zs ps fa fn K := congrArg (fun z : AlT => z.1) c
theorem SaysXt.tab (c : SaysXt xs zs ps ts fa fn w K) (i : Nat) {t : TabX} (h : ts[i]? = some t := by rfl) : GDic K w (He.ga K t.1) t.2 := by
  have e1 : (ts.all fun t => gdB K (He.ga K t.1) t.2) = true := congrArg (fun z : AlT => z.2.1) c
  have e : ts.map (fun t => He.dicW K (He.ga K t.1)) = ts.map fun t => some (He.keysIn w.params (t.2.map (·.1))) := congrArg (fun z : AlT => z.2.2) c
  have e2 : (ts.map fun t => He.dicW K (He.ga K t.1))[i]? = (ts.map fun t => some (He.keysIn w.params (t.2.map (·.1))))[i]? := by rw [e]
  rw [List.getElem?_map, List.getElem?_map, h] at e2
  exact gdic_of (Option.some.inj e2) (List.all_eq_true.mp e1 t (List.mem_of_getElem? h))
end
end Dl
end
section
set_option Elab.async false
set_option linter.all false
set_option maxRecDepth 100000
set_option maxHeartbeats 4000000
namespace Dl
open PySem L2
section
end
end Dl
end
section
set_option Elab.async false
set_option linter.all false
set_option maxRecDepth 100000
set_option maxHeartbeats 4000000
namespace Dl
open PySem PySem.Spec PyProof.Rows L2
def get2D (kvs : List (Key × D)) (y z : D) : Option D := match getD kvs y with
  | some (some d) => some d
  | some none => some z
  | none => none
def kGet2 (kvs : List (Key × D)) (y z : W) : Ev := fun e => match y, z with
  | .d y, .d z => okO (get2D kvs y z) e
  | _, _ => .fail
def dgK (h : Ev) (kvs : List (Key × D)) (r : Rs W) : Rs W := r.bind fun y e2 => if wl e2 y = true then (h e2).bind (kGet2 kvs y) else .fail
def dgK0 (g h : Ev) (w : W) (e1 : Env) : Rs W := match w with
  | .d (.dic kvs) => dgK h kvs (g e1)
  | _ => .fail
def eDGet2 (f g h : Ev) : Ev := fun e => (f e).bind (dgK0 g h)
section
variable {X : Cx} {Wx : WX} {a c d : Expr} {f g h : Ev} {apos cpos pos p1 p2 p3 p4 p5 : Pos} {j k : Nat}
theorem d_dget2 (hu : X.A.units + 64 < cLine) (ha : PE X a (tD X.K Wx f)) (hb : PE X c (tD X.K Wx g)) (hc : PE X d (tD X.K Wx h)) (m : M2 X a "get" apos c d cpos) : PE X (.Call (.Attribute a "get" apos) [c, d] [] cpos) (tD X.K Wx (eDGet2 f g h)) := (pe_dget2 (by omega) ha hb hc m).imp fun σ H Q q =>
  tG_one q fun bs R ρ e H w v m r q => by
    unfold dgK0 at q
    split at q
    · rename_i kvs
      have r : Rep X.K R (.dic kvs) v := r
      cases r with
      | dic h1 h2 h3 =>
        refine ⟨_, rfl, .inl ⟨_, .of (m.sub _ _ h1)⟩, bs, R, ρ, e, m, (OkR.bind (L := lW X.K) q).imp fun y H2 k2 => ?_⟩
        obtain ⟨R2, ρ2, e2, y', s2, l2, m2, r2, _, q2⟩ := k2
        split at q2
        · rename_i hl
          refine ⟨bs, R2, ρ2, e2, m2, (OkR.bind (L := lW X.K) q2).imp fun z H3 k3 => ?_⟩
          obtain ⟨R3, ρ3, e3, z', s3, l3, m3, r3, _, q3⟩ := k3
          have ry := r2.later hl s3 l3
          cases y' with
          | loc n => exact q3.elim
          | d ya =>
          cases z' with
          | loc n => exact q3.elim
          | d za =>
            obtain ⟨u, hz, q3⟩ := okO_ok q3
            have h1' : H3 _ = some _ := m3.sub _ _ (s3 _ _ (s2 _ _ h1))
            have h3' := (h3.mono s2).mono s3
            unfold get2D at hz
            cases hg : getD kvs ya with
            | none => rw [hg] at hz; cases hz
            | some o =>
              rw [hg] at hz
              obtain ⟨ov, g1, g2⟩ := getD_ok (o := o) hg h1' h2 h3' ry
              rcases g2 with ⟨z1, z2⟩ | ⟨d', v', z1, z2, rd⟩
              · subst z1 z2
                cases hz
                exact ⟨_, g1, q3.fin m3 r3⟩
              · subst z1 z2
                cases hz
                exact ⟨_, g1, q3.fin m3 rd⟩
        · exact q2.elim
    · exact q.elim
end
section
end
section
variable {f g h : Ev} {e : Env} {a b y z : Str} {kvs : List (Key × D)} {d u : D} {i : Int}
@[simp] theorem eDGet2_ev : eDGet2 f g h e = (match f e with | .ok w e1 => dgK0 g h w e1 | .exn x e1 => .exn x e1 | .fail => .fail) := by
  show (f e).bind (dgK0 g h) = _
  cases f e <;> rfl
@[simp] theorem dgK0_dic : dgK0 g h (.d (.dic kvs)) e = dgK h kvs (g e) := rfl
@[simp] theorem dgK_ok : dgK h kvs (.ok (.d d) e) = (match h e with | .ok z e1 => kGet2 kvs (.d d) z e1 | .exn x e1 => .exn x e1 | .fail => .fail) := by
  show (h e).bind (kGet2 kvs (.d d)) = _
  cases h e <;> rfl
@[simp] theorem kGet2_d : kGet2 kvs (.d d) (.d u) e = okO (get2D kvs d u) e := rfl
end
end Dl
end
section
set_option Elab.async false
set_option linter.all false
set_option maxRecDepth 100000
set_option maxHeartbeats 4000000
namespace Dl
open PySem PySem.Spec PyProof.Rows L2
def SqTK (K : PySem.W.Frag) (a : Addr) (xs : List V) : Prop := ∃ (o : Obj) (its : Array Value) (n : Nat), K.lookup a = some o ∧ o.cls = .type "tuple" ∧ o.data = .seq its n ∧ its.size ≤ sizeLine ∧ Vals xs its.toList
def GRow (K : PySem.W.Frag) (v : V) (r : List Str) : Prop := ∃ p, v = .ref p ∧ SqTK K p (r.map V.str)
structure GRows (K : PySem.W.Frag) (a : Addr) (rows : List (List Str)) : Prop where
  ex : ∃ vs : List V, SqTK K a vs ∧ Paired (GRow K) vs rows
def strsB : List Value → List Str → Bool
  | [], [] => true
  | .str x _ :: vs, y :: ys => x == y && strsB vs ys
  | _, _ => false
def rowB (K : PySem.W.Frag) (v : Value) (r : List Str) : Bool := match v with
  | .ref p => (match K.lookup p with
    | some ⟨.type c, _, .seq its _, _⟩ => decide (c = "tuple") && (decide (its.size ≤ 64) && strsB its.toList r)
    | _ => false)
  | _ => false
def rowsB (K : PySem.W.Frag) : List Value → List (List Str) → Bool
  | [], [] => true
  | v :: vs, r :: rs => rowB K v r && rowsB K vs rs
  | _, _ => false
def grB (K : PySem.W.Frag) (a : Addr) (rows : List (List Str)) : Bool := match K.lookup a with
  | some ⟨.type c, _, .seq its _, _⟩ => decide (c = "tuple") && (decide (its.size ≤ 64) && rowsB K its.toList rows)
  | _ => false
theorem strsB_ok : ∀ {vs : List Value} {r : List Str}, strsB vs r = true → Vals (r.map V.str) vs
  | [], [], _ => .nil
  | [], _ :: _, h => by cases h
  | v :: vs, [], h => by cases v <;> cases h
  | v :: vs, y :: ys, h => by
    cases v with
    | str x t =>
      have h : (x == y && strsB vs ys) = true := h
      rw [Bool.and_eq_true, beq_iff_eq] at h
      obtain ⟨h1, h2⟩ := h
      subst h1
      exact .cons ⟨t, rfl⟩ (strsB_ok h2)
    | _ => cases h
theorem le_line {n : Nat} (h : n ≤ 64) : n ≤ sizeLine := Nat.le_trans h (by decide +kernel)
theorem rowB_ok {K : PySem.W.Frag} {v : Value} {r : List Str} (h : rowB K v r = true) : ∃ u : V, RelV u v ∧ GRow K u r := by
  unfold rowB at h
  split at h
  · rename_i p
    split at h
    · rename_i c od its n sl hl
      rw [Bool.and_eq_true, Bool.and_eq_true] at h
      obtain ⟨h1, h2, h3⟩ := h
      have h1 := of_decide_eq_true h1
      subst h1
      exact ⟨.ref p, rfl, p, rfl, _, its, n, hl, rfl, rfl, le_line (of_decide_eq_true h2), strsB_ok h3⟩
    · cases h
  · cases h
theorem rowsB_ok {K : PySem.W.Frag} : ∀ {vs : List Value} {rows : List (List Str)}, rowsB K vs rows = true → ∃ us : List V, Vals us vs ∧ Paired (GRow K) us rows
  | [], [], _ => ⟨[], .nil, .nil⟩
  | [], _ :: _, h => by cases h
  | v :: vs, [], h => by cases h
  | v :: vs, r :: rs, h => by
    have h : (rowB K v r && rowsB K vs rs) = true := h
    rw [Bool.and_eq_true] at h
    obtain ⟨u, h1, h2⟩ := rowB_ok h.1
    obtain ⟨us, h3, h4⟩ := rowsB_ok h.2
    exact ⟨u :: us, .cons h1 h3, .cons h2 h4⟩
theorem grows_of {K : PySem.W.Frag} {a : Addr} {rows : List (List Str)} (h : grB K a rows = true) : GRows K a rows := by
  unfold grB at h
  split at h
  · rename_i c od its n sl hl
    rw [Bool.and_eq_true, Bool.and_eq_true] at h
    obtain ⟨h1, h2, h3⟩ := h
    have h1 := of_decide_eq_true h1
    subst h1
    obtain ⟨us, h4, h5⟩ := rowsB_ok h3
    exact ⟨us, ⟨_, its, n, hl, rfl, rfl, le_line (of_decide_eq_true h2), h4⟩, h5⟩
  · cases h
def goG (gs : List Tg) (body : Sv) (fg : List Nat) : List (List Str) → Sv
  | [], e => .nx e
  | r :: rs, e => (match tgL gs (r.map D.str) e with
    | none => .fail
    | some e1 => match body e1 with
      | .nx e2 => goG gs body fg rs (e2.clr fg)
      | .ct e2 => goG gs body fg rs (e2.clr fg)
      | .bk e2 => .nx e2
      | r => r)
def sForG (gs : List Tg) (fg : List Nat) (rows : List (List Str)) (body : Sv) : Sv := fun e => goG gs body fg rows e
theorem rep_strs {K : PySem.W.Frag} {R : Hp} : ∀ {r : List Str}, RepL K R (r.map D.str) (r.map V.str)
  | [] => .nil
  | x :: r => .cons (.str x) rep_strs
section
variable {X : Cx} {Wx : WX} {tg : Expr} {pos : Pos}
theorem s_forG {it : Expr} {body : List Stmt} {a : Addr} {rows : List (List Str)} {gs : List Tg} {fg : List Nat} {vs : List Nat} {u : TGs} {fb : Sv} {n : Nat} (hp : PassesOwn (model X.prog X.w) X.A X.env X.xe) (hc : X.calm = true) (G : GRows X.K a rows) (hi : PE X it (tC (.ref a)))
    (hn : gs.length = n) (hg : PG X tg (gTup X.K n u)) (hd : TgsD X.K gs vs u) (hb : PSs X body (tS X.K Wx fb)) (hs : ∀ x, foldedSetIterable it X.env x = pure x := by intro _; rfl) : PS X (.For tg it body [] pos) (tS X.K Wx (sForG gs fg rows fb)) := (ps_for hp hc (pi_tup hi) hg hb hs).imp fun D σ H h => by
  obtain ⟨b, R1, ρ1, e1, m1, q1⟩ := h
  obtain ⟨us, hq, hr⟩ := G.ex
  have hT : ∀ H : Hp, SqT X.K H a us := fun H => .inr hq
  refine ⟨a, rfl, ⟨us, hT H⟩, ?_⟩
  have hlen := Paired.lengthEq hr
  have w := walk_tup (K := X.K) (a := a) (xs := us)
  refine ⟨fun i m σ H => m = rows.length - i ∧ i ≤ rows.length ∧ ∃ R' ρ' e', Same R1 R' ∧ Md X.K b R' ρ' e' σ H ∧ OkS X.K Wx b R' D (goG gs fb fg (rows.drop i) e'), ⟨rows.length, rfl, Nat.zero_le _, R1, ρ1, e1, Same.refl _, m1, q1⟩, ?_⟩
  rintro i m σ' H' ⟨rfl, hi, R', ρ', e', s', m', q'⟩
  by_cases hlt : i < rows.length
  · have hdrop : rows.drop i = rows[i] :: rows.drop (i + 1) := List.drop_eq_getElem_cons hlt
    rw [hdrop] at q'
    unfold goG at q'
    have hiu : i < us.length := by rw [hlen]; exact hlt
    refine .inr ⟨w.goes i H' hiu (hT H'), fun σ2 H2 => ∃ m2, m2 < rows.length - i ∧ (m2 = rows.length - (i + 1) ∧ i + 1 ≤ rows.length ∧ ∃ R2 ρ2 e2, Same R1 R2 ∧ Md X.K b R2 ρ2 e2 σ2 H2 ∧ OkS X.K Wx b R2 D (goG gs fb fg (rows.drop (i + 1)) e2)), fun σ2 H2 n2 => n2, fun x H2 y => ?_⟩
    obtain ⟨eH, hx⟩ := w.yields i H' x H2 hiu (hT H') y
    subst eH
    obtain ⟨r, hr1, hr2⟩ := Paired.get2 hr hx
    have er : rows[i] = r := by
      rw [List.getElem?_eq_getElem hlt] at hr1
      exact Option.some.inj hr1
    rw [er] at q'
    obtain ⟨p, ep, hp2⟩ := hr2
    subst ep
    cases hge : tgL gs (r.map Dl.D.str) e' with
    | none => simp only [hge] at q'; exact q'.elim
    | some e2 =>
      simp only [hge] at q'
      refine ⟨p, r.map V.str, rfl, .inr hp2, ?_, hd.2 b R' ρ' e' e2 (r.map Dl.D.str) (r.map V.str) σ' H2 _ m' rep_strs hge fun σ3 m3 _ _ => ⟨b, R', ρ', e2, m3, ?_⟩⟩
      · have h1 := tgL_len hge
        rw [List.length_map] at h1
        rw [List.length_map, h1]
        exact hn
      cases hbe : fb e2 with
      | nx e3 =>
        simp only [hbe] at q'
        exact fun R4 ρ4 σ4 H4 s4 m4 => ⟨_, by omega, rfl, by omega, R4, ρ4, e3.clr fg, s'.trans s4, m4.clr fg, OkS.rebase s4 q'⟩
      | ct e3 =>
        simp only [hbe] at q'
        exact fun R4 ρ4 σ4 H4 s4 m4 => ⟨_, by omega, rfl, by omega, R4, ρ4, e3.clr fg, s'.trans s4, m4.clr fg, OkS.rebase s4 q'⟩
      | bk e3 => simp only [hbe] at q'; exact q'
      | rt w e3 => simp only [hbe] at q'; exact q'
      | exn x e3 => simp only [hbe] at q'; exact q'
      | fail => simp only [hbe] at q'; exact q'
  · have e0 : i = rows.length := by omega
    subst e0
    rw [List.drop_length] at q'
    unfold goG at q'
    exact .inl ⟨by
      have := w.stops H' (hT H')
      rw [hlen] at this
      exact this, q' R' ρ' σ' H' (Same.refl _) m'⟩
end
section
end
def rfindD : D → D → Option D
  | .str x, .str y => some (.int (Txt.rfind x y))
  | _, _ => none
def countD : D → D → Option D
  | .str x, .str y => some (.int (Txt.count x y))
  | _, _ => none
def k1S (g : D → D → Option D) (w : W) (ws : List W) : Ev := fun e => match w, ws with
  | .d x, [.d y] => okO (g x y) e
  | _, _ => .fail
def toStrs : List D → Option (List Str)
  | [] => some []
  | .str x :: r => (toStrs r).map (x :: ·)
  | _ :: _ => none
def joinOk (x : Str) (ys : List Str) : Bool := decide ((ys.map (·.length)).sum + ys.length * x.length ≤ 16777216)
def lstOf (e : Env) : W → Option (List D)
  | .d (.lst xs) => some xs
  | .loc n => match e.cell n with | some (.lst xs) => some xs | _ => none
  | _ => none
def kJoin (w : W) (ws : List W) : Ev := fun e => match w, ws with
  | .d (.str x), [y] => (match lstOf e y with
    | some xs => (match toStrs xs with
      | some ys => if joinOk x ys = true then .ok (.d (.str (Txt.join x ys))) e else .fail
      | none => .fail)
    | none => .fail)
  | _, _ => .fail
section
variable {K : PySem.W.Frag} {Wx : WX}
abbrev rS2 (g : Str → Str → V) : V → List V → Hp → VK → Prop := fun x xs H Q => ∃ a b, x = .str a ∧ xs = [.str b] ∧ Q (g a b) H
theorem rfind_ok : MethD K Wx (k1S rfindD) (rS2 fun a b => .int (Txt.rfind a b)) := fun b R ρ e σ H w v ws vs Q m r rs q => by
  unfold k1S at q
  split at q
  · rename_i x y
    obtain ⟨u, e2, ru⟩ := pair1 rs
    subst e2
    obtain ⟨d, hd, q⟩ := okO_ok q
    unfold rfindD at hd
    split at hd
    · rename_i x y
      cases hd
      have r : Rep K R (.str x) v := r
      have ru : Rep K R (.str y) u := ru
      cases r; cases ru
      exact ⟨x, y, rfl, rfl, q.fin m (Rep.int _)⟩
    · cases hd
  · exact q.elim
theorem count_ok : MethD K Wx (k1S countD) (rS2 fun a b => .int (Txt.count a b)) := fun b R ρ e σ H w v ws vs Q m r rs q => by
  unfold k1S at q
  split at q
  · rename_i x y
    obtain ⟨u, e2, ru⟩ := pair1 rs
    subst e2
    obtain ⟨d, hd, q⟩ := okO_ok q
    unfold countD at hd
    split at hd
    · rename_i x y
      cases hd
      have r : Rep K R (.str x) v := r
      have ru : Rep K R (.str y) u := ru
      cases r; cases ru
      exact ⟨x, y, rfl, rfl, q.fin m (Rep.int _)⟩
    · cases hd
  · exact q.elim
theorem toStrs_rep {R : Hp} : ∀ {xs : List D} {ys : List Str} {vs : List V}, toStrs xs = some ys → RepL K R xs vs → vs = ys.map V.str
  | [], _, _, h, .nil => by cases h; rfl
  | d :: xs, ys, _, h, .cons a t => by
    cases d with
    | str x =>
      have h : (toStrs xs).map (x :: ·) = some ys := h
      cases q : toStrs xs with
      | none => rw [q] at h; cases h
      | some zs =>
        rw [q] at h; cases h
        cases a
        rw [toStrs_rep q t]
        rfl
    | _ => cases h
theorem lstOf_ok {b : Bs} {R : Hp} {ρ : Nat → Addr} {e : Dl.Env} {σ : L2.St} {H : Hp} (m : Md K b R ρ e σ H) {w : W} {v : V} {xs : List D} (r : RepW K R ρ w v) (h : lstOf e w = some xs) : ∃ p vs, v = .ref p ∧ H p = some (.lst vs) ∧ RepL K R xs vs := by
  unfold lstOf at h
  split at h
  · cases h
    have r : Rep K R _ v := r
    cases r with
    | lst h1 l1 => exact ⟨_, _, rfl, m.sub _ _ h1, l1⟩
  · rename_i n
    have r : v = .ref (ρ n) := r
    subst r
    split at h
    · rename_i ys hc
      cases h
      obtain ⟨vs, h1, l1⟩ := m.cell n _ hc
      exact ⟨_, _, rfl, h1, l1⟩
    · cases h
  · cases h
theorem kJoin_ok : MethD K Wx kJoin (fun x xs H Q => ∃ a p, ∃ ys : List Str, x = .str a ∧ xs = [.ref p] ∧ (SqL K H p (ys.map V.str) ∨ SqT K H p (ys.map V.str)) ∧ (ys.map (·.length)).sum + ys.length * a.length ≤ 16777216 ∧ Q (.str (Txt.join a ys)) H) := fun b R ρ e σ H w v ws vs Q m r rs q => by
  unfold kJoin at q
  split at q
  · rename_i x y
    obtain ⟨u, e2, ru⟩ := pair1 rs
    subst e2
    cases hl : lstOf e y with
    | none => rw [hl] at q; exact q.elim
    | some xs =>
      rw [hl] at q
      obtain ⟨p, us, e3, h1, l1⟩ := lstOf_ok m ru hl
      subst e3
      cases hs : toStrs xs with
      | none => simp only [hs] at q; exact q.elim
      | some ys =>
        simp only [hs] at q
        split at q
        · rename_i hj
          have r : Rep K R (.str x) v := r
          cases r
          have e4 := toStrs_rep hs l1
          subst e4
          exact ⟨x, p, ys, rfl, rfl, .inl (SqL.of h1), of_decide_eq_true hj, q.fin m (Rep.str _)⟩
        · exact q.elim
  · exact q.elim
end
section
end
abbrev TabR : Type := Str × List (List Str)
abbrev AlR : Type := AlT × Bool
def obsXr (xs : List (Str × List Str)) (zs : List Str) (ps : List XPair) (ts : List TabX) (rs : List TabR) (fa : List He.Fa) (fn : List He.DefD) (K : PySem.W.Frag) : AlR := (obsXt xs zs ps ts fa fn K, rs.all fun r => grB K (He.ga K r.1) r.2)
def valXr (ts : List TabX) (fn : List He.DefD) (w : World) : AlR := (valXt ts fn w, true)
def SaysXr (xs : List (Str × List Str)) (zs : List Str) (ps : List XPair) (ts : List TabX) (rs : List TabR) (fa : List He.Fa) (fn : List He.DefD) (w : World) (K : PySem.W.Frag) : Prop := obsXr xs zs ps ts rs fa fn K = valXr ts fn w
def obsXrG (n : Nat) (xs : List (Str × List Str)) (zs : List Str) (ps : List XPair) (ts : List TabX) (rs : List TabR) (fa : List He.Fa) (fn : List He.DefD) (g : Addr → Option Obj) : AlR := obsXr xs zs ps ts rs fa fn (He.frG g (He.asD g n))
def hookXr (n : Nat) (xs : List (Str × List Str)) (zs : List Str) (ps : List XPair) (ts : List TabX) (rs : List TabR) (fa : List He.Fa) (fn : List He.DefD) : PySem.W.Hook where
  α := AlR
  obs := fun s => obsXrG n xs zs ps ts rs fa fn s.heap.get?
  val := fun w => valXr ts fn w
  says := fun w h => ∃ K : PySem.W.Frag, K.In h ∧ SaysXr xs zs ps ts rs fa fn w K
  of := fun _ _ e => ⟨_, He.frG_in, e⟩
  keeps := fun _ _ _ ⟨K, hK, c⟩ k => ⟨K, PySem.W.Frag.In.keeps hK k, c⟩
section
variable {n : Nat} {xs : List (Str × List Str)} {zs : List Str} {ps : List XPair} {ts : List TabX} {rs : List TabR} {fa : List He.Fa} {fn : List He.DefD} {w : World} {K : PySem.W.Frag}
theorem obsXrG_eq {g : Addr → Option Obj} {s : Shared} (h : ∀ a, g a = s.heap.get? a) : obsXrG n xs zs ps ts rs fa fn g = (hookXr n xs zs ps ts rs fa fn).obs s := by
  have e : g = s.heap.get? := funext h
  rw [e] <;> rfl
theorem SaysXr.t0 (c : SaysXr xs zs ps ts rs fa fn w K) : SaysXt xs zs ps ts fa fn w K := congrArg (fun z : AlR => z.1) c
theorem SaysXr.row (c : SaysXr xs zs ps ts rs fa fn w K) (i : Nat) {r : TabR} (h : rs[i]? = some r := by rfl) : GRows K (He.ga K r.1) r.2 := by
  have e1 : (rs.all fun r => grB K (He.ga K r.1) r.2) = true := congrArg (fun z : AlR => z.2) c
  exact grows_of (List.all_eq_true.mp e1 r (List.mem_of_getElem? h))
end
end Dl
end
section
set_option Elab.async false
set_option linter.all false
set_option maxRecDepth 100000
set_option maxHeartbeats 0
namespace Wk
open PySem PySem.Spec PyProof.Rows L2 Dl
def top (i : Nat) : Stmt := PySem.Challenge.pw_topiary_k19_first_error_of_a_text.main.body.getD i (.Pass ⟨0, 0, 0, 0⟩)
abbrev s_TextError_init : Stmt := inClass (top 2) 0
abbrev s_TooLarge_init : Stmt := inClass (top 3) 0
abbrev s_is_character : Stmt := top 10
abbrev s_DocumentReader_init : Stmt := inClass (top 14) 0
abbrev s_DocumentReader_fail : Stmt := inClass (top 14) 1
abbrev s_DocumentReader_look : Stmt := inClass (top 14) 2
abbrev s_DocumentReader_take_if : Stmt := inClass (top 14) 3
abbrev s_DocumentReader_name : Stmt := inClass (top 14) 4
abbrev s_DocumentReader_new_node : Stmt := inClass (top 14) 5
abbrev s_DocumentReader_begin : Stmt := inClass (top 14) 6
abbrev s_DocumentReader_end : Stmt := inClass (top 14) 7
abbrev s_DocumentReader_sign : Stmt := inClass (top 14) 8
abbrev s_DocumentReader_string : Stmt := inClass (top 14) 9
abbrev s_DocumentReader_part : Stmt := inClass (top 14) 11
abbrev s_DocumentReader_document : Stmt := inClass (top 14) 10
abbrev s_read_document : Stmt := top 15
abbrev s_law_escaped : Stmt := top 23
abbrev s_law_written : Stmt := top 24
abbrev s_law_draws : Stmt := top 17
abbrev s_law_take : Stmt := top 18
abbrev s_law_same_k16 : Stmt := top 19
abbrev s_law_string_k16 : Stmt := top 20
abbrev s_law_tree : Stmt := top 21
abbrev s_law_names : Stmt := top 22
abbrev s_law_error : Stmt := top 25
abbrev s_law_place_k19 : Stmt := top 26
abbrev s_law_pieces : Stmt := top 27
abbrev s_law_k19 : Stmt := top 28
def hd_TextError_init : He.DefD := ⟨("TextError", some "__init__"), "__init__", "TextError.__init__", defArgs s_TextError_init, defBody s_TextError_init, defScope s_TextError_init, [], []⟩
def hd_TooLarge_init : He.DefD := ⟨("TooLarge", some "__init__"), "__init__", "TooLarge.__init__", defArgs s_TooLarge_init, defBody s_TooLarge_init, defScope s_TooLarge_init, [], []⟩
def hd_is_character : He.DefD := ⟨("is_character", none), "is_character", "is_character", defArgs s_is_character, defBody s_is_character, defScope s_is_character, [], []⟩
def hd_DocumentReader_init : He.DefD := ⟨("DocumentReader", some "__init__"), "__init__", "DocumentReader.__init__", defArgs s_DocumentReader_init, defBody s_DocumentReader_init, defScope s_DocumentReader_init, [], []⟩
def hd_DocumentReader_fail : He.DefD := ⟨("DocumentReader", some "fail"), "fail", "DocumentReader.fail", defArgs s_DocumentReader_fail, defBody s_DocumentReader_fail, defScope s_DocumentReader_fail, [], []⟩
def hd_DocumentReader_look : He.DefD := ⟨("DocumentReader", some "look"), "look", "DocumentReader.look", defArgs s_DocumentReader_look, defBody s_DocumentReader_look, defScope s_DocumentReader_look, [], []⟩
def hd_DocumentReader_take_if : He.DefD := ⟨("DocumentReader", some "take_if"), "take_if", "DocumentReader.take_if", defArgs s_DocumentReader_take_if, defBody s_DocumentReader_take_if, defScope s_DocumentReader_take_if, [], []⟩
def hd_DocumentReader_name : He.DefD := ⟨("DocumentReader", some "name"), "name", "DocumentReader.name", defArgs s_DocumentReader_name, defBody s_DocumentReader_name, defScope s_DocumentReader_name, [], []⟩
def hd_DocumentReader_new_node : He.DefD := ⟨("DocumentReader", some "new_node"), "new_node", "DocumentReader.new_node", defArgs s_DocumentReader_new_node, defBody s_DocumentReader_new_node, defScope s_DocumentReader_new_node, [], []⟩
def hd_DocumentReader_begin : He.DefD := ⟨("DocumentReader", some "begin"), "begin", "DocumentReader.begin", defArgs s_DocumentReader_begin, defBody s_DocumentReader_begin, defScope s_DocumentReader_begin, [], []⟩
def hd_DocumentReader_end : He.DefD := ⟨("DocumentReader", some "end"), "end", "DocumentReader.end", defArgs s_DocumentReader_end, defBody s_DocumentReader_end, defScope s_DocumentReader_end, [], []⟩
def hd_DocumentReader_sign : He.DefD := ⟨("DocumentReader", some "sign"), "sign", "DocumentReader.sign", defArgs s_DocumentReader_sign, defBody s_DocumentReader_sign, defScope s_DocumentReader_sign, [], []⟩
def hd_DocumentReader_string : He.DefD := ⟨("DocumentReader", some "string"), "string", "DocumentReader.string", defArgs s_DocumentReader_string, defBody s_DocumentReader_string, defScope s_DocumentReader_string, [], []⟩
def hd_DocumentReader_part : He.DefD := ⟨("DocumentReader", some "part"), "part", "DocumentReader.part", defArgs s_DocumentReader_part, defBody s_DocumentReader_part, defScope s_DocumentReader_part, [], []⟩
def hd_DocumentReader_document : He.DefD := ⟨("DocumentReader", some "document"), "document", "DocumentReader.document", defArgs s_DocumentReader_document, defBody s_DocumentReader_document, defScope s_DocumentReader_document, [], []⟩
def hd_read_document : He.DefD := ⟨("read_document", none), "read_document", "read_document", defArgs s_read_document, defBody s_read_document, defScope s_read_document, [], []⟩
def hd_law_escaped : He.DefD := ⟨("_law_escaped", none), "_law_escaped", "_law_escaped", defArgs s_law_escaped, defBody s_law_escaped, defScope s_law_escaped, [], []⟩
def hd_law_written : He.DefD := ⟨("_law_written", none), "_law_written", "_law_written", defArgs s_law_written, defBody s_law_written, defScope s_law_written, [], []⟩
def hd_law_draws : He.DefD := ⟨("_law_draws", none), "_law_draws", "_law_draws", defArgs s_law_draws, defBody s_law_draws, defScope s_law_draws, [], []⟩
def hd_law_take : He.DefD := ⟨("_law_take", none), "_law_take", "_law_take", defArgs s_law_take, defBody s_law_take, defScope s_law_take, [], []⟩
def hd_law_same_k16 : He.DefD := ⟨("_law_same", none), "_law_same", "_law_same", defArgs s_law_same_k16, defBody s_law_same_k16, defScope s_law_same_k16, [], []⟩
def hd_law_string_k16 : He.DefD := ⟨("_law_string", none), "_law_string", "_law_string", defArgs s_law_string_k16, defBody s_law_string_k16, defScope s_law_string_k16, [], []⟩
def hd_law_tree : He.DefD := ⟨("_law_tree", none), "_law_tree", "_law_tree", defArgs s_law_tree, defBody s_law_tree, defScope s_law_tree, [], []⟩
def hd_law_names : He.DefD := ⟨("_law_names", none), "_law_names", "_law_names", defArgs s_law_names, defBody s_law_names, defScope s_law_names, [], []⟩
def hd_law_error : He.DefD := ⟨("_law_error", none), "_law_error", "_law_error", defArgs s_law_error, defBody s_law_error, defScope s_law_error, [], []⟩
def hd_law_place_k19 : He.DefD := ⟨("_law_place", none), "_law_place", "_law_place", defArgs s_law_place_k19, defBody s_law_place_k19, defScope s_law_place_k19, [], []⟩
def hd_law_pieces : He.DefD := ⟨("_law_pieces", none), "_law_pieces", "_law_pieces", defArgs s_law_pieces, defBody s_law_pieces, defScope s_law_pieces, [], []⟩
def hd_law_k19 : He.DefD := ⟨("law", none), "law", "law", defArgs s_law_k19, defBody s_law_k19, defScope s_law_k19, [], []⟩
def hd_fn : List He.DefD := [hd_TextError_init, hd_TooLarge_init, hd_is_character, hd_DocumentReader_init, hd_DocumentReader_fail, hd_DocumentReader_look, hd_DocumentReader_take_if, hd_DocumentReader_name, hd_DocumentReader_new_node, hd_DocumentReader_begin, hd_DocumentReader_end, hd_DocumentReader_sign, hd_DocumentReader_string, hd_DocumentReader_part, hd_DocumentReader_document, hd_read_document, hd_law_escaped, hd_law_written, hd_law_draws, hd_law_take, hd_law_same_k16, hd_law_string_k16, hd_law_tree, hd_law_names, hd_law_error, hd_law_place_k19, hd_law_pieces, hd_law_k19]
def hd_fa : List He.Fa := [.glo "TextError", .glo "TooLarge", .cls "DocumentReader", .glo "DocumentReader", .glo "is_character", .mkr "DocumentReader", .meth "DocumentReader" "fail", .meth "DocumentReader" "look", .meth "DocumentReader" "take_if", .meth "DocumentReader" "name", .meth "DocumentReader" "new_node", .meth "DocumentReader" "begin", .meth "DocumentReader" "end", .meth "DocumentReader" "sign", .meth "DocumentReader" "string", .meth "DocumentReader" "part", .meth "DocumentReader" "document", .glo "read_document", .glo "_law_escaped", .glo "_law_written", .glo "_law_draws", .glo "_law_take", .glo "_law_same", .glo "_law_string", .glo "_law_tree", .glo "_law_names", .glo "_law_error", .glo "_law_place", .glo "_law_pieces", .glo "law", .noat "DocumentReader" "at", .noat "DocumentReader" "node_count", .noat "DocumentReader" "opened", .noat "DocumentReader" "text", .str "LETTERS" "abcdefghijklmnopqrstuvwxyz", .int "MOST_CHARACTERS" 200000, .int "MOST_DEPTH" 60, .int "MOST_LETTERS" 12, .int "MOST_NODES" 5000, .int "MOST_TEXT" 200, .glo "SIGNS", .free "abs", .free "bool", .free "int", .free "isinstance", .free "len", .free "list", .free "range", .free "reversed", .free "str", .free "tuple"]
def hd_t : List TabX := []
def hd_r : List TabR := [("SIGNS", ([["&lt;", "<"], ["&gt;", ">"], ["&amp;", "&"]] : List (List PySem.Str)))]
def hd_z : List PySem.Str := []
def hd_x : List (PySem.Str × List PySem.Str) := [("TextError", ["line", "column", "reason"]), ("TooLarge", ["limit"])]
def hd_p : List XPair := []
abbrev hd_R : PySem.W.OpenRow := PySem.W.OpenLaw.row PySem.Challenge.rw_topiary_k19_first_error_of_a_text
abbrev hd_k : PySem.W.Hook := hookXr 5 hd_x hd_z hd_p hd_t hd_r hd_fa hd_fn
def hd_ob (s : PySem.W.SharedT) : AlR := obsXrG 5 hd_x hd_z hd_p hd_t hd_r hd_fa hd_fn (HandSHeadRun.getT s)
theorem hd_ob_eq (s : PySem.W.SharedT) : hd_ob s = hd_k.obs s.abs := obsXrG_eq (HandSHeadRun.getT_eq s)
abbrev hd_loose : List PySem.Str := ["DocumentReader", "LETTERS", "MOST_CHARACTERS", "MOST_DEPTH", "MOST_LETTERS", "MOST_NODES", "MOST_TEXT", "SIGNS", "TextError", "TooLarge", "TopiaryError", "__name__", "_law_draws", "_law_error", "_law_escaped", "_law_names", "_law_pieces", "_law_place", "_law_same", "_law_string", "_law_take", "_law_tree", "_law_written", "is_character", "read_document"]
theorem hd_run (w : World) : HandSHeadRun.RunEq hd_R (PySem.W.view hd_R.prog [28]) hd_k hd_ob 9000 hd_loose w := by
  intro os
  kernel_rfl
end Wk
end
section
set_option Elab.async false
set_option linter.all false
set_option maxRecDepth 100000
set_option maxHeartbeats 8000000
namespace Dl
open PySem L2
/-- the addresses of the classes -/
structure Cs where
  TopiaryError : Addr
  InvalidRow : Addr
  InvalidPlace : Addr
  Bits : Addr
  InvalidSize : Addr
  InvalidSymbol : Addr
  Wave : Addr
  InvalidStretch : Addr
  NotTurned : Addr
  InvalidText : Addr
  UnknownText : Addr
  InvalidStep : Addr
  InvalidPart : Addr
  Finder : Addr
  TextError : Addr
  TooLarge : Addr
  DocumentReader : Addr
  InvalidRows : Addr
  InvalidDocument : Addr
  Rows : Addr
  Gatherer : Addr
  Builder : Addr
  Kept : Addr
  InvalidQuestion : Addr
  QuestionReader : Addr
  ImproperQuestion : Addr
  Evaluation : Addr
  Meaning : Addr
  FilteredQuestion : Addr
  Comparison : Addr
  InvalidEdit : Addr
  View : Addr
  Layers : Addr
  Search : Addr
  InvalidCounts : Addr
  InvalidLengths : Addr
  InvalidBox : Addr
  Loader : Addr
  InvalidLine : Addr
  Desk : Addr
  fn_node_at : Addr
  fn_parent_of : Addr
  fn_children_of : Addr
  fn_depth_of : Addr
  fn_upward_path : Addr
  fn_depth : Addr
  fn_family : Addr
  fn_name : Addr
  fn_node_of : Addr
  fn_parent : Addr
  fn_place : Addr
  fn_row_of : Addr
  fn_subtree : Addr
  fn_text : Addr
  fn_weight : Addr
  fn_upward : Addr
  fn_found_from : Addr
  fn_nodes : Addr
  fn_nodes_kept : Addr
  fn_compare : Addr
  fn_takes : Addr
  fn_places_after : Addr
  fn_edited : Addr
  fn_taken_back : Addr
  gd_SIGNS_writer : Addr
  gd_ESCAPES : Addr
  gd_NUMBERS : Addr
  tb_rows_of : Addr
end Dl
end
section
set_option Elab.async false
set_option linter.all false
set_option maxRecDepth 100000
set_option maxHeartbeats 4000000
namespace Dl
open PySem L2
section
end
section
end
end Dl
end
section
set_option Elab.async false
set_option linter.all false
set_option maxRecDepth 100000
set_option maxHeartbeats 8000000
namespace Tp
open PySem L2 Dl
@[simp] abbrev E_is_name (x_word x_letter : Option W := none) (c0 : Option Cell := none) (np : Nat := 0) : Dl.Env := ⟨[x_word, x_letter], [c0], np⟩
@[simp] abbrev E_is_character (x_letter : Option W := none) (np : Nat := 0) : Dl.Env := ⟨[x_letter], [], np⟩
noncomputable def fb_is_character (C : Cs) : Sv :=
  (sRet (eOr (eOp (blG eqB) (eVar 0) (eC (.str "\n"))) (eOfB (bChain leS leS (eC (.str " ")) (eVar 0) (eC (.str "~"))))))
noncomputable def F_is_character (C : Cs) : Fd := mkF 1 0 0 (fb_is_character C)
@[simp] abbrev E_is_text (x_string x_letter : Option W := none) (c0 : Option Cell := none) (np : Nat := 0) : Dl.Env := ⟨[x_string, x_letter], [c0], np⟩
@[simp] abbrev E_is_string (x_tree : Option W := none) (np : Nat := 0) : Dl.Env := ⟨[x_tree], [], np⟩
@[simp] abbrev E_are_apart (x_children x_place x_tree : Option W := none) (c0 : Option Cell := none) (np : Nat := 0) : Dl.Env := ⟨[x_children, x_place, x_tree], [c0], np⟩
@[simp] abbrev E_is_tree (x_tree x_waiting x_here : Option W := none) (c0 : Option Cell := none) (np : Nat := 0) : Dl.Env := ⟨[x_tree, x_waiting, x_here], [c0], np⟩
@[simp] abbrev E_depth_within (x_tree x_deepest x_waiting x_here x_depth x_child : Option W := none) (c0 c1 : Option Cell := none) (np : Nat := 0) : Dl.Env := ⟨[x_tree, x_deepest, x_waiting, x_here, x_depth, x_child], [c0, c1], np⟩
@[simp] abbrev E_nodes_of (x_tree x_found x_waiting x_here : Option W := none) (c0 c1 : Option Cell := none) (np : Nat := 0) : Dl.Env := ⟨[x_tree, x_found, x_waiting, x_here], [c0, c1], np⟩
@[simp] abbrev E_has_right_size (x_tree : Option W := none) (np : Nat := 0) : Dl.Env := ⟨[x_tree], [], np⟩
@[simp] abbrev E_is_document (x_tree : Option W := none) (np : Nat := 0) : Dl.Env := ⟨[x_tree], [], np⟩
end Tp
end
section
set_option Elab.async false
set_option linter.all false
set_option maxRecDepth 100000
set_option maxHeartbeats 4000000
namespace Dl
open PySem L2
def clrM (M : List (Option Cell)) : List Nat → List (Option Cell)
  | [] => M
  | n :: ns => (clrM M ns).set n none
theorem clrM_some {M : List (Option Cell)} {n : Nat} {c : Cell} : ∀ {L : List Nat}, ((clrM M L)[n]?).join = some c → (M[n]?).join = some c ∧ n ∉ L
  | [], h => ⟨h, by simp⟩
  | k :: L, h => by
    unfold clrM at h
    rw [List.getElem?_set] at h
    by_cases q : k = n
    · subst q
      rw [if_pos rfl] at h
      split at h <;> cases h
    · rw [if_neg q] at h
      obtain ⟨h1, h2⟩ := clrM_some h
      exact ⟨h1, by simp only [List.mem_cons, not_or]; exact ⟨Ne.symm q, h2⟩⟩
def runX (F : Fd) (L Ln : List Nat) (ws : List W) : Ev := fun e =>
  match (if (nodup (L ++ Ln) && Ln.all e.open) = true then (match mapW (renW L) ws, cellsOf e L with
      | some ws', some cs0 => (match mapCs (renW L) cs0 with
        | some cs => F ws' cs
        | none => .fail)
      | _, _ => .fail) else .fail : CR) with
    | .exn x _ => .exn x { e with M := clrM e.M L }
    | _ => runF F L Ln ws e
section
variable {K : PySem.W.Frag} {Wx : WX} {b : Bs} {R R' : Hp} {ρ ρ' : Nat → Addr} {e : Env} {σ : St} {H H' : Hp}
theorem after_exn {L : List Nat} {cs2 : List Cell} (m : Md K b R ρ e σ H) (hL : ∀ n ∈ L, ∃ c, e.cell n = some c) (bk : Back K R (rhoC ρ L) L.length H cs2 R' ρ' H') : Md K b R' ρ { e with M := clrM e.M L } σ H' := by
  refine ⟨fun i w h => ?_, fun n c h => ?_, fun n n' c1 c2 h1 h2 q => ?_, fun n c h => ?_, m.par, m.npl, bk.sub, m.ext.trans bk.sR, fun a o h => ?_, fun a o h hn => ?_, fun a o h => ?_, m.len⟩
  · obtain ⟨v, h1, h2⟩ := m.slot i w h
    exact ⟨v, h1, h2.mono bk.sR⟩
  · obtain ⟨h2, hn⟩ := clrM_some h
    have hc := m.cell n c h2
    obtain ⟨o, ho⟩ := hc.some
    refine hc.mono bk.sR ?_ fun _ _ => rfl
    rw [ho]
    refine bk.frame _ _ ho fun i hi hq => ?_
    obtain ⟨k, hk⟩ : ∃ k, L[i]? = some k := ⟨_, List.getElem?_eq_getElem hi⟩
    rw [rhoC_at hk] at hq
    obtain ⟨c2, h2'⟩ := hL k (List.mem_of_getElem? hk)
    have := m.inj k n c2 c h2' h2 hq
    subst this
    exact hn (List.mem_of_getElem? hk)
  · exact m.inj n n' c1 c2 (clrM_some h1).1 (clrM_some h2).1 q
  · obtain ⟨g2, hn⟩ := clrM_some h
    refine ⟨?_, (m.own n c g2).2⟩
    cases hR : R' (ρ n) with
    | none => rfl
    | some o =>
      rcases bk.new _ _ hR with z | z
      · rw [(m.own n c g2).1] at z; cases z
      · obtain ⟨o2, ho⟩ := (m.cell n c g2).some
        rw [z] at ho; cases ho
  · rcases bk.new a o h with z | z
    · exact m.new a o z
    · exact .inr (m.fresh0 z)
  · refine bk.frame a o (m.frame a o h hn) fun i hi hq => ?_
    obtain ⟨k, hk⟩ : ∃ k, L[i]? = some k := ⟨_, List.getElem?_eq_getElem hi⟩
    rw [rhoC_at hk] at hq
    obtain ⟨c2, h2'⟩ := hL k (List.mem_of_getElem? hk)
    rcases (m.own k c2 h2').2 with z | z
    · exact hn (by rw [← hq]; exact List.mem_of_getElem? (m.par k z))
    · rw [hq, h] at z; cases z
  · obtain ⟨o2, h2⟩ := m.there a o h
    exact bk.there a o2 h2
theorem callX_run {P : Nat} {F : Fd} {L Ln : List Nat} {ws : List W} {vs : List V} {Q : VK} (m : Md K b R ρ e σ H) (rs : Paired (RepW K R ρ) ws vs) (hP : vs.length = P) (q : OkR K Wx (lW K) b R ρ e σ Q (runX F L Ln ws e)) :
    spD K P F vs H Q (fun cls d H' => Wx cls d σ H') := by
  unfold runX at q
  split at q
  case h_2 => exact call_run m rs hP q
  case h_1 x cs2 hx =>
  split at hx
  case isFalse => cases hx
  case isTrue hcond =>
  rw [Bool.and_eq_true] at hcond
  have hnd := nodup_iff hcond.1
  cases hws : mapW (renW L) ws with
  | none => simp only [hws] at hx; cases hx
  | some ws' =>
    cases hc0 : cellsOf e L with
    | none => simp only [hws, hc0] at hx; cases hx
    | some cs0 =>
      simp only [hws, hc0] at hx
      cases hcs : mapCs (renW L) cs0 with
      | none => simp only [hcs] at hx; cases hx
      | some cs =>
        simp only [hcs] at hx
        obtain ⟨l0, g0⟩ := cellsOf_get hc0
        obtain ⟨l1, g1⟩ := mapCs_get hcs
        have lcs : cs.length = L.length := l1.trans l0
        have hL : ∀ n ∈ L, ∃ c, e.cell n = some c := fun n hn => by
          obtain ⟨i, hi⟩ := List.mem_iff_getElem?.mp hn
          have hlt : i < cs0.length := by rw [l0]; exact (List.getElem?_eq_some_iff.mp hi).1
          obtain ⟨n', h1, h2⟩ := g0 i _ (List.getElem?_eq_getElem hlt)
          rw [hi] at h1
          cases h1
          exact ⟨_, h2⟩
        have lget : ∀ i, i < cs.length → ∃ n c, L[i]? = some n ∧ e.cell n = some c := fun i hi => by
          have h1 : L[i]? = some L[i] := List.getElem?_eq_getElem (by rw [← lcs]; exact hi)
          obtain ⟨c, h2⟩ := hL _ (List.mem_of_getElem? h1)
          exact ⟨_, c, h1, h2⟩
        have ndL : L.Nodup := (List.nodup_append.mp hnd).1
        refine ⟨hP, R, rhoC ρ L, ws', cs, m.sub, mapW_rep ren_rep hws rs, fun i c hi => ?_, fun i hi => ?_, fun i j hi hj hq => ?_, ?_⟩
        · obtain ⟨c0, h1, h2⟩ := g1 i c hi
          obtain ⟨n, h3, h4⟩ := g0 i c0 h1
          rw [rhoC_at h3]
          exact mapCell_at ren_rep (Same.refl _) h2 (m.cell n c0 h4)
        · obtain ⟨n, c, h1, h2⟩ := lget i hi
          rw [rhoC_at h1]
          exact (m.own n c h2).1
        · obtain ⟨n, c, h1, h2⟩ := lget i hi
          obtain ⟨n', c', h3, h4⟩ := lget j hj
          rw [rhoC_at h1, rhoC_at h3] at hq
          have := m.inj n n' c c' h2 h4 hq
          subst this
          rw [← idx_of ndL h1, ← idx_of ndL h3]
        · rw [hx]
          intro R' ρ' H' cls d bk rx
          rw [lcs] at bk
          exact q R' ρ σ H' cls d bk.sR (after_exn m hL bk) rx
end
def eMethX (C : Addr) (mn : Str) (P : Nat) (F : Fd) (L Ln : List Nat) (g : Ev) : Ev := fun e => (g e).bind fun w e1 => if (insD C mn e1 w && wl e1 w) = true then (if [w].length = P then runX F L Ln [w] e1 else .fail) else .fail
section
variable {X : Cx} {Wx : WX} {o : Expr} {pos apos : Pos} {k : Nat} {f C : Addr} {fd : FuncData} {ps : List Str} {F : Fd} {mn : Str}
theorem d_methX0 {np : Nat} {pl : Sem Bool} {L Ln : List Nat} {g : Ev} (tk : Takes X Wx) (ho : PE X o (tD X.K Wx g)) (cl : Cls X.K C) (hm : Meth X.K C mn f) (G : FnOk X.prog X.w X.K X.mg X.base (L2.CX X.prog X.w) k f fd ps (spD X.K np F)) (hr : Room k X.A) (hb : Binds X.K fd ps [])
    (ht : eval (.Call (.Attribute o mn apos) [] [] pos) X.env = (do
      let ov ← eval o X.env
      standAt apos.atName
      let (f, first) ← holding [ov] (getMethod ov mn pl)
      callWith pos f first (backTo pos (starEach [] X.env)) (backToKw pos (keywordEach [] X.env))) := by rfl) :
    PE X (.Call (.Attribute o mn apos) [] [] pos) (tD X.K Wx (eMethX C mn np F L Ln g)) := (pe_methS0 (E := WE Wx) (dvs := []) ho cl hm G hr hb .nil (fun σ => passAt tk σ) ht).imp fun σ H Q h =>
  tG_one h fun bs R ρ e H w v m r q => by
    split at q
    · rename_i h1
      rw [Bool.and_eq_true] at h1
      obtain ⟨a', dx, fs', e1, e2, e3⟩ := insD_ok m r h1.1
      refine ⟨a', dx, fs', e1, e2, e3, ?_⟩
      split at q
      · rename_i hlen
        have r3 : Paired (RepW X.K R ρ) [w] (v :: ([] ++ [])) := .cons r .nil
        exact callX_run m r3 (by rw [← Paired.lengthEq r3]; exact hlen) q
      · exact q.elim
    · exact q.elim
end
end Dl
end
section
set_option Elab.async false
set_option linter.all false
set_option maxRecDepth 100000
set_option maxHeartbeats 8000000
namespace Tp
open PySem L2 Dl
@[simp] abbrev E_DocumentReader_init (x_self x_text : Option W := none) (c0 c1 : Option Cell := none) (np : Nat := 1) : Dl.Env := ⟨[x_self, x_text], [c0, c1], np⟩
noncomputable def fb_DocumentReader_init (C : Cs) : Sv :=
  (sSeq (sSetF C.DocumentReader "text" (eVar 0) (eVar 1))
  (sSeq (sSetF C.DocumentReader "at" (eVar 0) (eC (.int 0)))
  (sSeq (sSetF C.DocumentReader "node_count" (eVar 0) (eC (.int 0)))
  (sSetF C.DocumentReader "opened" (eVar 0) (eCB (kDispW (1)) [])))))
noncomputable def F_DocumentReader_init (C : Cs) : Fd := mkF 2 2 2 (fb_DocumentReader_init C)
@[simp] abbrev E_DocumentReader_fail (x_self x_place x_reason x_before x_line_start : Option W := none) (c0 : Option Cell := none) (rest : List (Option Cell) := []) (np : Nat := 1) : Dl.Env := ⟨[x_self, x_place, x_reason, x_before, x_line_start], c0 :: rest, np⟩
noncomputable def fb_DocumentReader_fail (C : Cs) : Sv :=
  (sSeq (sSet 3 (eSl (eFld C.DocumentReader "text" (eVar 0)) oNone (oSome (eVar 1))))
  (sSeq (sSet 4 (eOp addD (eM isStr (k1S rfindD) (eVar 3) [(eC (.str "\n"))]) (eC (.int 1))))
  (sRaiseN C.TextError ["line", "column", "reason"] [(eOp addD (eM isStr (k1S countD) (eVar 3) [(eC (.str "\n"))]) (eC (.int 1))), (eOp addD (eOp subD (eVar 1) (eVar 4)) (eC (.int 1))), (eVar 2)])))
noncomputable def F_DocumentReader_fail (C : Cs) : Fd := mkF 5 130 0 (fb_DocumentReader_fail C)
@[simp] abbrev E_DocumentReader_look (x_self x_letter : Option W := none) (c0 : Option Cell := none) (rest : List (Option Cell) := []) (np : Nat := 1) : Dl.Env := ⟨[x_self, x_letter], c0 :: rest, np⟩
noncomputable def fb_DocumentReader_look (C : Cs) : Sv :=
  (sSeq (sIf (bOp geB (eFld C.DocumentReader "at" (eVar 0)) (eCB kLen [(eFld C.DocumentReader "text" (eVar 0))])) (sExpr (eMethL C.DocumentReader "fail" 3 (F_DocumentReader_fail C) (eVar 0) [(eFld C.DocumentReader "at" (eVar 0)), (eC (.str "open"))])) sNil)
  (sSeq (sSet 1 (eIx (eFld C.DocumentReader "text" (eVar 0)) (eFld C.DocumentReader "at" (eVar 0))))
  (sSeq (sIf (bNot (bTru (eCall 1 (F_is_character C) [] [] [] [(eVar 1)]))) (sExpr (eMethL C.DocumentReader "fail" 3 (F_DocumentReader_fail C) (eVar 0) [(eFld C.DocumentReader "at" (eVar 0)), (eC (.str "character"))])) sNil)
  (sRet (eVar 1)))))
noncomputable def F_DocumentReader_look (C : Cs) : Fd := mkF 2 130 0 (fb_DocumentReader_look C)
@[simp] abbrev E_DocumentReader_take_if (x_self x_letter : Option W := none) (c0 : Option Cell := none) (rest : List (Option Cell) := []) (np : Nat := 1) : Dl.Env := ⟨[x_self, x_letter], c0 :: rest, np⟩
noncomputable def fb_DocumentReader_take_if (C : Cs) : Sv :=
  (sSeq (sIf (bOp neB (eMethL C.DocumentReader "look" 1 (F_DocumentReader_look C) (eVar 0) []) (eVar 1)) (sRet (eC (.bl false))) sNil)
  (sSeq (sAugF C.DocumentReader "at" addI (eVar 0) (eC (.int 1)))
  (sRet (eC (.bl true)))))
noncomputable def F_DocumentReader_take_if (C : Cs) : Fd := mkF 2 130 0 (fb_DocumentReader_take_if C)
@[simp] abbrev E_DocumentReader_name (x_self x_start : Option W := none) (c0 : Option Cell := none) (rest : List (Option Cell) := []) (np : Nat := 1) : Dl.Env := ⟨[x_self, x_start], c0 :: rest, np⟩
noncomputable def fb_DocumentReader_name_w1b (C : Cs) : Sv := (sAugF C.DocumentReader "at" addI (eVar 0) (eC (.int 1)))
noncomputable def fb_DocumentReader_name_w1 (C : Cs) : Sv := sWhile (fun _ => 1000000) (bAnd (bOp ltB (eFld C.DocumentReader "at" (eVar 0)) (eCB kLen [(eFld C.DocumentReader "text" (eVar 0))])) (bOp inB (eIx (eFld C.DocumentReader "text" (eVar 0)) (eFld C.DocumentReader "at" (eVar 0))) (eC (.str "abcdefghijklmnopqrstuvwxyz")))) [] (fb_DocumentReader_name_w1b C)
noncomputable def fb_DocumentReader_name (C : Cs) : Sv :=
  (sSeq (sSet 1 (eFld C.DocumentReader "at" (eVar 0)))
  (sSeq (sIf (bOp notInB (eMethL C.DocumentReader "look" 1 (F_DocumentReader_look C) (eVar 0) []) (eC (.str "abcdefghijklmnopqrstuvwxyz"))) (sExpr (eMethL C.DocumentReader "fail" 3 (F_DocumentReader_fail C) (eVar 0) [(eVar 1), (eC (.str "name"))])) sNil)
  (sSeq (fb_DocumentReader_name_w1 C)
  (sSeq (sIf (bOp gtB (eOp subD (eFld C.DocumentReader "at" (eVar 0)) (eVar 1)) (eC (.int 12))) (sExpr (eMethL C.DocumentReader "fail" 3 (F_DocumentReader_fail C) (eVar 0) [(eVar 1), (eC (.str "name"))])) sNil)
  (sRet (eSl (eFld C.DocumentReader "text" (eVar 0)) (oSome (eVar 1)) (oSome (eFld C.DocumentReader "at" (eVar 0)))))))))
noncomputable def F_DocumentReader_name (C : Cs) : Fd := mkF 2 130 0 (fb_DocumentReader_name C)
@[simp] abbrev E_DocumentReader_new_node (x_self x_place x_depth : Option W := none) (c0 : Option Cell := none) (rest : List (Option Cell) := []) (np : Nat := 1) : Dl.Env := ⟨[x_self, x_place, x_depth], c0 :: rest, np⟩
noncomputable def fb_DocumentReader_new_node (C : Cs) : Sv :=
  (sSeq (sIf (bOp gtB (eVar 2) (eC (.int 60))) (sExpr (eMethL C.DocumentReader "fail" 3 (F_DocumentReader_fail C) (eVar 0) [(eVar 1), (eC (.str "deep"))])) sNil)
  (sSeq (sAugF C.DocumentReader "node_count" addI (eVar 0) (eC (.int 1)))
  (sIf (bOp gtB (eFld C.DocumentReader "node_count" (eVar 0)) (eC (.int 5000))) (sExpr (eMethL C.DocumentReader "fail" 3 (F_DocumentReader_fail C) (eVar 0) [(eVar 1), (eC (.str "many"))])) sNil)))
noncomputable def F_DocumentReader_new_node (C : Cs) : Fd := mkF 3 130 0 (fb_DocumentReader_new_node C)
@[simp] abbrev E_DocumentReader_begin (x_self x_place x_name : Option W := none) (c0 : Option Cell := none) (rest : List (Option Cell) := []) (np : Nat := 1) : Dl.Env := ⟨[x_self, x_place, x_name], c0 :: rest, np⟩
noncomputable def fb_DocumentReader_begin (C : Cs) : Sv :=
  (sSeq (sExpr (eMethL C.DocumentReader "new_node" 3 (F_DocumentReader_new_node C) (eVar 0) [(eVar 1), (eOp addD (eCB kLen [(eFld C.DocumentReader "opened" (eVar 0))]) (eC (.int 1)))]))
  (sSeq (sSet 2 (eMethL C.DocumentReader "name" 1 (F_DocumentReader_name C) (eVar 0) []))
  (sSeq (sIf (bTru (eMethL C.DocumentReader "take_if" 2 (F_DocumentReader_take_if C) (eVar 0) [(eC (.str "/"))])) (sSeq (sIf (bNot (bTru (eMethL C.DocumentReader "take_if" 2 (F_DocumentReader_take_if C) (eVar 0) [(eC (.str ">"))]))) (sExpr (eMethL C.DocumentReader "fail" 3 (F_DocumentReader_fail C) (eVar 0) [(eFld C.DocumentReader "at" (eVar 0)), (eC (.str "tag"))])) sNil)
  (sRet (eCB kTup [(eVar 2), (eCB (kDisp none) [])]))) sNil)
  (sSeq (sIf (bNot (bTru (eMethL C.DocumentReader "take_if" 2 (F_DocumentReader_take_if C) (eVar 0) [(eC (.str ">"))]))) (sExpr (eMethL C.DocumentReader "fail" 3 (F_DocumentReader_fail C) (eVar 0) [(eFld C.DocumentReader "at" (eVar 0)), (eC (.str "tag"))])) sNil)
  (sSeq (sExpr (eM isLst kAppend (eFld C.DocumentReader "opened" (eVar 0)) [eLd fun n => eCB (kTupW (n + 1)) [eVar 2, eCB (kDisp (some n)) []]]))
  (sRet (eC .non)))))))
noncomputable def F_DocumentReader_begin (C : Cs) : Fd := mkFL 3 130 (fb_DocumentReader_begin C)
@[simp] abbrev E_DocumentReader_end (x_self x_start x_name : Option W := none) (c0 : Option Cell := none) (rest : List (Option Cell) := []) (np : Nat := 1) : Dl.Env := ⟨[x_self, x_start, x_name], c0 :: rest, np⟩
noncomputable def fb_DocumentReader_end (C : Cs) : Sv :=
  (sSeq (sSet 1 (eFld C.DocumentReader "at" (eVar 0)))
  (sSeq (sSet 2 (eMethL C.DocumentReader "name" 1 (F_DocumentReader_name C) (eVar 0) []))
  (sSeq (sIf (bOp neB (eVar 2) (eIx (eIx (eFld C.DocumentReader "opened" (eVar 0)) (eNeg (eC (.int 1)))) (eC (.int 0)))) (sExpr (eMethL C.DocumentReader "fail" 3 (F_DocumentReader_fail C) (eVar 0) [(eVar 1), (eC (.str "end"))])) sNil)
  (sSeq (sIf (bNot (bTru (eMethL C.DocumentReader "take_if" 2 (F_DocumentReader_take_if C) (eVar 0) [(eC (.str ">"))]))) (sExpr (eMethL C.DocumentReader "fail" 3 (F_DocumentReader_fail C) (eVar 0) [(eFld C.DocumentReader "at" (eVar 0)), (eC (.str "tag"))])) sNil)
  (sRet (eM isLst kPopW (eFld C.DocumentReader "opened" (eVar 0)) []))))))
noncomputable def F_DocumentReader_end (C : Cs) : Fd := mkF 3 130 0 (fb_DocumentReader_end C)
@[simp] abbrev E_DocumentReader_sign (x_self x_written x_letter : Option W := none) (c0 : Option Cell := none) (rest : List (Option Cell) := []) (np : Nat := 1) : Dl.Env := ⟨[x_self, x_written, x_letter], c0 :: rest, np⟩
noncomputable def fb_DocumentReader_sign_l1b (C : Cs) : Sv := (sIf (bOp eqB (eSl (eFld C.DocumentReader "text" (eVar 0)) (oSome (eFld C.DocumentReader "at" (eVar 0))) (oSome (eOp addD (eFld C.DocumentReader "at" (eVar 0)) (eCB kLen [(eVar 1)])))) (eVar 1)) (sSeq (sAugF C.DocumentReader "at" addI (eVar 0) (eCB kLen [(eVar 1)]))
  (sRet (eVar 2))) sNil)
noncomputable def fb_DocumentReader_sign_l1 (C : Cs) : Sv := sForG [(tgName 1), (tgName 2)] [1, 2] ([["&lt;", "<"], ["&gt;", ">"], ["&amp;", "&"]] : List (List PySem.Str)) (fb_DocumentReader_sign_l1b C)
noncomputable def fb_DocumentReader_sign (C : Cs) : Sv :=
  (sSeq (sIf (bOp eqB (eMethL C.DocumentReader "look" 1 (F_DocumentReader_look C) (eVar 0) []) (eC (.str ">"))) (sExpr (eMethL C.DocumentReader "fail" 3 (F_DocumentReader_fail C) (eVar 0) [(eFld C.DocumentReader "at" (eVar 0)), (eC (.str "sign"))])) sNil)
  (sSeq (sIf (bOp neB (eMethL C.DocumentReader "look" 1 (F_DocumentReader_look C) (eVar 0) []) (eC (.str "&"))) (sSeq (sAugF C.DocumentReader "at" addI (eVar 0) (eC (.int 1)))
  (sRet (eIx (eFld C.DocumentReader "text" (eVar 0)) (eOp subD (eFld C.DocumentReader "at" (eVar 0)) (eC (.int 1)))))) sNil)
  (sSeq (fb_DocumentReader_sign_l1 C)
  (sExpr (eMethL C.DocumentReader "fail" 3 (F_DocumentReader_fail C) (eVar 0) [(eFld C.DocumentReader "at" (eVar 0)), (eC (.str "sign"))])))))
noncomputable def F_DocumentReader_sign (C : Cs) : Fd := mkF 3 130 0 (fb_DocumentReader_sign C)
@[simp] abbrev E_DocumentReader_string (x_self x_start x_letters x_place x_letter : Option W := none) (c0 : Option Cell := none) (rest : List (Option Cell) := []) (np : Nat := 1) : Dl.Env := ⟨[x_self, x_start, x_letters, x_place, x_letter], c0 :: rest, np⟩
noncomputable def fb_DocumentReader_string_w1b (C : Cs) : Sv := (sSeq (sSet 3 (eFld C.DocumentReader "at" (eVar 0)))
  (sSeq (sSet 4 (eMethL C.DocumentReader "sign" 1 (F_DocumentReader_sign C) (eVar 0) []))
  (sSeq (sIf (bOp eqB (eCB kLen [(eVar 2)]) (eC (.int 200))) (sExpr (eMethL C.DocumentReader "fail" 3 (F_DocumentReader_fail C) (eVar 0) [(eVar 3), (eC (.str "long"))])) sNil)
  (sExpr (eM isLst kAppend (eVar 2) [(eVar 4)])))))
noncomputable def fb_DocumentReader_string_w1 (C : Cs) : Sv := sWhile (fun _ => 1000000) (bOp neB (eMethL C.DocumentReader "look" 1 (F_DocumentReader_look C) (eVar 0) []) (eC (.str "<"))) [3, 4] (fb_DocumentReader_string_w1b C)
noncomputable def fb_DocumentReader_string (C : Cs) : Sv :=
  (sSeq (sSet 1 (eFld C.DocumentReader "at" (eVar 0)))
  (sSeq (sSet 2 (eCB (kDisp (some 129)) [(eMethL C.DocumentReader "sign" 1 (F_DocumentReader_sign C) (eVar 0) [])]))
  (sSeq (sExpr (eMethL C.DocumentReader "new_node" 3 (F_DocumentReader_new_node C) (eVar 0) [(eVar 1), (eOp addD (eCB kLen [(eFld C.DocumentReader "opened" (eVar 0))]) (eC (.int 1)))]))
  (sSeq (fb_DocumentReader_string_w1 C)
  (sRet (eM isStr kJoin (eC (.str "")) [(eVar 2)]))))))
noncomputable def F_DocumentReader_string (C : Cs) : Fd := mkF 5 130 0 (fb_DocumentReader_string C)
@[simp] abbrev E_DocumentReader_part (x_self x_place : Option W := none) (c0 : Option Cell := none) (rest : List (Option Cell) := []) (np : Nat := 1) : Dl.Env := ⟨[x_self, x_place], c0 :: rest, np⟩
noncomputable def fb_DocumentReader_part (C : Cs) : Sv :=
  (sSeq (sSet 1 (eFld C.DocumentReader "at" (eVar 0)))
  (sSeq (sIf (bNot (bTru (eMethL C.DocumentReader "take_if" 2 (F_DocumentReader_take_if C) (eVar 0) [(eC (.str "<"))]))) (sRet (eMethL C.DocumentReader "string" 1 (F_DocumentReader_string C) (eVar 0) [])) sNil)
  (sSeq (sIf (bAnd (bOp gtB (eCB kLen [(eFld C.DocumentReader "opened" (eVar 0))]) (eC (.int 0))) (bOp eqB (eSl (eFld C.DocumentReader "text" (eVar 0)) (oSome (eFld C.DocumentReader "at" (eVar 0))) (oSome (eOp addD (eFld C.DocumentReader "at" (eVar 0)) (eC (.int 1))))) (eC (.str "/")))) (sSeq (sAugF C.DocumentReader "at" addI (eVar 0) (eC (.int 1)))
  (sRet (eMethL C.DocumentReader "end" 1 (F_DocumentReader_end C) (eVar 0) []))) sNil)
  (sRet (eMethL C.DocumentReader "begin" 2 (F_DocumentReader_begin C) (eVar 0) [(eVar 1)])))))
noncomputable def F_DocumentReader_part (C : Cs) : Fd := mkFL 2 130 (fb_DocumentReader_part C)
@[simp] abbrev E_DocumentReader_document (x_self x_done : Option W := none) (c0 : Option Cell := none) (rest : List (Option Cell) := []) (np : Nat := 2) : Dl.Env := ⟨[x_self, x_done], c0 :: rest, np⟩
noncomputable def fb_DocumentReader_document_w1b (C : Cs) : Sv := (sSeq (sThenD 1 (sSet 1 (eMethL C.DocumentReader "part" 1 (F_DocumentReader_part C) (eVar 0) [])))
  (sIf (bAnd (bOp notNB (eVar 1) (eC .non)) (bOp gtB (eCB kLen [(eFld C.DocumentReader "opened" (eVar 0))]) (eC (.int 0)))) (sExpr (eM isLst kAppend (eIx (eIx (eFld C.DocumentReader "opened" (eVar 0)) (eNeg (eC (.int 1)))) (eC (.int 1))) [(eVar 1)])) sNil))
noncomputable def fb_DocumentReader_document_w1 (C : Cs) : Sv := sWhile (fun _ => 1000000) (bOr (bOp isNB (eVar 1) (eC .non)) (bOp gtB (eCB kLen [(eFld C.DocumentReader "opened" (eVar 0))]) (eC (.int 0)))) [] (fb_DocumentReader_document_w1b C)
noncomputable def fb_DocumentReader_document (C : Cs) : Sv :=
  (sSeq (sIf (bOp neB (eMethL C.DocumentReader "look" 1 (F_DocumentReader_look C) (eVar 0) []) (eC (.str "<"))) (sExpr (eMethL C.DocumentReader "fail" 3 (F_DocumentReader_fail C) (eVar 0) [(eFld C.DocumentReader "at" (eVar 0)), (eC (.str "element"))])) sNil)
  (sSeq (sSet 1 (eC .non))
  (sSeq (fb_DocumentReader_document_w1 C)
  (sSeq (sIf (bOp ltB (eFld C.DocumentReader "at" (eVar 0)) (eCB kLen [(eFld C.DocumentReader "text" (eVar 0))])) (sSeq (sExpr (eMethL C.DocumentReader "look" 1 (F_DocumentReader_look C) (eVar 0) []))
  (sExpr (eMethL C.DocumentReader "fail" 3 (F_DocumentReader_fail C) (eVar 0) [(eFld C.DocumentReader "at" (eVar 0)), (eC (.str "more"))]))) sNil)
  (sRet (eVar 1))))))
noncomputable def F_DocumentReader_document (C : Cs) : Fd := mkF 2 130 0 (fb_DocumentReader_document C)
@[simp] abbrev E_read_document (x_text : Option W := none) (c0 c1 : Option Cell := none) (np : Nat := 0) : Dl.Env := ⟨[x_text], [c0, c1], np⟩
noncomputable def fb_read_document (C : Cs) : Sv :=
  (sSeq (sIf (bOp gtB (eCB kLen [(eVar 0)]) (eC (.int 200000))) (sRaise C.TooLarge "limit" (eC (.str "text"))) sNil)
  (sRet (eMethX C.DocumentReader "document" 1 (F_DocumentReader_document C) [0, 1] [] (eMake C.DocumentReader 2 (F_DocumentReader_init C) 0 [] [1] true [] [(eVar 0)]))))
noncomputable def F_read_document (C : Cs) : Fd := mkF 1 2 0 (fb_read_document C)
@[simp] theorem nx_DocumentReader_1 : (("text" : Str) = "at") = False := eq_false (by decide +kernel)
@[simp] theorem nx_DocumentReader_2 : (("text" : Str) = "node_count") = False := eq_false (by decide +kernel)
@[simp] theorem nx_DocumentReader_3 : (("text" : Str) = "opened") = False := eq_false (by decide +kernel)
@[simp] theorem nx_DocumentReader_4 : (("text" : Str) = "fail") = False := eq_false (by decide +kernel)
@[simp] theorem nx_DocumentReader_5 : (("text" : Str) = "look") = False := eq_false (by decide +kernel)
@[simp] theorem nx_DocumentReader_6 : (("text" : Str) = "take_if") = False := eq_false (by decide +kernel)
@[simp] theorem nx_DocumentReader_7 : (("text" : Str) = "name") = False := eq_false (by decide +kernel)
@[simp] theorem nx_DocumentReader_8 : (("text" : Str) = "new_node") = False := eq_false (by decide +kernel)
@[simp] theorem nx_DocumentReader_9 : (("text" : Str) = "begin") = False := eq_false (by decide +kernel)
@[simp] theorem nx_DocumentReader_10 : (("text" : Str) = "end") = False := eq_false (by decide +kernel)
@[simp] theorem nx_DocumentReader_11 : (("text" : Str) = "sign") = False := eq_false (by decide +kernel)
@[simp] theorem nx_DocumentReader_12 : (("text" : Str) = "string") = False := eq_false (by decide +kernel)
@[simp] theorem nx_DocumentReader_13 : (("text" : Str) = "document") = False := eq_false (by decide +kernel)
@[simp] theorem nx_DocumentReader_14 : (("text" : Str) = "part") = False := eq_false (by decide +kernel)
@[simp] theorem nx_DocumentReader_15 : (("at" : Str) = "text") = False := eq_false (by decide +kernel)
@[simp] theorem nx_DocumentReader_16 : (("at" : Str) = "node_count") = False := eq_false (by decide +kernel)
@[simp] theorem nx_DocumentReader_17 : (("at" : Str) = "opened") = False := eq_false (by decide +kernel)
@[simp] theorem nx_DocumentReader_18 : (("at" : Str) = "fail") = False := eq_false (by decide +kernel)
@[simp] theorem nx_DocumentReader_19 : (("at" : Str) = "look") = False := eq_false (by decide +kernel)
@[simp] theorem nx_DocumentReader_20 : (("at" : Str) = "take_if") = False := eq_false (by decide +kernel)
@[simp] theorem nx_DocumentReader_21 : (("at" : Str) = "name") = False := eq_false (by decide +kernel)
@[simp] theorem nx_DocumentReader_22 : (("at" : Str) = "new_node") = False := eq_false (by decide +kernel)
@[simp] theorem nx_DocumentReader_23 : (("at" : Str) = "begin") = False := eq_false (by decide +kernel)
@[simp] theorem nx_DocumentReader_24 : (("at" : Str) = "end") = False := eq_false (by decide +kernel)
@[simp] theorem nx_DocumentReader_25 : (("at" : Str) = "sign") = False := eq_false (by decide +kernel)
@[simp] theorem nx_DocumentReader_26 : (("at" : Str) = "string") = False := eq_false (by decide +kernel)
@[simp] theorem nx_DocumentReader_27 : (("at" : Str) = "document") = False := eq_false (by decide +kernel)
@[simp] theorem nx_DocumentReader_28 : (("at" : Str) = "part") = False := eq_false (by decide +kernel)
@[simp] theorem nx_DocumentReader_29 : (("node_count" : Str) = "text") = False := eq_false (by decide +kernel)
@[simp] theorem nx_DocumentReader_30 : (("node_count" : Str) = "at") = False := eq_false (by decide +kernel)
@[simp] theorem nx_DocumentReader_31 : (("node_count" : Str) = "opened") = False := eq_false (by decide +kernel)
@[simp] theorem nx_DocumentReader_32 : (("node_count" : Str) = "fail") = False := eq_false (by decide +kernel)
@[simp] theorem nx_DocumentReader_33 : (("node_count" : Str) = "look") = False := eq_false (by decide +kernel)
@[simp] theorem nx_DocumentReader_34 : (("node_count" : Str) = "take_if") = False := eq_false (by decide +kernel)
@[simp] theorem nx_DocumentReader_35 : (("node_count" : Str) = "name") = False := eq_false (by decide +kernel)
@[simp] theorem nx_DocumentReader_36 : (("node_count" : Str) = "new_node") = False := eq_false (by decide +kernel)
@[simp] theorem nx_DocumentReader_37 : (("node_count" : Str) = "begin") = False := eq_false (by decide +kernel)
@[simp] theorem nx_DocumentReader_38 : (("node_count" : Str) = "end") = False := eq_false (by decide +kernel)
@[simp] theorem nx_DocumentReader_39 : (("node_count" : Str) = "sign") = False := eq_false (by decide +kernel)
@[simp] theorem nx_DocumentReader_40 : (("node_count" : Str) = "string") = False := eq_false (by decide +kernel)
@[simp] theorem nx_DocumentReader_41 : (("node_count" : Str) = "document") = False := eq_false (by decide +kernel)
@[simp] theorem nx_DocumentReader_42 : (("node_count" : Str) = "part") = False := eq_false (by decide +kernel)
@[simp] theorem nx_DocumentReader_43 : (("opened" : Str) = "text") = False := eq_false (by decide +kernel)
@[simp] theorem nx_DocumentReader_44 : (("opened" : Str) = "at") = False := eq_false (by decide +kernel)
@[simp] theorem nx_DocumentReader_45 : (("opened" : Str) = "node_count") = False := eq_false (by decide +kernel)
@[simp] theorem nx_DocumentReader_46 : (("opened" : Str) = "fail") = False := eq_false (by decide +kernel)
@[simp] theorem nx_DocumentReader_47 : (("opened" : Str) = "look") = False := eq_false (by decide +kernel)
@[simp] theorem nx_DocumentReader_48 : (("opened" : Str) = "take_if") = False := eq_false (by decide +kernel)
@[simp] theorem nx_DocumentReader_49 : (("opened" : Str) = "name") = False := eq_false (by decide +kernel)
@[simp] theorem nx_DocumentReader_50 : (("opened" : Str) = "new_node") = False := eq_false (by decide +kernel)
@[simp] theorem nx_DocumentReader_51 : (("opened" : Str) = "begin") = False := eq_false (by decide +kernel)
@[simp] theorem nx_DocumentReader_52 : (("opened" : Str) = "end") = False := eq_false (by decide +kernel)
@[simp] theorem nx_DocumentReader_53 : (("opened" : Str) = "sign") = False := eq_false (by decide +kernel)
@[simp] theorem nx_DocumentReader_54 : (("opened" : Str) = "string") = False := eq_false (by decide +kernel)
@[simp] theorem nx_DocumentReader_55 : (("opened" : Str) = "document") = False := eq_false (by decide +kernel)
@[simp] theorem nx_DocumentReader_56 : (("opened" : Str) = "part") = False := eq_false (by decide +kernel)
end Tp
end
section
set_option Elab.async false
set_option linter.all false
set_option maxRecDepth 100000
set_option maxHeartbeats 8000000
namespace Tp
open PySem L2 Dl
@[simp] abbrev E_law_escaped (x_string_here x_signs x_letter : Option W := none) (c0 : Option Cell := none) (np : Nat := 0) : Dl.Env := ⟨[x_string_here, x_signs, x_letter], [c0], np⟩
noncomputable def fb_law_escaped_c1 (C : Cs) : Ev := eLc (iS (eVar 0)) (tgName 2) (fun e => .ok true e) (eDGet2 (eVar 1) (eVar 2) (eVar 2)) 0 false [2]
noncomputable def fb_law_escaped (C : Cs) : Sv :=
  (sSeq (sSet 1 (eDicC none [(Sum.inr "<", (.str "&lt;" : D)), (Sum.inr ">", (.str "&gt;" : D)), (Sum.inr "&", (.str "&amp;" : D))]))
  (sRet (eM isStr kJoin (eC (.str "")) [(fb_law_escaped_c1 C)])))
noncomputable def F_law_escaped (C : Cs) : Fd := mkF 3 1 0 (fb_law_escaped C)
@[simp] abbrev E_law_written (x_tree_here x_loose x_inner x_child : Option W := none) (c0 : Option Cell := none) (np : Nat := 0) : Dl.Env := ⟨[x_tree_here, x_loose, x_inner, x_child], [c0], np⟩
noncomputable def fb_law_written_c1 (C : Cs) (F_law_written : Fd) : Ev := eLc (iL (eIx (eVar 0) (eC (.int 1)))) (tgName 3) (fun e => .ok true e) (eCall 2 F_law_written [] [] [] [(eVar 3), (eVar 1)]) 0 false [3]
noncomputable def fb_law_written (C : Cs) (F_law_written : Fd) : Sv :=
  (sSeq (sIf (bTru (eIsi "str" (eVar 0))) (sRet (eCall 1 (F_law_escaped C) [] [] [] [(eVar 0)])) sNil)
  (sSeq (sIf (bAnd (bOp eqB (eCB kLen [(eIx (eVar 0) (eC (.int 1)))]) (eC (.int 0))) (bNot (bTru (eVar 1)))) (sRet (eOp addD (eOp addD (eC (.str "<")) (eIx (eVar 0) (eC (.int 0)))) (eC (.str "/>")))) sNil)
  (sSeq (sSet 2 (eM isStr kJoin (eC (.str "")) [(fb_law_written_c1 C F_law_written)]))
  (sRet (eOp addD (eOp addD (eOp addD (eOp addD (eOp addD (eOp addD (eC (.str "<")) (eIx (eVar 0) (eC (.int 0)))) (eC (.str ">"))) (eVar 2)) (eC (.str "</"))) (eIx (eVar 0) (eC (.int 0)))) (eC (.str ">")))))))
noncomputable def F_law_written (C : Cs) : Nat → Fd
  | 0 => fun _ _ => .fail
  | n + 1 => mkF 4 1 0 (fb_law_written C (F_law_written C n))
end Tp
end
section
set_option Elab.async false
set_option linter.all false
set_option maxRecDepth 100000
set_option maxHeartbeats 8000000
namespace Tp
open PySem L2 Dl
@[simp] abbrev E_law_draws (x_script x_draws_here x_cell x_number x_first x_k x_seed : Option W := none) (c0 c1 : Option Cell := none) (np : Nat := 0) : Dl.Env := ⟨[x_script, x_draws_here, x_cell, x_number, x_first, x_k, x_seed], [c0, c1], np⟩
noncomputable def fb_law_draws_l2b (C : Cs) : Sv := (sIf (bOp gtB (eVar 3) (eC (.int 0))) (sSeq (sExpr (eM isLst kAppend (eVar 1) [(eOp modD (eCB (k1 intOf) [(eVar 3)]) (eC (.int 997)))]))
  (sSet 3 (eOp fdivD (eVar 3) (eC (.int 997))))) sNil)
noncomputable def fb_law_draws_l2 (C : Cs) : Sv := sFor (iRg1 (eC (.int 60))) (tgName 5) [5] (fb_law_draws_l2b C)
noncomputable def fb_law_draws_l1b (C : Cs) : Sv := (sSeq (sSet 3 (eCB (k1 absD) [(eVar 2)]))
  (sSeq (sIf (bOp ltB (eVar 3) (eOp powD (eC (.int 10)) (eC (.int 18)))) (sSeq (sSet 4 (eOp modD (eCB (k1 intOf) [(eOp addD (eOp mulD (eVar 3) (eC (.int 48271))) (eC (.int 11)))]) (eC (.int 2147483647))))
  (sSeq (sExpr (eM isLst kAppend (eVar 1) [(eOp modD (eCB (k1 intOf) [(eOp addD (eOp mulD (eVar 4) (eC (.int 69621))) (eVar 3))]) (eC (.int 2147483629)))]))
  (sSeq (sExpr (eM isLst kAppend (eVar 1) [(eOp modD (eCB (k1 intOf) [(eOp addD (eVar 4) (eOp fdivD (eVar 3) (eC (.int 7))))]) (eC (.int 1000003)))]))
  (sSet 3 (eC (.int 0)))))) sNil)
  (sSeq (fb_law_draws_l2 C) sNil)))
noncomputable def fb_law_draws_l1 (C : Cs) : Sv := sFor (iL (eVar 0)) (tgName 2) [2, 3, 4, 5] (fb_law_draws_l1b C)
noncomputable def fb_law_draws_l3b (C : Cs) : Sv := (sSeq (sSet 6 (eOp modD (eCB (k1 intOf) [(eOp addD (eOp mulD (eVar 6) (eC (.int 48271))) (eC (.int 69621)))]) (eC (.int 2147483647))))
  (sExpr (eM isLst kAppend (eVar 1) [(eOp fdivD (eVar 6) (eC (.int 5)))])))
noncomputable def fb_law_draws_l3 (C : Cs) : Sv := sFor (iRg1 (eC (.int 240))) (tgName 5) [5] (fb_law_draws_l3b C)
noncomputable def fb_law_draws (C : Cs) : Sv :=
  (sSeq (sSet 1 (eCB (kDisp (some 1)) []))
  (sSeq (fb_law_draws_l1 C)
  (sSeq (sSet 6 (eC (.int 1)))
  (sSeq (sIf (bOp gtB (eCB kLen [(eVar 0)]) (eC (.int 0))) (sSet 6 (eOp addD (eC (.int 1)) (eCB (k1 absD) [(eIx (eVar 0) (eC (.int 0)))]))) sNil)
  (sSeq (sThen 1 (fb_law_draws_l3 C))
  (sRet (eLiRev (some 0) (eVar 1))))))))
noncomputable def F_law_draws (C : Cs) : Fd := mkF 7 2 1 (fb_law_draws C)
@[simp] abbrev E_law_take (x_draws_here x_bound : Option W := none) (c0 : Option Cell := none) (np : Nat := 1) : Dl.Env := ⟨[x_draws_here, x_bound], [c0], np⟩
noncomputable def fb_law_take (C : Cs) : Sv :=
  (sSeq (sIf (bOp eqB (eCB kLen [(eVar 0)]) (eC (.int 0))) (sRet (eC (.int 0))) sNil)
  (sRet (eOp modD (eCB (k1 intOf) [(eM isLst kPop (eVar 0) [])]) (eVar 1))))
noncomputable def F_law_take (C : Cs) : Fd := mkF 2 1 1 (fb_law_take C)
end Tp
end
section
set_option Elab.async false
set_option linter.all false
set_option maxRecDepth 100000
set_option maxHeartbeats 8000000
namespace Tp
open PySem L2 Dl
@[simp] abbrev E_law_same_k16 (x_actual x_due x_k : Option W := none) (np : Nat := 0) : Dl.Env := ⟨[x_actual, x_due, x_k], [], np⟩
noncomputable def fb_law_same_k16_l1b (C : Cs) (F_law_same_k16 : Fd) : Sv := (sIf (bNot (bTru (eCall 2 F_law_same_k16 [] [] [] [(eIx (eVar 0) (eVar 2)), (eIx (eVar 1) (eVar 2))]))) (sRet (eC (.bl false))) sNil)
noncomputable def fb_law_same_k16_l1 (C : Cs) (F_law_same_k16 : Fd) : Sv := sFor (iRg1 (eCB kLen [(eVar 1)])) (tgName 2) [2] (fb_law_same_k16_l1b C F_law_same_k16)
noncomputable def fb_law_same_k16 (C : Cs) (F_law_same_k16 : Fd) : Sv :=
  (sSeq (sIf (bOr (bTru (eIsi "tuple" (eVar 1))) (bTru (eIsi "list" (eVar 1)))) (sSeq (sIf (bOr (bOp neB (eIsi "tuple" (eVar 1)) (eIsi "tuple" (eVar 0))) (bOp neB (eIsi "list" (eVar 1)) (eIsi "list" (eVar 0)))) (sRet (eC (.bl false))) sNil)
  (sSeq (sIf (bOp neB (eCB kLen [(eVar 0)]) (eCB kLen [(eVar 1)])) (sRet (eC (.bl false))) sNil)
  (sSeq (fb_law_same_k16_l1 C F_law_same_k16)
  (sRet (eC (.bl true)))))) sNil)
  (sSeq (sIf (bOp neB (eIsi "bool" (eVar 1)) (eIsi "bool" (eVar 0))) (sRet (eC (.bl false))) sNil)
  (sSeq (sIf (bOr (bOp neB (eIsi "int" (eVar 1)) (eIsi "int" (eVar 0))) (bOp neB (eIsi "str" (eVar 1)) (eIsi "str" (eVar 0)))) (sRet (eC (.bl false))) sNil)
  (sRet (eOp (blG eqB) (eVar 0) (eVar 1))))))
noncomputable def F_law_same_k16 (C : Cs) : Nat → Fd
  | 0 => fun _ _ => .fail
  | n + 1 => mkF 3 0 0 (fb_law_same_k16 C (F_law_same_k16 C n))
@[simp] abbrev E_law_string_k16 (x_draws_here x_most x_signs x_string_here x_k : Option W := none) (c0 : Option Cell := none) (np : Nat := 1) : Dl.Env := ⟨[x_draws_here, x_most, x_signs, x_string_here, x_k], [c0], np⟩
noncomputable def fb_law_string_k16_l1b (C : Cs) : Sv := (sSet 3 (eOp addD (eVar 3) (eIx (eVar 2) (eCall 2 (F_law_take C) [0] [] [] [(eVar 0), (eCB kLen [(eVar 2)])]))))
noncomputable def fb_law_string_k16_l1 (C : Cs) : Sv := sFor (iRg1 (eOp addD (eC (.int 1)) (eCall 2 (F_law_take C) [0] [] [] [(eVar 0), (eVar 1)]))) (tgName 4) [4] (fb_law_string_k16_l1b C)
noncomputable def fb_law_string_k16 (C : Cs) : Sv :=
  (sSeq (sSet 2 (eC (.str "ab <>&;lt\n~/")))
  (sSeq (sSet 3 (eC (.str "")))
  (sSeq (fb_law_string_k16_l1 C)
  (sRet (eVar 3)))))
noncomputable def F_law_string_k16 (C : Cs) : Fd := mkF 5 1 1 (fb_law_string_k16 C)
@[simp] abbrev E_law_tree (x_draws_here x_depth x_names_here x_children x_many x_k x_beside : Option W := none) (c0 c1 : Option Cell := none) (np : Nat := 1) : Dl.Env := ⟨[x_draws_here, x_depth, x_names_here, x_children, x_many, x_k, x_beside], [c0, c1], np⟩
noncomputable def fb_law_tree_l1b (C : Cs) (F_law_tree : Fd) : Sv := (sSeq (sSet 6 (eAnd (eOp (blG gtB) (eCB kLen [(eVar 3)]) (eC (.int 0))) (eIsi "str" (eIx (eVar 3) (eOp subD (eCB kLen [(eVar 3)]) (eC (.int 1)))))))
  (sIf (bOr (bOp eqB (eVar 1) (eC (.int 0))) (bOp eqB (eCall 2 (F_law_take C) [0] [] [] [(eVar 0), (eC (.int 3))]) (eC (.int 0)))) (sIf (bNot (bTru (eVar 6))) (sExpr (eM isLst kAppend (eVar 3) [(eCall 2 (F_law_string_k16 C) [0] [] [] [(eVar 0), (eC (.int 5))])])) sNil) (sExpr (eM isLst kAppend (eVar 3) [(eCall 3 F_law_tree [0] [] [] [(eVar 0), (eOp subD (eVar 1) (eC (.int 1))), (eVar 2)])]))))
noncomputable def fb_law_tree_l1 (C : Cs) (F_law_tree : Fd) : Sv := sFor (iRg1 (eVar 4)) (tgName 5) [5, 6] (fb_law_tree_l1b C F_law_tree)
noncomputable def fb_law_tree (C : Cs) (F_law_tree : Fd) : Sv :=
  (sSeq (sSet 3 (eCB (kDisp (some 1)) []))
  (sSeq (sSet 4 (eCall 2 (F_law_take C) [0] [] [] [(eVar 0), (eC (.int 4))]))
  (sSeq (sIf (bOp eqB (eVar 1) (eC (.int 0))) (sSet 4 (eCall 2 (F_law_take C) [0] [] [] [(eVar 0), (eC (.int 2))])) sNil)
  (sSeq (sThen 1 (fb_law_tree_l1 C F_law_tree))
  (sRet (eCB kTup [(eIx (eVar 2) (eCall 2 (F_law_take C) [0] [] [] [(eVar 0), (eCB kLen [(eVar 2)])])), (eVar 3)]))))))
noncomputable def F_law_tree (C : Cs) : Nat → Fd
  | 0 => fun _ _ => .fail
  | n + 1 => mkF 7 2 1 (fb_law_tree C (F_law_tree C n))
@[simp] abbrev E_law_names (x_draws_here : Option W := none) (c0 : Option Cell := none) (np : Nat := 1) : Dl.Env := ⟨[x_draws_here], [c0], np⟩
noncomputable def fb_law_names (C : Cs) : Sv :=
  (sRet (eSl (eCB (kDisp none) [(eC (.str "a")), (eC (.str "b")), (eC (.str "abcdefghijkl")), (eC (.str "c"))]) oNone (oSome (eOp addD (eC (.int 1)) (eCall 2 (F_law_take C) [0] [] [] [(eVar 0), (eC (.int 4))])))))
noncomputable def F_law_names (C : Cs) : Fd := mkF 1 1 1 (fb_law_names C)
end Tp
end
section
set_option Elab.async false
set_option linter.all false
set_option maxRecDepth 100000
set_option maxHeartbeats 8000000
namespace Tp
open PySem L2 Dl
@[simp] abbrev E_law_error (x_text x_e : Option W := none) (np : Nat := 0) : Dl.Env := ⟨[x_text, x_e], [], np⟩
noncomputable def fb_law_error (C : Cs) : Sv :=
  (sSeq (sTryM [(C.TextError, some 1, (kLstF (kCons (kFld "line") (kCons (kFld "column") (kCons (kFld "reason") kNil)))))] (sExpr (eCall 1 (F_read_document C) [] [] [] [(eVar 0)])))
  (sRet (eCB (kDisp none) [])))
noncomputable def F_law_error (C : Cs) : Fd := mkF 2 0 0 (fb_law_error C)
@[simp] abbrev E_law_place_k19 (x_text x_at x_before x_line x_k x_column : Option W := none) (c0 : Option Cell := none) (np : Nat := 0) : Dl.Env := ⟨[x_text, x_at, x_before, x_line, x_k, x_column], [c0], np⟩
noncomputable def fb_law_place_k19_c1 (C : Cs) : Ev := eLc (iRg1 (eCB kLen [(eVar 2)])) (tgName 4) (bOp eqB (eIx (eVar 2) (eVar 4)) (eC (.str "\n"))) (eVar 4) 0 false [4]
noncomputable def fb_law_place_k19 (C : Cs) : Sv :=
  (sSeq (sSet 2 (eSl (eVar 0) oNone (oSome (eVar 1))))
  (sSeq (sSet 3 (fb_law_place_k19_c1 C))
  (sSeq (sSet 5 (eOp addD (eVar 1) (eC (.int 1))))
  (sSeq (sIf (bOp gtB (eCB kLen [(eVar 3)]) (eC (.int 0))) (sSet 5 (eOp subD (eVar 1) (eIx (eVar 3) (eOp subD (eCB kLen [(eVar 3)]) (eC (.int 1)))))) sNil)
  (sRet (eCB (kDisp none) [(eOp addD (eC (.int 1)) (eCB kLen [(eVar 3)])), (eVar 5)]))))))
noncomputable def F_law_place_k19 (C : Cs) : Fd := mkF 6 1 0 (fb_law_place_k19 C)
@[simp] abbrev E_law_pieces (x_rows : Option W := none) (np : Nat := 0) : Dl.Env := ⟨[x_rows], [], np⟩
noncomputable def fb_law_pieces (C : Cs) : Sv :=
  (sSeq (sSet 0 (eCB (kDisp none) [(eCB (kDisp none) [(eC (.str ">")), (eC (.int 0)), (eC (.str "sign"))]), (eCB (kDisp none) [(eC (.str "& ")), (eC (.int 0)), (eC (.str "sign"))]), (eCB (kDisp none) [(eC (.str "&x;")), (eC (.int 0)), (eC (.str "sign"))]), (eCB (kDisp none) [(eC (.str "&lt")), (eC (.int 0)), (eC (.str "sign"))]), (eCB (kDisp none) [(eC (.str "x>")), (eC (.int 1)), (eC (.str "sign"))]), (eCB (kDisp none) [(eC (.str "x\n&amp")), (eC (.int 2)), (eC (.str "sign"))])]))
  (sSeq (sSet 0 (eOp addD (eVar 0) (eCB (kDisp none) [(eCB (kDisp none) [(eC (.str "\t")), (eC (.int 0)), (eC (.str "character"))]), (eCB (kDisp none) [(eC (.str "x\ny\t")), (eC (.int 3)), (eC (.str "character"))]), (eCB (kDisp none) [(eC (.str "<\t")), (eC (.int 1)), (eC (.str "character"))]), (eCB (kDisp none) [(eC (.str "<a\t")), (eC (.int 2)), (eC (.str "character"))])])))
  (sSeq (sSet 0 (eOp addD (eVar 0) (eCB (kDisp none) [(eCB (kDisp none) [(eC (.str "< a>")), (eC (.int 1)), (eC (.str "name"))]), (eCB (kDisp none) [(eC (.str "<1>")), (eC (.int 1)), (eC (.str "name"))]), (eCB (kDisp none) [(eC (.str "<>")), (eC (.int 1)), (eC (.str "name"))]), (eCB (kDisp none) [(eC (.str "<A/>")), (eC (.int 1)), (eC (.str "name"))]), (eCB (kDisp none) [(eC (.str "<abcdefghijklm/>")), (eC (.int 1)), (eC (.str "name"))]), (eCB (kDisp none) [(eC (.str "</>")), (eC (.int 2)), (eC (.str "name"))])])))
  (sSeq (sSet 0 (eOp addD (eVar 0) (eCB (kDisp none) [(eCB (kDisp none) [(eC (.str "</ a>")), (eC (.int 2)), (eC (.str "name"))]), (eCB (kDisp none) [(eC (.str "<a b>")), (eC (.int 2)), (eC (.str "tag"))]), (eCB (kDisp none) [(eC (.str "<a1>")), (eC (.int 2)), (eC (.str "tag"))]), (eCB (kDisp none) [(eC (.str "<a/ >")), (eC (.int 3)), (eC (.str "tag"))]), (eCB (kDisp none) [(eC (.str "<a<")), (eC (.int 2)), (eC (.str "tag"))]), (eCB (kDisp none) [(eC (.str "<a//>")), (eC (.int 3)), (eC (.str "tag"))])])))
  (sRet (eOp addD (eVar 0) (eCB (kDisp none) [(eCB (kDisp none) [(eC (.str "</zz>")), (eC (.int 2)), (eC (.str "end"))]), (eCB (kDisp none) [(eC (.str "</zz")), (eC (.int 2)), (eC (.str "end"))]), (eCB (kDisp none) [(eC (.str "<zz></a>")), (eC (.int 6)), (eC (.str "end"))]), (eCB (kDisp none) [(eC (.str "<zz></zz >")), (eC (.int 8)), (eC (.str "tag"))]), (eCB (kDisp none) [(eC (.str "<zz></zz/>")), (eC (.int 8)), (eC (.str "tag"))]), (eCB (kDisp none) [(eC (.str "</zzzzzzzzzzzzz>")), (eC (.int 2)), (eC (.str "name"))])])))))))
noncomputable def F_law_pieces (C : Cs) : Fd := mkF 1 0 0 (fb_law_pieces C)
@[simp] abbrev E_law_k19 (x_script x_draws_here x_tree_here x_text x_places x_k x_at x_rows x_row x_wrong x_more x_other x_cut x_told : Option W := none) (c0 c1 : Option Cell := none) (np : Nat := 0) : Dl.Env := ⟨[x_script, x_draws_here, x_tree_here, x_text, x_places, x_k, x_at, x_rows, x_row, x_wrong, x_more, x_other, x_cut, x_told], [c0, c1], np⟩
noncomputable def fb_law_k19_c1 (C : Cs) : Ev := eLc (iRg1 (eCB kLen [(eVar 3)])) (tgName 5) (bAnd (bOp eqB (eIx (eVar 3) (eVar 5)) (eC (.str ">"))) (bOp notInB (eC (.str "/")) (eSl (eVar 3) (oSome (eM isStr (k1S rfindD) (eSl (eVar 3) oNone (oSome (eVar 5))) [(eC (.str "<"))])) (oSome (eVar 5))))) (eOp addD (eVar 5) (eC (.int 1))) 1 false [5]
noncomputable def fb_law_k19_l1b (C : Cs) : Sv := (sIf (bNot (bTru (eCall 2 (F_law_same_k16 C 140) [] [] [] [(eCall 1 (F_law_error C) [] [] [] [(eVar 11)]), (eCB (kDisp none) [(eC (.int 1)), (eC (.int 1)), (eC (.str "element"))])]))) (sRet (eC (.bl false))) sNil)
noncomputable def fb_law_k19_l1 (C : Cs) : Sv := sFor (iL (eCB (kDisp none) [(eC (.str "x")), (eC (.str " <a/>")), (eC (.str "&lt;a/>")), (eC (.str "/a>")), (eC (.str "\n<a/>"))])) (tgName 11) [11] (fb_law_k19_l1b C)
noncomputable def fb_law_k19_t1 (C : Cs) : Sv := (sSeq (sThen 0 (sSet 12 (eCall 2 (F_law_take C) [0] [] [] [(eVar 1), (eCB kLen [(eVar 3)])])))
  (sSeq (sSet 13 (eCall 1 (F_law_error C) [] [] [] [(eSl (eVar 3) oNone (oSome (eVar 12)))]))
  (sRet (eOr (eOp (blG eqB) (eVar 13) (eOp addD (eCall 2 (F_law_place_k19 C) [] [] [] [(eVar 3), (eVar 12)]) (eCB (kDisp none) [(eC (.str "open"))]))) (eAnd (eOp (blG inB) (eIx (eVar 13) (eC (.int 2))) (eCB (kDisp none) [(eC (.str "sign")), (eC (.str "end"))])) (eOp (blG eqB) (eCB kLen [(eVar 13)]) (eC (.int 3))))))))
noncomputable def fb_law_k19_t2 (C : Cs) : Sv := (sSeq (fb_law_k19_l1 C)
  (sSeq (sIf (bNot (bTru (eCall 2 (F_law_same_k16 C 140) [] [] [] [(eCB (kDisp none) [(eCall 1 (F_law_error C) [] [] [] [(eC (.str ""))]), (eCall 1 (F_law_error C) [] [] [] [(eC (.str "<"))]), (eCall 1 (F_law_error C) [] [] [] [(eC (.str "</a>"))])]), (eCB (kDisp none) [(eCB (kDisp none) [(eC (.int 1)), (eC (.int 1)), (eC (.str "open"))]), (eCB (kDisp none) [(eC (.int 1)), (eC (.int 2)), (eC (.str "open"))]), (eCB (kDisp none) [(eC (.int 1)), (eC (.int 2)), (eC (.str "name"))])])]))) (sRet (eC (.bl false))) sNil)
  (fb_law_k19_t1 C)))
noncomputable def fb_law_k19_t3 (C : Cs) : Sv := (sSeq (sIf (bNot (bTru (eCall 2 (F_law_same_k16 C 140) [] [] [] [(eCall 1 (F_law_error C) [] [] [] [(eOp addD (eVar 3) (eC (.str "\t")))]), (eOp addD (eCall 2 (F_law_place_k19 C) [] [] [] [(eVar 3), (eCB kLen [(eVar 3)])]) (eCB (kDisp none) [(eC (.str "character"))]))]))) (sRet (eC (.bl false))) sNil)
  (fb_law_k19_t2 C))
noncomputable def fb_law_k19_t4 (C : Cs) : Sv := (sSeq (sSet 10 (eOp addD (eVar 3) (eIx (eCB (kDisp none) [(eC (.str "x")), (eC (.str " ")), (eC (.str "<a/>")), (eC (.str "\n")), (eC (.str "&"))]) (eCall 2 (F_law_take C) [0] [] [] [(eVar 1), (eC (.int 5))]))))
  (sSeq (sIf (bNot (bTru (eCall 2 (F_law_same_k16 C 140) [] [] [] [(eCall 1 (F_law_error C) [] [] [] [(eVar 10)]), (eOp addD (eCall 2 (F_law_place_k19 C) [] [] [] [(eVar 10), (eCB kLen [(eVar 3)])]) (eCB (kDisp none) [(eC (.str "more"))]))]))) (sRet (eC (.bl false))) sNil)
  (fb_law_k19_t3 C)))
noncomputable def fb_law_k19_t5 (C : Cs) : Sv := (sSeq (sSet 4 (fb_law_k19_c1 C))
  (sSeq (sSet 6 (eIx (eVar 4) (eCall 2 (F_law_take C) [0] [] [] [(eVar 1), (eCB kLen [(eVar 4)])])))
  (sSeq (sSet 7 (eCall 0 (F_law_pieces C) [] [] [] []))
  (sSeq (sSet 8 (eIx (eVar 7) (eCall 2 (F_law_take C) [0] [] [] [(eVar 1), (eCB kLen [(eVar 7)])])))
  (sSeq (sSet 9 (eOp addD (eOp addD (eSl (eVar 3) oNone (oSome (eVar 6))) (eIx (eVar 8) (eC (.int 0)))) (eSl (eVar 3) (oSome (eOp addD (eVar 6) (eOp mulD (eCall 2 (F_law_take C) [0] [] [] [(eVar 1), (eC (.int 2))]) (eOp subD (eCB kLen [(eVar 3)]) (eVar 6))))) oNone)))
  (sSeq (sIf (bOp inB (eIx (eVar 8) (eC (.int 0))) (eCB (kDisp none) [(eC (.str "&lt")), (eC (.str "x\n&amp"))])) (sSet 9 (eOp addD (eOp addD (eOp addD (eSl (eVar 3) oNone (oSome (eVar 6))) (eIx (eVar 8) (eC (.int 0)))) (eC (.str " "))) (eSl (eVar 3) (oSome (eVar 6)) oNone))) sNil)
  (sSeq (sIf (bNot (bTru (eCall 2 (F_law_same_k16 C 140) [] [] [] [(eCall 1 (F_law_error C) [] [] [] [(eVar 9)]), (eOp addD (eCall 2 (F_law_place_k19 C) [] [] [] [(eVar 9), (eOp addD (eVar 6) (eIx (eVar 8) (eC (.int 1))))]) (eCB (kDisp none) [(eIx (eVar 8) (eC (.int 2)))]))]))) (sRet (eC (.bl false))) sNil)
  (fb_law_k19_t4 C))))))))
noncomputable def fb_law_k19 (C : Cs) : Sv :=
  (sSeq (sSet 1 (eCall 1 (F_law_draws C) [] [0] [] [(eVar 0)]))
  (sSeq (sSet 2 (eCall 3 (F_law_tree C 9) [0] [] [] [(eVar 1), (eC (.int 3)), (eCall 1 (F_law_names C) [0] [] [] [(eVar 1)])]))
  (sSeq (sSet 3 (eCall 2 (F_law_written C 70) [] [] [] [(eVar 2), (eC (.bl true))]))
  (sSeq (sIf (bNot (bTru (eCall 2 (F_law_same_k16 C 140) [] [] [] [(eCall 1 (F_law_error C) [] [] [] [(eVar 3)]), (eCB (kDisp none) [])]))) (sRet (eC (.bl false))) sNil)
  (fb_law_k19_t5 C)))))
noncomputable def F_law_k19 (C : Cs) : Fd := mkF 14 2 0 (fb_law_k19 C)
end Tp
end
section
set_option Elab.async false
set_option linter.all false
set_option maxRecDepth 100000
set_option maxHeartbeats 8000000
namespace Wk
open PySem L2 Dl Tp
abbrev N_TextError_init : List Str := ["self", "line", "column", "reason"]
theorem sc_TextError_init : FnScope N_TextError_init ["self", "line", "column", "reason"] (defScope s_TextError_init) := ⟨rfl, rfl, rfl, by decide +kernel, rfl, by decide +kernel, by decide +kernel⟩
abbrev N_TooLarge_init : List Str := ["self", "limit"]
theorem sc_TooLarge_init : FnScope N_TooLarge_init ["self", "limit"] (defScope s_TooLarge_init) := ⟨rfl, rfl, rfl, by decide +kernel, rfl, by decide +kernel, by decide +kernel⟩
abbrev N_is_character : List Str := ["letter"]
theorem sc_is_character : FnScope N_is_character ["letter"] (defScope s_is_character) := ⟨rfl, rfl, rfl, by decide +kernel, rfl, by decide +kernel, by decide +kernel⟩
abbrev N_DocumentReader_init : List Str := ["self", "text"]
theorem sc_DocumentReader_init : FnScope N_DocumentReader_init ["self", "text"] (defScope s_DocumentReader_init) := ⟨rfl, rfl, rfl, by decide +kernel, rfl, by decide +kernel, by decide +kernel⟩
abbrev N_DocumentReader_fail : List Str := ["self", "place", "reason", "before", "line_start"]
theorem sc_DocumentReader_fail : FnScope N_DocumentReader_fail ["self", "place", "reason"] (defScope s_DocumentReader_fail) := ⟨rfl, rfl, rfl, by decide +kernel, rfl, by decide +kernel, by decide +kernel⟩
abbrev N_DocumentReader_look : List Str := ["self", "letter"]
theorem sc_DocumentReader_look : FnScope N_DocumentReader_look ["self"] (defScope s_DocumentReader_look) := ⟨rfl, rfl, rfl, by decide +kernel, rfl, by decide +kernel, by decide +kernel⟩
abbrev N_DocumentReader_take_if : List Str := ["self", "letter"]
theorem sc_DocumentReader_take_if : FnScope N_DocumentReader_take_if ["self", "letter"] (defScope s_DocumentReader_take_if) := ⟨rfl, rfl, rfl, by decide +kernel, rfl, by decide +kernel, by decide +kernel⟩
abbrev N_DocumentReader_name : List Str := ["self", "start"]
theorem sc_DocumentReader_name : FnScope N_DocumentReader_name ["self"] (defScope s_DocumentReader_name) := ⟨rfl, rfl, rfl, by decide +kernel, rfl, by decide +kernel, by decide +kernel⟩
abbrev N_DocumentReader_new_node : List Str := ["self", "place", "depth"]
theorem sc_DocumentReader_new_node : FnScope N_DocumentReader_new_node ["self", "place", "depth"] (defScope s_DocumentReader_new_node) := ⟨rfl, rfl, rfl, by decide +kernel, rfl, by decide +kernel, by decide +kernel⟩
abbrev N_DocumentReader_begin : List Str := ["self", "place", "name"]
theorem sc_DocumentReader_begin : FnScope N_DocumentReader_begin ["self", "place"] (defScope s_DocumentReader_begin) := ⟨rfl, rfl, rfl, by decide +kernel, rfl, by decide +kernel, by decide +kernel⟩
abbrev N_DocumentReader_end : List Str := ["self", "start", "name"]
theorem sc_DocumentReader_end : FnScope N_DocumentReader_end ["self"] (defScope s_DocumentReader_end) := ⟨rfl, rfl, rfl, by decide +kernel, rfl, by decide +kernel, by decide +kernel⟩
abbrev N_DocumentReader_sign : List Str := ["self", "written", "letter"]
theorem sc_DocumentReader_sign : FnScope N_DocumentReader_sign ["self"] (defScope s_DocumentReader_sign) := ⟨rfl, rfl, rfl, by decide +kernel, rfl, by decide +kernel, by decide +kernel⟩
abbrev N_DocumentReader_string : List Str := ["self", "start", "letters", "place", "letter"]
theorem sc_DocumentReader_string : FnScope N_DocumentReader_string ["self"] (defScope s_DocumentReader_string) := ⟨rfl, rfl, rfl, by decide +kernel, rfl, by decide +kernel, by decide +kernel⟩
abbrev N_DocumentReader_part : List Str := ["self", "place"]
theorem sc_DocumentReader_part : FnScope N_DocumentReader_part ["self"] (defScope s_DocumentReader_part) := ⟨rfl, rfl, rfl, by decide +kernel, rfl, by decide +kernel, by decide +kernel⟩
abbrev N_DocumentReader_document : List Str := ["self", "done"]
theorem sc_DocumentReader_document : FnScope N_DocumentReader_document ["self"] (defScope s_DocumentReader_document) := ⟨rfl, rfl, rfl, by decide +kernel, rfl, by decide +kernel, by decide +kernel⟩
abbrev N_read_document : List Str := ["text"]
theorem sc_read_document : FnScope N_read_document ["text"] (defScope s_read_document) := ⟨rfl, rfl, rfl, by decide +kernel, rfl, by decide +kernel, by decide +kernel⟩
abbrev N_law_escaped : List Str := ["_law_string_here", "_law_signs", "_law_letter"]
theorem sc_law_escaped : FnScope N_law_escaped ["_law_string_here"] (defScope s_law_escaped) := ⟨rfl, rfl, rfl, by decide +kernel, rfl, by decide +kernel, by decide +kernel⟩
abbrev N_law_written : List Str := ["_law_tree_here", "_law_loose", "_law_inner", "_law_child"]
theorem sc_law_written : FnScope N_law_written ["_law_tree_here", "_law_loose"] (defScope s_law_written) := ⟨rfl, rfl, rfl, by decide +kernel, rfl, by decide +kernel, by decide +kernel⟩
abbrev N_law_draws : List Str := ["_law_script", "_law_draws_here", "_law_cell", "_law_number", "_law_first", "_law_k", "_law_seed"]
theorem sc_law_draws : FnScope N_law_draws ["_law_script"] (defScope s_law_draws) := ⟨rfl, rfl, rfl, by decide +kernel, rfl, by decide +kernel, by decide +kernel⟩
abbrev N_law_take : List Str := ["_law_draws_here", "_law_bound"]
theorem sc_law_take : FnScope N_law_take ["_law_draws_here", "_law_bound"] (defScope s_law_take) := ⟨rfl, rfl, rfl, by decide +kernel, rfl, by decide +kernel, by decide +kernel⟩
abbrev N_law_same_k16 : List Str := ["_law_actual", "_law_due", "_law_k"]
theorem sc_law_same_k16 : FnScope N_law_same_k16 ["_law_actual", "_law_due"] (defScope s_law_same_k16) := ⟨rfl, rfl, rfl, by decide +kernel, rfl, by decide +kernel, by decide +kernel⟩
abbrev N_law_string_k16 : List Str := ["_law_draws_here", "_law_most", "_law_signs", "_law_string_here", "_law_k"]
theorem sc_law_string_k16 : FnScope N_law_string_k16 ["_law_draws_here", "_law_most"] (defScope s_law_string_k16) := ⟨rfl, rfl, rfl, by decide +kernel, rfl, by decide +kernel, by decide +kernel⟩
abbrev N_law_tree : List Str := ["_law_draws_here", "_law_depth", "_law_names_here", "_law_children", "_law_many", "_law_k", "_law_beside"]
theorem sc_law_tree : FnScope N_law_tree ["_law_draws_here", "_law_depth", "_law_names_here"] (defScope s_law_tree) := ⟨rfl, rfl, rfl, by decide +kernel, rfl, by decide +kernel, by decide +kernel⟩
abbrev N_law_names : List Str := ["_law_draws_here"]
theorem sc_law_names : FnScope N_law_names ["_law_draws_here"] (defScope s_law_names) := ⟨rfl, rfl, rfl, by decide +kernel, rfl, by decide +kernel, by decide +kernel⟩
abbrev N_law_error : List Str := ["_law_text", "e"]
theorem sc_law_error : FnScope N_law_error ["_law_text"] (defScope s_law_error) := ⟨rfl, rfl, rfl, by decide +kernel, rfl, by decide +kernel, by decide +kernel⟩
abbrev N_law_place_k19 : List Str := ["_law_text", "_law_at", "_law_before", "_law_line", "_law_k", "_law_column"]
theorem sc_law_place_k19 : FnScope N_law_place_k19 ["_law_text", "_law_at"] (defScope s_law_place_k19) := ⟨rfl, rfl, rfl, by decide +kernel, rfl, by decide +kernel, by decide +kernel⟩
abbrev N_law_pieces : List Str := ["_law_rows"]
theorem sc_law_pieces : FnScope N_law_pieces [] (defScope s_law_pieces) := ⟨rfl, rfl, rfl, by decide +kernel, rfl, by decide +kernel, by decide +kernel⟩
abbrev N_law_k19 : List Str := ["_law_script", "_law_draws_here", "_law_tree_here", "_law_text", "_law_places", "_law_k", "_law_at", "_law_rows", "_law_row", "_law_wrong", "_law_more", "_law_other", "_law_cut", "_law_told"]
theorem sc_law_k19 : FnScope N_law_k19 ["_law_script"] (defScope s_law_k19) := ⟨rfl, rfl, rfl, by decide +kernel, rfl, by decide +kernel, by decide +kernel⟩
structure Tx (K : PySem.W.Frag) (mg : Str → Option Value) where
  C_TextError : Addr
  C_TooLarge : Addr
  C_DocumentReader : Addr
  f_TextError_init : Addr
  d_TextError_init : FuncData
  f_TooLarge_init : Addr
  d_TooLarge_init : FuncData
  f_is_character : Addr
  d_is_character : FuncData
  f_DocumentReader_init : Addr
  d_DocumentReader_init : FuncData
  f_DocumentReader_fail : Addr
  d_DocumentReader_fail : FuncData
  f_DocumentReader_look : Addr
  d_DocumentReader_look : FuncData
  f_DocumentReader_take_if : Addr
  d_DocumentReader_take_if : FuncData
  f_DocumentReader_name : Addr
  d_DocumentReader_name : FuncData
  f_DocumentReader_new_node : Addr
  d_DocumentReader_new_node : FuncData
  f_DocumentReader_begin : Addr
  d_DocumentReader_begin : FuncData
  f_DocumentReader_end : Addr
  d_DocumentReader_end : FuncData
  f_DocumentReader_sign : Addr
  d_DocumentReader_sign : FuncData
  f_DocumentReader_string : Addr
  d_DocumentReader_string : FuncData
  f_DocumentReader_part : Addr
  d_DocumentReader_part : FuncData
  f_DocumentReader_document : Addr
  d_DocumentReader_document : FuncData
  f_read_document : Addr
  d_read_document : FuncData
  f_law_escaped : Addr
  d_law_escaped : FuncData
  f_law_written : Addr
  d_law_written : FuncData
  f_law_draws : Addr
  d_law_draws : FuncData
  f_law_take : Addr
  d_law_take : FuncData
  f_law_same_k16 : Addr
  d_law_same_k16 : FuncData
  f_law_string_k16 : Addr
  d_law_string_k16 : FuncData
  f_law_tree : Addr
  d_law_tree : FuncData
  f_law_names : Addr
  d_law_names : FuncData
  f_law_error : Addr
  d_law_error : FuncData
  f_law_place_k19 : Addr
  d_law_place_k19 : FuncData
  f_law_pieces : Addr
  d_law_pieces : FuncData
  f_law_k19 : Addr
  d_law_k19 : FuncData
  t_LETTERS : Tok
  t_MOST_CHARACTERS : Tok
  t_MOST_DEPTH : Tok
  t_MOST_LETTERS : Tok
  t_MOST_NODES : Tok
  t_MOST_TEXT : Tok
  a_SIGNS : Addr
  g_TextError : mg "TextError" = some (.ref C_TextError)
  x_TextError : XClsN K C_TextError f_TextError_init ["line", "column", "reason"]
  xf_TextError : XfC K C_TextError
  xe_TextError : PySem.W.exmOne K (.ref C_TextError) (.ref C_TextError) = some true
  xv_TextError : PySem.W.kitOne K (.ref C_TextError) (.type "ValueError") = some true
  g_TooLarge : mg "TooLarge" = some (.ref C_TooLarge)
  x_TooLarge : XClsN K C_TooLarge f_TooLarge_init ["limit"]
  xf_TooLarge : XfC K C_TooLarge
  xe_TooLarge : PySem.W.exmOne K (.ref C_TooLarge) (.ref C_TooLarge) = some true
  xv_TooLarge : PySem.W.kitOne K (.ref C_TooLarge) (.type "ValueError") = some true
  c_DocumentReader : Cls K C_DocumentReader
  g_DocumentReader : mg "DocumentReader" = some (.ref C_DocumentReader)
  F_TextError_init : FunD K "__init__" "TextError.__init__" (defArgs s_TextError_init) (defBody s_TextError_init) (defScope s_TextError_init) [] [] f_TextError_init d_TextError_init
  F_TooLarge_init : FunD K "__init__" "TooLarge.__init__" (defArgs s_TooLarge_init) (defBody s_TooLarge_init) (defScope s_TooLarge_init) [] [] f_TooLarge_init d_TooLarge_init
  F_is_character : FunD K "is_character" "is_character" (defArgs s_is_character) (defBody s_is_character) (defScope s_is_character) [] [] f_is_character d_is_character
  m_is_character : mg "is_character" = some (.ref f_is_character)
  k_is_character : PySem.W.keepIn K (.ref f_is_character) = true
  F_DocumentReader_init : FunD K "__init__" "DocumentReader.__init__" (defArgs s_DocumentReader_init) (defBody s_DocumentReader_init) (defScope s_DocumentReader_init) [] [] f_DocumentReader_init d_DocumentReader_init
  mk_DocumentReader : Mk K C_DocumentReader f_DocumentReader_init
  F_DocumentReader_fail : FunD K "fail" "DocumentReader.fail" (defArgs s_DocumentReader_fail) (defBody s_DocumentReader_fail) (defScope s_DocumentReader_fail) [] [] f_DocumentReader_fail d_DocumentReader_fail
  me_DocumentReader_fail : Meth K C_DocumentReader "fail" f_DocumentReader_fail
  F_DocumentReader_look : FunD K "look" "DocumentReader.look" (defArgs s_DocumentReader_look) (defBody s_DocumentReader_look) (defScope s_DocumentReader_look) [] [] f_DocumentReader_look d_DocumentReader_look
  me_DocumentReader_look : Meth K C_DocumentReader "look" f_DocumentReader_look
  F_DocumentReader_take_if : FunD K "take_if" "DocumentReader.take_if" (defArgs s_DocumentReader_take_if) (defBody s_DocumentReader_take_if) (defScope s_DocumentReader_take_if) [] [] f_DocumentReader_take_if d_DocumentReader_take_if
  me_DocumentReader_take_if : Meth K C_DocumentReader "take_if" f_DocumentReader_take_if
  F_DocumentReader_name : FunD K "name" "DocumentReader.name" (defArgs s_DocumentReader_name) (defBody s_DocumentReader_name) (defScope s_DocumentReader_name) [] [] f_DocumentReader_name d_DocumentReader_name
  me_DocumentReader_name : Meth K C_DocumentReader "name" f_DocumentReader_name
  F_DocumentReader_new_node : FunD K "new_node" "DocumentReader.new_node" (defArgs s_DocumentReader_new_node) (defBody s_DocumentReader_new_node) (defScope s_DocumentReader_new_node) [] [] f_DocumentReader_new_node d_DocumentReader_new_node
  me_DocumentReader_new_node : Meth K C_DocumentReader "new_node" f_DocumentReader_new_node
  F_DocumentReader_begin : FunD K "begin" "DocumentReader.begin" (defArgs s_DocumentReader_begin) (defBody s_DocumentReader_begin) (defScope s_DocumentReader_begin) [] [] f_DocumentReader_begin d_DocumentReader_begin
  me_DocumentReader_begin : Meth K C_DocumentReader "begin" f_DocumentReader_begin
  F_DocumentReader_end : FunD K "end" "DocumentReader.end" (defArgs s_DocumentReader_end) (defBody s_DocumentReader_end) (defScope s_DocumentReader_end) [] [] f_DocumentReader_end d_DocumentReader_end
  me_DocumentReader_end : Meth K C_DocumentReader "end" f_DocumentReader_end
  F_DocumentReader_sign : FunD K "sign" "DocumentReader.sign" (defArgs s_DocumentReader_sign) (defBody s_DocumentReader_sign) (defScope s_DocumentReader_sign) [] [] f_DocumentReader_sign d_DocumentReader_sign
  me_DocumentReader_sign : Meth K C_DocumentReader "sign" f_DocumentReader_sign
  F_DocumentReader_string : FunD K "string" "DocumentReader.string" (defArgs s_DocumentReader_string) (defBody s_DocumentReader_string) (defScope s_DocumentReader_string) [] [] f_DocumentReader_string d_DocumentReader_string
  me_DocumentReader_string : Meth K C_DocumentReader "string" f_DocumentReader_string
  F_DocumentReader_part : FunD K "part" "DocumentReader.part" (defArgs s_DocumentReader_part) (defBody s_DocumentReader_part) (defScope s_DocumentReader_part) [] [] f_DocumentReader_part d_DocumentReader_part
  me_DocumentReader_part : Meth K C_DocumentReader "part" f_DocumentReader_part
  F_DocumentReader_document : FunD K "document" "DocumentReader.document" (defArgs s_DocumentReader_document) (defBody s_DocumentReader_document) (defScope s_DocumentReader_document) [] [] f_DocumentReader_document d_DocumentReader_document
  me_DocumentReader_document : Meth K C_DocumentReader "document" f_DocumentReader_document
  F_read_document : FunD K "read_document" "read_document" (defArgs s_read_document) (defBody s_read_document) (defScope s_read_document) [] [] f_read_document d_read_document
  m_read_document : mg "read_document" = some (.ref f_read_document)
  k_read_document : PySem.W.keepIn K (.ref f_read_document) = true
  F_law_escaped : FunD K "_law_escaped" "_law_escaped" (defArgs s_law_escaped) (defBody s_law_escaped) (defScope s_law_escaped) [] [] f_law_escaped d_law_escaped
  m_law_escaped : mg "_law_escaped" = some (.ref f_law_escaped)
  k_law_escaped : PySem.W.keepIn K (.ref f_law_escaped) = true
  F_law_written : FunD K "_law_written" "_law_written" (defArgs s_law_written) (defBody s_law_written) (defScope s_law_written) [] [] f_law_written d_law_written
  m_law_written : mg "_law_written" = some (.ref f_law_written)
  k_law_written : PySem.W.keepIn K (.ref f_law_written) = true
  F_law_draws : FunD K "_law_draws" "_law_draws" (defArgs s_law_draws) (defBody s_law_draws) (defScope s_law_draws) [] [] f_law_draws d_law_draws
  m_law_draws : mg "_law_draws" = some (.ref f_law_draws)
  k_law_draws : PySem.W.keepIn K (.ref f_law_draws) = true
  F_law_take : FunD K "_law_take" "_law_take" (defArgs s_law_take) (defBody s_law_take) (defScope s_law_take) [] [] f_law_take d_law_take
  m_law_take : mg "_law_take" = some (.ref f_law_take)
  k_law_take : PySem.W.keepIn K (.ref f_law_take) = true
  F_law_same_k16 : FunD K "_law_same" "_law_same" (defArgs s_law_same_k16) (defBody s_law_same_k16) (defScope s_law_same_k16) [] [] f_law_same_k16 d_law_same_k16
  m_law_same_k16 : mg "_law_same" = some (.ref f_law_same_k16)
  k_law_same_k16 : PySem.W.keepIn K (.ref f_law_same_k16) = true
  F_law_string_k16 : FunD K "_law_string" "_law_string" (defArgs s_law_string_k16) (defBody s_law_string_k16) (defScope s_law_string_k16) [] [] f_law_string_k16 d_law_string_k16
  m_law_string_k16 : mg "_law_string" = some (.ref f_law_string_k16)
  k_law_string_k16 : PySem.W.keepIn K (.ref f_law_string_k16) = true
  F_law_tree : FunD K "_law_tree" "_law_tree" (defArgs s_law_tree) (defBody s_law_tree) (defScope s_law_tree) [] [] f_law_tree d_law_tree
  m_law_tree : mg "_law_tree" = some (.ref f_law_tree)
  k_law_tree : PySem.W.keepIn K (.ref f_law_tree) = true
  F_law_names : FunD K "_law_names" "_law_names" (defArgs s_law_names) (defBody s_law_names) (defScope s_law_names) [] [] f_law_names d_law_names
  m_law_names : mg "_law_names" = some (.ref f_law_names)
  k_law_names : PySem.W.keepIn K (.ref f_law_names) = true
  F_law_error : FunD K "_law_error" "_law_error" (defArgs s_law_error) (defBody s_law_error) (defScope s_law_error) [] [] f_law_error d_law_error
  m_law_error : mg "_law_error" = some (.ref f_law_error)
  k_law_error : PySem.W.keepIn K (.ref f_law_error) = true
  F_law_place_k19 : FunD K "_law_place" "_law_place" (defArgs s_law_place_k19) (defBody s_law_place_k19) (defScope s_law_place_k19) [] [] f_law_place_k19 d_law_place_k19
  m_law_place_k19 : mg "_law_place" = some (.ref f_law_place_k19)
  k_law_place_k19 : PySem.W.keepIn K (.ref f_law_place_k19) = true
  F_law_pieces : FunD K "_law_pieces" "_law_pieces" (defArgs s_law_pieces) (defBody s_law_pieces) (defScope s_law_pieces) [] [] f_law_pieces d_law_pieces
  m_law_pieces : mg "_law_pieces" = some (.ref f_law_pieces)
  k_law_pieces : PySem.W.keepIn K (.ref f_law_pieces) = true
  F_law_k19 : FunD K "law" "law" (defArgs s_law_k19) (defBody s_law_k19) (defScope s_law_k19) [] [] f_law_k19 d_law_k19
  m_law_k19 : mg "law" = some (.ref f_law_k19)
  k_law_k19 : PySem.W.keepIn K (.ref f_law_k19) = true
  n_DocumentReader_at : NoAttr K C_DocumentReader "at"
  n_DocumentReader_node_count : NoAttr K C_DocumentReader "node_count"
  n_DocumentReader_opened : NoAttr K C_DocumentReader "opened"
  n_DocumentReader_text : NoAttr K C_DocumentReader "text"
  g_LETTERS : mg "LETTERS" = some (.str "abcdefghijklmnopqrstuvwxyz" t_LETTERS)
  g_MOST_CHARACTERS : mg "MOST_CHARACTERS" = some (.int 200000 t_MOST_CHARACTERS)
  g_MOST_DEPTH : mg "MOST_DEPTH" = some (.int 60 t_MOST_DEPTH)
  g_MOST_LETTERS : mg "MOST_LETTERS" = some (.int 12 t_MOST_LETTERS)
  g_MOST_NODES : mg "MOST_NODES" = some (.int 5000 t_MOST_NODES)
  g_MOST_TEXT : mg "MOST_TEXT" = some (.int 200 t_MOST_TEXT)
  g_SIGNS : mg "SIGNS" = some (.ref a_SIGNS)
  R_SIGNS : GRows K a_SIGNS ([["&lt;", "<"], ["&gt;", ">"], ["&amp;", "&"]] : List (List PySem.Str))
  b_abs : mg "abs" = none
  b_bool : mg "bool" = none
  b_int : mg "int" = none
  b_isinstance : mg "isinstance" = none
  b_len : mg "len" = none
  b_list : mg "list" = none
  b_range : mg "range" = none
  b_reversed : mg "reversed" = none
  b_str : mg "str" = none
  b_tuple : mg "tuple" = none
abbrev Tx.C {K : PySem.W.Frag} {mg : Str → Option Value} (T : Tx K mg) : Cs := { TopiaryError := default, InvalidRow := default, InvalidPlace := default, Bits := default, InvalidSize := default, InvalidSymbol := default, Wave := default, InvalidStretch := default, NotTurned := default, InvalidText := default, UnknownText := default, InvalidStep := default, InvalidPart := default, Finder := default, TextError := T.C_TextError, TooLarge := T.C_TooLarge, DocumentReader := T.C_DocumentReader, InvalidRows := default, InvalidDocument := default, Rows := default, Gatherer := default, Builder := default, Kept := default, InvalidQuestion := default, QuestionReader := default, ImproperQuestion := default, Evaluation := default, Meaning := default, FilteredQuestion := default, Comparison := default, InvalidEdit := default, View := default, Layers := default, Search := default, InvalidCounts := default, InvalidLengths := default, InvalidBox := default, Loader := default, InvalidLine := default, Desk := default, fn_node_at := default, fn_parent_of := default, fn_children_of := default, fn_depth_of := default, fn_upward_path := default, fn_depth := default, fn_family := default, fn_name := default, fn_node_of := default, fn_parent := default, fn_place := default, fn_row_of := default, fn_subtree := default, fn_text := default, fn_weight := default, fn_upward := default, fn_found_from := default, fn_nodes := default, fn_nodes_kept := default, fn_compare := default, fn_takes := default, fn_places_after := default, fn_edited := default, fn_taken_back := default, gd_SIGNS_writer := default, gd_ESCAPES := default, gd_NUMBERS := default, tb_rows_of := default }
section
variable {P : Program} {w : World} {K : PySem.W.Frag} {mg : Str → Option Value} {base : Heap}
theorem Tx.bd_TextError_init (T : Tx K mg) : Binds K T.d_TextError_init ["self", "line", "column", "reason"] [] := T.F_TextError_init.bindsN fun _ _ _ _ _ _ us hl => match us, hl with | [_, _, _, _], _ => rfl
theorem Tx.bd_TooLarge_init (T : Tx K mg) : Binds K T.d_TooLarge_init ["self", "limit"] [] := T.F_TooLarge_init.bindsN fun _ _ _ _ _ _ us hl => match us, hl with | [_, _], _ => rfl
theorem Tx.bd_is_character (T : Tx K mg) : Binds K T.d_is_character ["letter"] [] := T.F_is_character.bindsN fun _ _ _ _ _ _ us hl => match us, hl with | [_], _ => rfl
theorem Tx.bd_DocumentReader_init (T : Tx K mg) : Binds K T.d_DocumentReader_init ["self", "text"] [] := T.F_DocumentReader_init.bindsN fun _ _ _ _ _ _ us hl => match us, hl with | [_, _], _ => rfl
theorem Tx.bd_DocumentReader_fail (T : Tx K mg) : Binds K T.d_DocumentReader_fail ["self", "place", "reason"] [] := T.F_DocumentReader_fail.bindsN fun _ _ _ _ _ _ us hl => match us, hl with | [_, _, _], _ => rfl
theorem Tx.bd_DocumentReader_look (T : Tx K mg) : Binds K T.d_DocumentReader_look ["self"] [] := T.F_DocumentReader_look.bindsN fun _ _ _ _ _ _ us hl => match us, hl with | [_], _ => rfl
theorem Tx.bd_DocumentReader_take_if (T : Tx K mg) : Binds K T.d_DocumentReader_take_if ["self", "letter"] [] := T.F_DocumentReader_take_if.bindsN fun _ _ _ _ _ _ us hl => match us, hl with | [_, _], _ => rfl
theorem Tx.bd_DocumentReader_name (T : Tx K mg) : Binds K T.d_DocumentReader_name ["self"] [] := T.F_DocumentReader_name.bindsN fun _ _ _ _ _ _ us hl => match us, hl with | [_], _ => rfl
theorem Tx.bd_DocumentReader_new_node (T : Tx K mg) : Binds K T.d_DocumentReader_new_node ["self", "place", "depth"] [] := T.F_DocumentReader_new_node.bindsN fun _ _ _ _ _ _ us hl => match us, hl with | [_, _, _], _ => rfl
theorem Tx.bd_DocumentReader_begin (T : Tx K mg) : Binds K T.d_DocumentReader_begin ["self", "place"] [] := T.F_DocumentReader_begin.bindsN fun _ _ _ _ _ _ us hl => match us, hl with | [_, _], _ => rfl
theorem Tx.bd_DocumentReader_end (T : Tx K mg) : Binds K T.d_DocumentReader_end ["self"] [] := T.F_DocumentReader_end.bindsN fun _ _ _ _ _ _ us hl => match us, hl with | [_], _ => rfl
theorem Tx.bd_DocumentReader_sign (T : Tx K mg) : Binds K T.d_DocumentReader_sign ["self"] [] := T.F_DocumentReader_sign.bindsN fun _ _ _ _ _ _ us hl => match us, hl with | [_], _ => rfl
theorem Tx.bd_DocumentReader_string (T : Tx K mg) : Binds K T.d_DocumentReader_string ["self"] [] := T.F_DocumentReader_string.bindsN fun _ _ _ _ _ _ us hl => match us, hl with | [_], _ => rfl
theorem Tx.bd_DocumentReader_part (T : Tx K mg) : Binds K T.d_DocumentReader_part ["self"] [] := T.F_DocumentReader_part.bindsN fun _ _ _ _ _ _ us hl => match us, hl with | [_], _ => rfl
theorem Tx.bd_DocumentReader_document (T : Tx K mg) : Binds K T.d_DocumentReader_document ["self"] [] := T.F_DocumentReader_document.bindsN fun _ _ _ _ _ _ us hl => match us, hl with | [_], _ => rfl
theorem Tx.bd_read_document (T : Tx K mg) : Binds K T.d_read_document ["text"] [] := T.F_read_document.bindsN fun _ _ _ _ _ _ us hl => match us, hl with | [_], _ => rfl
theorem Tx.bd_law_escaped (T : Tx K mg) : Binds K T.d_law_escaped ["_law_string_here"] [] := T.F_law_escaped.bindsN fun _ _ _ _ _ _ us hl => match us, hl with | [_], _ => rfl
theorem Tx.bd_law_written (T : Tx K mg) : Binds K T.d_law_written ["_law_tree_here", "_law_loose"] [] := T.F_law_written.bindsN fun _ _ _ _ _ _ us hl => match us, hl with | [_, _], _ => rfl
theorem Tx.bd_law_draws (T : Tx K mg) : Binds K T.d_law_draws ["_law_script"] [] := T.F_law_draws.bindsN fun _ _ _ _ _ _ us hl => match us, hl with | [_], _ => rfl
theorem Tx.bd_law_take (T : Tx K mg) : Binds K T.d_law_take ["_law_draws_here", "_law_bound"] [] := T.F_law_take.bindsN fun _ _ _ _ _ _ us hl => match us, hl with | [_, _], _ => rfl
theorem Tx.bd_law_same_k16 (T : Tx K mg) : Binds K T.d_law_same_k16 ["_law_actual", "_law_due"] [] := T.F_law_same_k16.bindsN fun _ _ _ _ _ _ us hl => match us, hl with | [_, _], _ => rfl
theorem Tx.bd_law_string_k16 (T : Tx K mg) : Binds K T.d_law_string_k16 ["_law_draws_here", "_law_most"] [] := T.F_law_string_k16.bindsN fun _ _ _ _ _ _ us hl => match us, hl with | [_, _], _ => rfl
theorem Tx.bd_law_tree (T : Tx K mg) : Binds K T.d_law_tree ["_law_draws_here", "_law_depth", "_law_names_here"] [] := T.F_law_tree.bindsN fun _ _ _ _ _ _ us hl => match us, hl with | [_, _, _], _ => rfl
theorem Tx.bd_law_names (T : Tx K mg) : Binds K T.d_law_names ["_law_draws_here"] [] := T.F_law_names.bindsN fun _ _ _ _ _ _ us hl => match us, hl with | [_], _ => rfl
theorem Tx.bd_law_error (T : Tx K mg) : Binds K T.d_law_error ["_law_text"] [] := T.F_law_error.bindsN fun _ _ _ _ _ _ us hl => match us, hl with | [_], _ => rfl
theorem Tx.bd_law_place_k19 (T : Tx K mg) : Binds K T.d_law_place_k19 ["_law_text", "_law_at"] [] := T.F_law_place_k19.bindsN fun _ _ _ _ _ _ us hl => match us, hl with | [_, _], _ => rfl
theorem Tx.bd_law_pieces (T : Tx K mg) : Binds K T.d_law_pieces [] [] := T.F_law_pieces.bindsN fun _ _ _ _ _ _ us hl => match us, hl with | [], _ => rfl
theorem ok_TextError_init (T : Tx K mg) : FnOk P w K mg base (L2.CX P w) 1 T.f_TextError_init T.d_TextError_init ["self", "line", "column", "reason"] (spXIn T.C.TextError ["line", "column", "reason"]) := fnX3_ok T.F_TextError_init sc_TextError_init T.x_TextError fun _ _ _ _ _ _ => (pss_cons (ps_ost (pv 0) (pv 1)) (pss_cons (ps_ost (pv 0) (pv 2)) (pss_one (ps_ost (pv 0) (pv 3)))))
theorem ok_TooLarge_init (T : Tx K mg) : FnOk P w K mg base (L2.CX P w) 1 T.f_TooLarge_init T.d_TooLarge_init ["self", "limit"] (spXI T.C.TooLarge "limit") := fnX_ok T.F_TooLarge_init sc_TooLarge_init T.x_TooLarge.one fun _ _ _ _ _ _ => pss_one (ps_ost (pv 0) (pv 1))
set_option maxHeartbeats 8000000 in
theorem ok_is_character (T : Tx K mg) : FnOk P w K mg base (L2.CX P w) 1 T.f_is_character T.d_is_character ["letter"] (spD K 1 (mkF 1 0 0 (fb_is_character T.C))) :=
  fnD_ok (k := 0) T.F_is_character sc_is_character fun cdv A outer s H E hr => by
    have tk : Takes (cxOf (L2.CX P w) P w K mg base N_is_character "is_character" (defScope s_is_character) T.f_is_character cdv A outer s H E) (WofE E) := takes_of rfl rfl rfl rfl
    exact (s_one (s_ret (d_or (d_cmp (op_eqB hr.units) (OpB.d eqB_ok) (d_var (pv 0)) d_str (nomark _)) (d_one (d_chain op_leS op_leS leS_ok leS_ok d_str (d_var (pv 0)) d_str)))))
set_option maxHeartbeats 8000000 in
theorem ok_DocumentReader_init (T : Tx K mg) : FnOk P w K mg base (L2.CX P w) 1 T.f_DocumentReader_init T.d_DocumentReader_init ["self", "text"] (spD K 2 (mkF 2 2 2 (fb_DocumentReader_init T.C))) :=
  fnD_ok (k := 0) T.F_DocumentReader_init sc_DocumentReader_init fun cdv A outer s H E hr => by
    have tk : Takes (cxOf (L2.CX P w) P w K mg base N_DocumentReader_init "DocumentReader.__init__" (defScope s_DocumentReader_init) T.f_DocumentReader_init cdv A outer s H E) (WofE E) := takes_of rfl rfl rfl rfl
    exact (s_cons (s_setF T.c_DocumentReader T.n_DocumentReader_text (d_var (pv 0)) (d_var (pv 1)))
    (s_cons (s_setF T.c_DocumentReader T.n_DocumentReader_at (d_var (pv 0)) d_int)
    (s_cons (s_setF T.c_DocumentReader T.n_DocumentReader_node_count (d_var (pv 0)) d_int)
    (s_one (s_setF T.c_DocumentReader T.n_DocumentReader_opened (d_var (pv 0)) (d_listW (k := 1) a_nil))))))
set_option maxHeartbeats 8000000 in
theorem ok_DocumentReader_fail (T : Tx K mg) : FnOk P w K mg base (L2.CX P w) 3 T.f_DocumentReader_fail T.d_DocumentReader_fail ["self", "place", "reason"] (spD K 3 (mkF 5 130 0 (fb_DocumentReader_fail T.C))) :=
  fnD_ok (k := 2) T.F_DocumentReader_fail sc_DocumentReader_fail fun cdv A outer s H E hr => by
    have tk : Takes (cxOf (L2.CX P w) P w K mg base N_DocumentReader_fail "DocumentReader.fail" (defScope s_DocumentReader_fail) T.f_DocumentReader_fail cdv A outer s H E) (WofE E) := takes_of rfl rfl rfl rfl
    exact (s_cons (s_set (i := 3) sc_DocumentReader_fail.nd rfl (by first | exact Or.inl rfl | exact Or.inr rfl) (d_sl (d_fld T.c_DocumentReader T.n_DocumentReader_text (d_var (pv 0))) o_none (o_some (d_var (pv 1)))))
    (s_cons (s_set (i := 4) sc_DocumentReader_fail.nd rfl (by first | exact Or.inl rfl | exact Or.inr rfl) (d_op op_addD addD_ok (d_meth PySem.F.plainAttrs_str PySem.F.slot_str_rfind PySem.F.type_str_rfind mt_rfind isStr_ok rfind_ok (d_var (pv 3)) (a_cons d_str a_nil)) d_int))
    (s_one (s_raiseN rfl T.x_TextError (ok_TextError_init T) (hr.mono (by decide)) T.bd_TextError_init passF tk rfl T.g_TextError (a_cons (d_op op_addD addD_ok (d_meth PySem.F.plainAttrs_str PySem.F.slot_str_count PySem.F.type_str_count mt_count isStr_ok count_ok (d_var (pv 3)) (a_cons d_str a_nil)) d_int) (a_cons (d_op op_addD addD_ok (d_op op_sub subD_ok (d_var (pv 1)) (d_var (pv 4))) d_int) (a_cons (d_var (pv 2)) a_nil)))))))
set_option maxHeartbeats 8000000 in
theorem ok_DocumentReader_look (T : Tx K mg) (G_DocumentReader_fail : FnOk P w K mg base (L2.CX P w) 3 T.f_DocumentReader_fail T.d_DocumentReader_fail ["self", "place", "reason"] (spD K 3 (F_DocumentReader_fail T.C))) (G_is_character : FnOk P w K mg base (L2.CX P w) 1 T.f_is_character T.d_is_character ["letter"] (spD K 1 (F_is_character T.C))) : FnOk P w K mg base (L2.CX P w) 4 T.f_DocumentReader_look T.d_DocumentReader_look ["self"] (spD K 1 (mkF 2 130 0 (fb_DocumentReader_look T.C))) :=
  fnD_ok (k := 3) T.F_DocumentReader_look sc_DocumentReader_look fun cdv A outer s H E hr => by
    have tk : Takes (cxOf (L2.CX P w) P w K mg base N_DocumentReader_look "DocumentReader.look" (defScope s_DocumentReader_look) T.f_DocumentReader_look cdv A outer s H E) (WofE E) := takes_of rfl rfl rfl rfl
    exact (s_cons (s_if (t_cmp op_ge (cmpB_ok _) (d_fld T.c_DocumentReader T.n_DocumentReader_at (d_var (pv 0))) (d_callB call_lenA kLen_ok (by rfl) T.b_len (by decide +kernel) (a_cons (d_fld T.c_DocumentReader T.n_DocumentReader_text (d_var (pv 0))) a_nil)) (nomark _)) (s_one (s_expr (d_methL tk (d_var (pv 0)) T.c_DocumentReader T.me_DocumentReader_fail G_DocumentReader_fail (hr.mono (by decide)) T.bd_DocumentReader_fail (a_cons (d_fld T.c_DocumentReader T.n_DocumentReader_at (d_var (pv 0))) (a_cons d_str a_nil))))) s_nil)
    (s_cons (s_set (i := 1) sc_DocumentReader_look.nd rfl (by first | exact Or.inl rfl | exact Or.inr rfl) (d_ix (d_fld T.c_DocumentReader T.n_DocumentReader_text (d_var (pv 0))) (d_fld T.c_DocumentReader T.n_DocumentReader_at (d_var (pv 0))) (fun _ _ => rfl)))
    (s_cons (s_if (t_not (t_truth (d_call (L := []) (Ln := []) (dvs := []) tk G_is_character (hr.mono (by decide)) (by rfl) T.m_is_character T.k_is_character T.bd_is_character .nil rfl (a_cons (d_var (pv 1)) a_nil)) (by intro _; rfl))) (s_one (s_expr (d_methL tk (d_var (pv 0)) T.c_DocumentReader T.me_DocumentReader_fail G_DocumentReader_fail (hr.mono (by decide)) T.bd_DocumentReader_fail (a_cons (d_fld T.c_DocumentReader T.n_DocumentReader_at (d_var (pv 0))) (a_cons d_str a_nil))))) s_nil)
    (s_one (s_ret (d_var (pv 1)))))))
set_option maxHeartbeats 8000000 in
theorem ok_DocumentReader_take_if (T : Tx K mg) (G_DocumentReader_look : FnOk P w K mg base (L2.CX P w) 4 T.f_DocumentReader_look T.d_DocumentReader_look ["self"] (spD K 1 (F_DocumentReader_look T.C))) : FnOk P w K mg base (L2.CX P w) 5 T.f_DocumentReader_take_if T.d_DocumentReader_take_if ["self", "letter"] (spD K 2 (mkF 2 130 0 (fb_DocumentReader_take_if T.C))) :=
  fnD_ok (k := 4) T.F_DocumentReader_take_if sc_DocumentReader_take_if fun cdv A outer s H E hr => by
    have tk : Takes (cxOf (L2.CX P w) P w K mg base N_DocumentReader_take_if "DocumentReader.take_if" (defScope s_DocumentReader_take_if) T.f_DocumentReader_take_if cdv A outer s H E) (WofE E) := takes_of rfl rfl rfl rfl
    exact (s_cons (s_if (t_cmp (op_neB hr.units) neB_ok (d_methL0 tk (d_var (pv 0)) T.c_DocumentReader T.me_DocumentReader_look G_DocumentReader_look (hr.mono (by decide)) T.bd_DocumentReader_look) (d_var (pv 1)) (nomark _)) (s_one (s_ret d_bl)) s_nil)
    (s_cons (s_augF T.c_DocumentReader T.n_DocumentReader_at (d_var (pv 0)) d_int iop_add addI_ok)
    (s_one (s_ret d_bl))))
set_option maxHeartbeats 8000000 in
theorem ok_DocumentReader_name (T : Tx K mg) (G_DocumentReader_fail : FnOk P w K mg base (L2.CX P w) 3 T.f_DocumentReader_fail T.d_DocumentReader_fail ["self", "place", "reason"] (spD K 3 (F_DocumentReader_fail T.C))) (G_DocumentReader_look : FnOk P w K mg base (L2.CX P w) 4 T.f_DocumentReader_look T.d_DocumentReader_look ["self"] (spD K 1 (F_DocumentReader_look T.C))) : FnOk P w K mg base (L2.CX P w) 5 T.f_DocumentReader_name T.d_DocumentReader_name ["self"] (spD K 1 (mkF 2 130 0 (fb_DocumentReader_name T.C))) :=
  fnD_ok (k := 4) T.F_DocumentReader_name sc_DocumentReader_name fun cdv A outer s H E hr => by
    have tk : Takes (cxOf (L2.CX P w) P w K mg base N_DocumentReader_name "DocumentReader.name" (defScope s_DocumentReader_name) T.f_DocumentReader_name cdv A outer s H E) (WofE E) := takes_of rfl rfl rfl rfl
    exact (s_cons (s_set (i := 1) sc_DocumentReader_name.nd rfl (by first | exact Or.inl rfl | exact Or.inr rfl) (d_fld T.c_DocumentReader T.n_DocumentReader_at (d_var (pv 0))))
    (s_cons (s_if (t_cmp op_notInB notInB_ok (d_methL0 tk (d_var (pv 0)) T.c_DocumentReader T.me_DocumentReader_look G_DocumentReader_look (hr.mono (by decide)) T.bd_DocumentReader_look) (d_c (v := .str "abcdefghijklmnopqrstuvwxyz") (pe_glob rfl T.g_LETTERS ⟨_, rfl⟩) fun _ => .str _) (by rfl)) (s_one (s_expr (d_methL tk (d_var (pv 0)) T.c_DocumentReader T.me_DocumentReader_fail G_DocumentReader_fail (hr.mono (by decide)) T.bd_DocumentReader_fail (a_cons (d_var (pv 1)) (a_cons d_str a_nil))))) s_nil)
    (s_cons (s_while (fuel := (fun _ => 1000000)) (fg := []) (passes_of rfl) (PW.pt (w_and (t_cmp op_ltB ltB_ok (d_fld T.c_DocumentReader T.n_DocumentReader_at (d_var (pv 0))) (d_callB call_lenA kLen_ok (by rfl) T.b_len (by decide +kernel) (a_cons (d_fld T.c_DocumentReader T.n_DocumentReader_text (d_var (pv 0))) a_nil)) (nomark _)) (w_and1 (t_cmp op_inB inB_ok (d_ix (d_fld T.c_DocumentReader T.n_DocumentReader_text (d_var (pv 0))) (d_fld T.c_DocumentReader T.n_DocumentReader_at (d_var (pv 0))) (fun _ _ => rfl)) (d_c (v := .str "abcdefghijklmnopqrstuvwxyz") (pe_glob rfl T.g_LETTERS ⟨_, rfl⟩) fun _ => .str _) (by rfl))))) (s_one (s_augF T.c_DocumentReader T.n_DocumentReader_at (d_var (pv 0)) d_int iop_add addI_ok)))
    (s_cons (s_if (t_cmp op_gt (cmpB_ok _) (d_op op_sub subD_ok (d_fld T.c_DocumentReader T.n_DocumentReader_at (d_var (pv 0))) (d_var (pv 1))) (d_c (v := .int 12) (pe_glob rfl T.g_MOST_LETTERS ⟨_, rfl⟩) fun _ => .int _) (nomark _)) (s_one (s_expr (d_methL tk (d_var (pv 0)) T.c_DocumentReader T.me_DocumentReader_fail G_DocumentReader_fail (hr.mono (by decide)) T.bd_DocumentReader_fail (a_cons (d_var (pv 1)) (a_cons d_str a_nil))))) s_nil)
    (s_one (s_ret (d_sl (d_fld T.c_DocumentReader T.n_DocumentReader_text (d_var (pv 0))) (o_some (d_var (pv 1))) (o_some (d_fld T.c_DocumentReader T.n_DocumentReader_at (d_var (pv 0)))))))))))
set_option maxHeartbeats 8000000 in
theorem ok_DocumentReader_new_node (T : Tx K mg) (G_DocumentReader_fail : FnOk P w K mg base (L2.CX P w) 3 T.f_DocumentReader_fail T.d_DocumentReader_fail ["self", "place", "reason"] (spD K 3 (F_DocumentReader_fail T.C))) : FnOk P w K mg base (L2.CX P w) 4 T.f_DocumentReader_new_node T.d_DocumentReader_new_node ["self", "place", "depth"] (spD K 3 (mkF 3 130 0 (fb_DocumentReader_new_node T.C))) :=
  fnD_ok (k := 3) T.F_DocumentReader_new_node sc_DocumentReader_new_node fun cdv A outer s H E hr => by
    have tk : Takes (cxOf (L2.CX P w) P w K mg base N_DocumentReader_new_node "DocumentReader.new_node" (defScope s_DocumentReader_new_node) T.f_DocumentReader_new_node cdv A outer s H E) (WofE E) := takes_of rfl rfl rfl rfl
    exact (s_cons (s_if (t_cmp op_gt (cmpB_ok _) (d_var (pv 2)) (d_c (v := .int 60) (pe_glob rfl T.g_MOST_DEPTH ⟨_, rfl⟩) fun _ => .int _) (nomark _)) (s_one (s_expr (d_methL tk (d_var (pv 0)) T.c_DocumentReader T.me_DocumentReader_fail G_DocumentReader_fail (hr.mono (by decide)) T.bd_DocumentReader_fail (a_cons (d_var (pv 1)) (a_cons d_str a_nil))))) s_nil)
    (s_cons (s_augF T.c_DocumentReader T.n_DocumentReader_node_count (d_var (pv 0)) d_int iop_add addI_ok)
    (s_one (s_if (t_cmp op_gt (cmpB_ok _) (d_fld T.c_DocumentReader T.n_DocumentReader_node_count (d_var (pv 0))) (d_c (v := .int 5000) (pe_glob rfl T.g_MOST_NODES ⟨_, rfl⟩) fun _ => .int _) (nomark _)) (s_one (s_expr (d_methL tk (d_var (pv 0)) T.c_DocumentReader T.me_DocumentReader_fail G_DocumentReader_fail (hr.mono (by decide)) T.bd_DocumentReader_fail (a_cons (d_var (pv 1)) (a_cons d_str a_nil))))) s_nil))))
set_option maxHeartbeats 8000000 in
theorem ok_DocumentReader_begin (T : Tx K mg) (G_DocumentReader_fail : FnOk P w K mg base (L2.CX P w) 3 T.f_DocumentReader_fail T.d_DocumentReader_fail ["self", "place", "reason"] (spD K 3 (F_DocumentReader_fail T.C))) (G_DocumentReader_name : FnOk P w K mg base (L2.CX P w) 5 T.f_DocumentReader_name T.d_DocumentReader_name ["self"] (spD K 1 (F_DocumentReader_name T.C))) (G_DocumentReader_new_node : FnOk P w K mg base (L2.CX P w) 4 T.f_DocumentReader_new_node T.d_DocumentReader_new_node ["self", "place", "depth"] (spD K 3 (F_DocumentReader_new_node T.C))) (G_DocumentReader_take_if : FnOk P w K mg base (L2.CX P w) 5 T.f_DocumentReader_take_if T.d_DocumentReader_take_if ["self", "letter"] (spD K 2 (F_DocumentReader_take_if T.C))) : FnOk P w K mg base (L2.CX P w) 6 T.f_DocumentReader_begin T.d_DocumentReader_begin ["self", "place"] (spD K 2 (mkFL 3 130 (fb_DocumentReader_begin T.C))) :=
  fnL_ok (k := 5) T.F_DocumentReader_begin sc_DocumentReader_begin fun cdv A outer s H E hr => by
    have tk : Takes (cxOf (L2.CX P w) P w K mg base N_DocumentReader_begin "DocumentReader.begin" (defScope s_DocumentReader_begin) T.f_DocumentReader_begin cdv A outer s H E) (WofE E) := takes_of rfl rfl rfl rfl
    exact (s_cons (s_expr (d_methL tk (d_var (pv 0)) T.c_DocumentReader T.me_DocumentReader_new_node G_DocumentReader_new_node (hr.mono (by decide)) T.bd_DocumentReader_new_node (a_cons (d_var (pv 1)) (a_cons (d_op op_addD addD_ok (d_callB call_lenA kLen_ok (by rfl) T.b_len (by decide +kernel) (a_cons (d_fld T.c_DocumentReader T.n_DocumentReader_opened (d_var (pv 0))) a_nil)) d_int) a_nil))))
    (s_cons (s_set (i := 2) sc_DocumentReader_begin.nd rfl (by first | exact Or.inl rfl | exact Or.inr rfl) (d_methL0 tk (d_var (pv 0)) T.c_DocumentReader T.me_DocumentReader_name G_DocumentReader_name (hr.mono (by decide)) T.bd_DocumentReader_name))
    (s_cons (s_if (t_truth (d_methL tk (d_var (pv 0)) T.c_DocumentReader T.me_DocumentReader_take_if G_DocumentReader_take_if (hr.mono (by decide)) T.bd_DocumentReader_take_if (a_cons d_str a_nil)) (by intro _; rfl)) (s_cons (s_if (t_not (t_truth (d_methL tk (d_var (pv 0)) T.c_DocumentReader T.me_DocumentReader_take_if G_DocumentReader_take_if (hr.mono (by decide)) T.bd_DocumentReader_take_if (a_cons d_str a_nil)) (by intro _; rfl))) (s_one (s_expr (d_methL tk (d_var (pv 0)) T.c_DocumentReader T.me_DocumentReader_fail G_DocumentReader_fail (hr.mono (by decide)) T.bd_DocumentReader_fail (a_cons (d_fld T.c_DocumentReader T.n_DocumentReader_at (d_var (pv 0))) (a_cons d_str a_nil))))) s_nil)
    (s_one (s_ret (d_tup (a_cons (d_var (pv 2)) (a_cons (d_list (keep := none) a_nil) a_nil)))))) s_nil)
    (s_cons (s_if (t_not (t_truth (d_methL tk (d_var (pv 0)) T.c_DocumentReader T.me_DocumentReader_take_if G_DocumentReader_take_if (hr.mono (by decide)) T.bd_DocumentReader_take_if (a_cons d_str a_nil)) (by intro _; rfl))) (s_one (s_expr (d_methL tk (d_var (pv 0)) T.c_DocumentReader T.me_DocumentReader_fail G_DocumentReader_fail (hr.mono (by decide)) T.bd_DocumentReader_fail (a_cons (d_fld T.c_DocumentReader T.n_DocumentReader_at (d_var (pv 0))) (a_cons d_str a_nil))))) s_nil)
    (s_cons (s_expr (d_meth PySem.F.plainAttrs_list PySem.F.slot_list_append PySem.F.type_list_append mt_append isLst_ok kAppend_ok (d_fld T.c_DocumentReader T.n_DocumentReader_opened (d_var (pv 0))) (a_cons (d_ld fun n => d_tupW (k := n + 1) (a_cons (d_var (pv 2)) (a_cons (d_list (keep := some n) a_nil) a_nil))) a_nil)))
    (s_one (s_ret d_non)))))))
set_option maxHeartbeats 8000000 in
theorem ok_DocumentReader_end (T : Tx K mg) (G_DocumentReader_fail : FnOk P w K mg base (L2.CX P w) 3 T.f_DocumentReader_fail T.d_DocumentReader_fail ["self", "place", "reason"] (spD K 3 (F_DocumentReader_fail T.C))) (G_DocumentReader_name : FnOk P w K mg base (L2.CX P w) 5 T.f_DocumentReader_name T.d_DocumentReader_name ["self"] (spD K 1 (F_DocumentReader_name T.C))) (G_DocumentReader_take_if : FnOk P w K mg base (L2.CX P w) 5 T.f_DocumentReader_take_if T.d_DocumentReader_take_if ["self", "letter"] (spD K 2 (F_DocumentReader_take_if T.C))) : FnOk P w K mg base (L2.CX P w) 6 T.f_DocumentReader_end T.d_DocumentReader_end ["self"] (spD K 1 (mkF 3 130 0 (fb_DocumentReader_end T.C))) :=
  fnD_ok (k := 5) T.F_DocumentReader_end sc_DocumentReader_end fun cdv A outer s H E hr => by
    have tk : Takes (cxOf (L2.CX P w) P w K mg base N_DocumentReader_end "DocumentReader.end" (defScope s_DocumentReader_end) T.f_DocumentReader_end cdv A outer s H E) (WofE E) := takes_of rfl rfl rfl rfl
    exact (s_cons (s_set (i := 1) sc_DocumentReader_end.nd rfl (by first | exact Or.inl rfl | exact Or.inr rfl) (d_fld T.c_DocumentReader T.n_DocumentReader_at (d_var (pv 0))))
    (s_cons (s_set (i := 2) sc_DocumentReader_end.nd rfl (by first | exact Or.inl rfl | exact Or.inr rfl) (d_methL0 tk (d_var (pv 0)) T.c_DocumentReader T.me_DocumentReader_name G_DocumentReader_name (hr.mono (by decide)) T.bd_DocumentReader_name))
    (s_cons (s_if (t_cmp (op_neB hr.units) neB_ok (d_var (pv 2)) (d_ix (d_ix (d_fld T.c_DocumentReader T.n_DocumentReader_opened (d_var (pv 0))) (d_neg d_int) (fun _ _ => rfl)) d_int (fun _ _ => rfl)) (nomark _)) (s_one (s_expr (d_methL tk (d_var (pv 0)) T.c_DocumentReader T.me_DocumentReader_fail G_DocumentReader_fail (hr.mono (by decide)) T.bd_DocumentReader_fail (a_cons (d_var (pv 1)) (a_cons d_str a_nil))))) s_nil)
    (s_cons (s_if (t_not (t_truth (d_methL tk (d_var (pv 0)) T.c_DocumentReader T.me_DocumentReader_take_if G_DocumentReader_take_if (hr.mono (by decide)) T.bd_DocumentReader_take_if (a_cons d_str a_nil)) (by intro _; rfl))) (s_one (s_expr (d_methL tk (d_var (pv 0)) T.c_DocumentReader T.me_DocumentReader_fail G_DocumentReader_fail (hr.mono (by decide)) T.bd_DocumentReader_fail (a_cons (d_fld T.c_DocumentReader T.n_DocumentReader_at (d_var (pv 0))) (a_cons d_str a_nil))))) s_nil)
    (s_one (s_ret (d_meth0 PySem.F.plainAttrs_list PySem.F.slot_list_pop PySem.F.type_list_pop mt_pop isLst_ok kPopW_ok (d_fld T.c_DocumentReader T.n_DocumentReader_opened (d_var (pv 0))))))))))
set_option maxHeartbeats 8000000 in
theorem ok_DocumentReader_sign (T : Tx K mg) (G_DocumentReader_fail : FnOk P w K mg base (L2.CX P w) 3 T.f_DocumentReader_fail T.d_DocumentReader_fail ["self", "place", "reason"] (spD K 3 (F_DocumentReader_fail T.C))) (G_DocumentReader_look : FnOk P w K mg base (L2.CX P w) 4 T.f_DocumentReader_look T.d_DocumentReader_look ["self"] (spD K 1 (F_DocumentReader_look T.C))) : FnOk P w K mg base (L2.CX P w) 5 T.f_DocumentReader_sign T.d_DocumentReader_sign ["self"] (spD K 1 (mkF 3 130 0 (fb_DocumentReader_sign T.C))) :=
  fnD_ok (k := 4) T.F_DocumentReader_sign sc_DocumentReader_sign fun cdv A outer s H E hr => by
    have tk : Takes (cxOf (L2.CX P w) P w K mg base N_DocumentReader_sign "DocumentReader.sign" (defScope s_DocumentReader_sign) T.f_DocumentReader_sign cdv A outer s H E) (WofE E) := takes_of rfl rfl rfl rfl
    exact (s_cons (s_if (t_cmp (op_eqB hr.units) eqB_ok (d_methL0 tk (d_var (pv 0)) T.c_DocumentReader T.me_DocumentReader_look G_DocumentReader_look (hr.mono (by decide)) T.bd_DocumentReader_look) d_str (nomark _)) (s_one (s_expr (d_methL tk (d_var (pv 0)) T.c_DocumentReader T.me_DocumentReader_fail G_DocumentReader_fail (hr.mono (by decide)) T.bd_DocumentReader_fail (a_cons (d_fld T.c_DocumentReader T.n_DocumentReader_at (d_var (pv 0))) (a_cons d_str a_nil))))) s_nil)
    (s_cons (s_if (t_cmp (op_neB hr.units) neB_ok (d_methL0 tk (d_var (pv 0)) T.c_DocumentReader T.me_DocumentReader_look G_DocumentReader_look (hr.mono (by decide)) T.bd_DocumentReader_look) d_str (nomark _)) (s_cons (s_augF T.c_DocumentReader T.n_DocumentReader_at (d_var (pv 0)) d_int iop_add addI_ok)
    (s_one (s_ret (d_ix (d_fld T.c_DocumentReader T.n_DocumentReader_text (d_var (pv 0))) (d_op op_sub subD_ok (d_fld T.c_DocumentReader T.n_DocumentReader_at (d_var (pv 0))) d_int) (fun _ _ => rfl))))) s_nil)
    (s_cons (s_forG (fg := [1, 2]) (passes_of rfl) (by rfl) T.R_SIGNS (pe_glob rfl T.g_SIGNS rfl) rfl (pg_tup rfl (pgs_cons (pg_name (i := 1) sc_DocumentReader_sign.nd rfl (by first | exact Or.inl rfl | exact Or.inr rfl)) (pgs_cons (pg_name (i := 2) sc_DocumentReader_sign.nd rfl (by first | exact Or.inl rfl | exact Or.inr rfl)) pgs_nil))) (tgs_cons (tgName_ok 1) (tgs_cons (tgName_ok 2) tgs_nil)) (s_one (s_if (t_cmp (op_eqB hr.units) eqB_ok (d_sl (d_fld T.c_DocumentReader T.n_DocumentReader_text (d_var (pv 0))) (o_some (d_fld T.c_DocumentReader T.n_DocumentReader_at (d_var (pv 0)))) (o_some (d_op op_addD addD_ok (d_fld T.c_DocumentReader T.n_DocumentReader_at (d_var (pv 0))) (d_callB call_lenA kLen_ok (by rfl) T.b_len (by decide +kernel) (a_cons (d_var (pv 1)) a_nil))))) (d_var (pv 1)) (nomark _)) (s_cons (s_augF T.c_DocumentReader T.n_DocumentReader_at (d_var (pv 0)) (d_callB call_lenA kLen_ok (by rfl) T.b_len (by decide +kernel) (a_cons (d_var (pv 1)) a_nil)) iop_add addI_ok)
    (s_one (s_ret (d_var (pv 2))))) s_nil)))
    (s_one (s_expr (d_methL tk (d_var (pv 0)) T.c_DocumentReader T.me_DocumentReader_fail G_DocumentReader_fail (hr.mono (by decide)) T.bd_DocumentReader_fail (a_cons (d_fld T.c_DocumentReader T.n_DocumentReader_at (d_var (pv 0))) (a_cons d_str a_nil))))))))
set_option maxHeartbeats 8000000 in
theorem ok_DocumentReader_string (T : Tx K mg) (G_DocumentReader_fail : FnOk P w K mg base (L2.CX P w) 3 T.f_DocumentReader_fail T.d_DocumentReader_fail ["self", "place", "reason"] (spD K 3 (F_DocumentReader_fail T.C))) (G_DocumentReader_look : FnOk P w K mg base (L2.CX P w) 4 T.f_DocumentReader_look T.d_DocumentReader_look ["self"] (spD K 1 (F_DocumentReader_look T.C))) (G_DocumentReader_new_node : FnOk P w K mg base (L2.CX P w) 4 T.f_DocumentReader_new_node T.d_DocumentReader_new_node ["self", "place", "depth"] (spD K 3 (F_DocumentReader_new_node T.C))) (G_DocumentReader_sign : FnOk P w K mg base (L2.CX P w) 5 T.f_DocumentReader_sign T.d_DocumentReader_sign ["self"] (spD K 1 (F_DocumentReader_sign T.C))) : FnOk P w K mg base (L2.CX P w) 6 T.f_DocumentReader_string T.d_DocumentReader_string ["self"] (spD K 1 (mkF 5 130 0 (fb_DocumentReader_string T.C))) :=
  fnD_ok (k := 5) T.F_DocumentReader_string sc_DocumentReader_string fun cdv A outer s H E hr => by
    have tk : Takes (cxOf (L2.CX P w) P w K mg base N_DocumentReader_string "DocumentReader.string" (defScope s_DocumentReader_string) T.f_DocumentReader_string cdv A outer s H E) (WofE E) := takes_of rfl rfl rfl rfl
    exact (s_cons (s_set (i := 1) sc_DocumentReader_string.nd rfl (by first | exact Or.inl rfl | exact Or.inr rfl) (d_fld T.c_DocumentReader T.n_DocumentReader_at (d_var (pv 0))))
    (s_cons (s_set (i := 2) sc_DocumentReader_string.nd rfl (by first | exact Or.inl rfl | exact Or.inr rfl) (d_list (keep := some 129) (a_cons (d_methL0 tk (d_var (pv 0)) T.c_DocumentReader T.me_DocumentReader_sign G_DocumentReader_sign (hr.mono (by decide)) T.bd_DocumentReader_sign) a_nil)))
    (s_cons (s_expr (d_methL tk (d_var (pv 0)) T.c_DocumentReader T.me_DocumentReader_new_node G_DocumentReader_new_node (hr.mono (by decide)) T.bd_DocumentReader_new_node (a_cons (d_var (pv 1)) (a_cons (d_op op_addD addD_ok (d_callB call_lenA kLen_ok (by rfl) T.b_len (by decide +kernel) (a_cons (d_fld T.c_DocumentReader T.n_DocumentReader_opened (d_var (pv 0))) a_nil)) d_int) a_nil))))
    (s_cons (s_while (fuel := (fun _ => 1000000)) (fg := [3, 4]) (passes_of rfl) (t_cmp (op_neB hr.units) neB_ok (d_methL0 tk (d_var (pv 0)) T.c_DocumentReader T.me_DocumentReader_look G_DocumentReader_look (hr.mono (by decide)) T.bd_DocumentReader_look) d_str (nomark _)) (s_cons (s_set (i := 3) sc_DocumentReader_string.nd rfl (by first | exact Or.inl rfl | exact Or.inr rfl) (d_fld T.c_DocumentReader T.n_DocumentReader_at (d_var (pv 0))))
    (s_cons (s_set (i := 4) sc_DocumentReader_string.nd rfl (by first | exact Or.inl rfl | exact Or.inr rfl) (d_methL0 tk (d_var (pv 0)) T.c_DocumentReader T.me_DocumentReader_sign G_DocumentReader_sign (hr.mono (by decide)) T.bd_DocumentReader_sign))
    (s_cons (s_if (t_cmp (op_eqB hr.units) eqB_ok (d_callB call_lenA kLen_ok (by rfl) T.b_len (by decide +kernel) (a_cons (d_var (pv 2)) a_nil)) (d_c (v := .int 200) (pe_glob rfl T.g_MOST_TEXT ⟨_, rfl⟩) fun _ => .int _) (nomark _)) (s_one (s_expr (d_methL tk (d_var (pv 0)) T.c_DocumentReader T.me_DocumentReader_fail G_DocumentReader_fail (hr.mono (by decide)) T.bd_DocumentReader_fail (a_cons (d_var (pv 3)) (a_cons d_str a_nil))))) s_nil)
    (s_one (s_expr (d_meth PySem.F.plainAttrs_list PySem.F.slot_list_append PySem.F.type_list_append mt_append isLst_ok kAppend_ok (d_var (pv 2)) (a_cons (d_var (pv 4)) a_nil))))))))
    (s_one (s_ret (d_meth PySem.F.plainAttrs_str PySem.F.slot_str_join PySem.F.type_str_join mt_join isStr_ok kJoin_ok d_str (a_cons (d_var (pv 2)) a_nil))))))))
set_option maxHeartbeats 8000000 in
theorem ok_DocumentReader_part (T : Tx K mg) (G_DocumentReader_begin : FnOk P w K mg base (L2.CX P w) 6 T.f_DocumentReader_begin T.d_DocumentReader_begin ["self", "place"] (spD K 2 (F_DocumentReader_begin T.C))) (G_DocumentReader_end : FnOk P w K mg base (L2.CX P w) 6 T.f_DocumentReader_end T.d_DocumentReader_end ["self"] (spD K 1 (F_DocumentReader_end T.C))) (G_DocumentReader_string : FnOk P w K mg base (L2.CX P w) 6 T.f_DocumentReader_string T.d_DocumentReader_string ["self"] (spD K 1 (F_DocumentReader_string T.C))) (G_DocumentReader_take_if : FnOk P w K mg base (L2.CX P w) 5 T.f_DocumentReader_take_if T.d_DocumentReader_take_if ["self", "letter"] (spD K 2 (F_DocumentReader_take_if T.C))) : FnOk P w K mg base (L2.CX P w) 7 T.f_DocumentReader_part T.d_DocumentReader_part ["self"] (spD K 1 (mkFL 2 130 (fb_DocumentReader_part T.C))) :=
  fnL_ok (k := 6) T.F_DocumentReader_part sc_DocumentReader_part fun cdv A outer s H E hr => by
    have tk : Takes (cxOf (L2.CX P w) P w K mg base N_DocumentReader_part "DocumentReader.part" (defScope s_DocumentReader_part) T.f_DocumentReader_part cdv A outer s H E) (WofE E) := takes_of rfl rfl rfl rfl
    exact (s_cons (s_set (i := 1) sc_DocumentReader_part.nd rfl (by first | exact Or.inl rfl | exact Or.inr rfl) (d_fld T.c_DocumentReader T.n_DocumentReader_at (d_var (pv 0))))
    (s_cons (s_if (t_not (t_truth (d_methL tk (d_var (pv 0)) T.c_DocumentReader T.me_DocumentReader_take_if G_DocumentReader_take_if (hr.mono (by decide)) T.bd_DocumentReader_take_if (a_cons d_str a_nil)) (by intro _; rfl))) (s_one (s_ret (d_methL0 tk (d_var (pv 0)) T.c_DocumentReader T.me_DocumentReader_string G_DocumentReader_string (hr.mono (by decide)) T.bd_DocumentReader_string))) s_nil)
    (s_cons (s_if (PW.pt (w_and (t_cmp op_gt (cmpB_ok _) (d_callB call_lenA kLen_ok (by rfl) T.b_len (by decide +kernel) (a_cons (d_fld T.c_DocumentReader T.n_DocumentReader_opened (d_var (pv 0))) a_nil)) d_int (nomark _)) (w_and1 (t_cmp (op_eqB hr.units) eqB_ok (d_sl (d_fld T.c_DocumentReader T.n_DocumentReader_text (d_var (pv 0))) (o_some (d_fld T.c_DocumentReader T.n_DocumentReader_at (d_var (pv 0)))) (o_some (d_op op_addD addD_ok (d_fld T.c_DocumentReader T.n_DocumentReader_at (d_var (pv 0))) d_int))) d_str (nomark _))))) (s_cons (s_augF T.c_DocumentReader T.n_DocumentReader_at (d_var (pv 0)) d_int iop_add addI_ok)
    (s_one (s_ret (d_methL0 tk (d_var (pv 0)) T.c_DocumentReader T.me_DocumentReader_end G_DocumentReader_end (hr.mono (by decide)) T.bd_DocumentReader_end)))) s_nil)
    (s_one (s_ret (d_methL tk (d_var (pv 0)) T.c_DocumentReader T.me_DocumentReader_begin G_DocumentReader_begin (hr.mono (by decide)) T.bd_DocumentReader_begin (a_cons (d_var (pv 1)) a_nil)))))))
set_option maxHeartbeats 8000000 in
theorem ok_DocumentReader_document (T : Tx K mg) (G_DocumentReader_fail : FnOk P w K mg base (L2.CX P w) 3 T.f_DocumentReader_fail T.d_DocumentReader_fail ["self", "place", "reason"] (spD K 3 (F_DocumentReader_fail T.C))) (G_DocumentReader_look : FnOk P w K mg base (L2.CX P w) 4 T.f_DocumentReader_look T.d_DocumentReader_look ["self"] (spD K 1 (F_DocumentReader_look T.C))) (G_DocumentReader_part : FnOk P w K mg base (L2.CX P w) 7 T.f_DocumentReader_part T.d_DocumentReader_part ["self"] (spD K 1 (F_DocumentReader_part T.C))) : FnOk P w K mg base (L2.CX P w) 8 T.f_DocumentReader_document T.d_DocumentReader_document ["self"] (spD K 1 (mkF 2 130 0 (fb_DocumentReader_document T.C))) :=
  fnD_ok (k := 7) T.F_DocumentReader_document sc_DocumentReader_document fun cdv A outer s H E hr => by
    have tk : Takes (cxOf (L2.CX P w) P w K mg base N_DocumentReader_document "DocumentReader.document" (defScope s_DocumentReader_document) T.f_DocumentReader_document cdv A outer s H E) (WofE E) := takes_of rfl rfl rfl rfl
    exact (s_cons (s_if (t_cmp (op_neB hr.units) neB_ok (d_methL0 tk (d_var (pv 0)) T.c_DocumentReader T.me_DocumentReader_look G_DocumentReader_look (hr.mono (by decide)) T.bd_DocumentReader_look) d_str (nomark _)) (s_one (s_expr (d_methL tk (d_var (pv 0)) T.c_DocumentReader T.me_DocumentReader_fail G_DocumentReader_fail (hr.mono (by decide)) T.bd_DocumentReader_fail (a_cons (d_fld T.c_DocumentReader T.n_DocumentReader_at (d_var (pv 0))) (a_cons d_str a_nil))))) s_nil)
    (s_cons (s_set (i := 1) sc_DocumentReader_document.nd rfl (by first | exact Or.inl rfl | exact Or.inr rfl) d_non)
    (s_cons (s_while (fuel := (fun _ => 1000000)) (fg := []) (passes_of rfl) (PW.pt (w_or (t_cmp op_isN isNB_ok (d_var (pv 1)) d_non (nomark _)) (w_or1 (t_cmp op_gt (cmpB_ok _) (d_callB call_lenA kLen_ok (by rfl) T.b_len (by decide +kernel) (a_cons (d_fld T.c_DocumentReader T.n_DocumentReader_opened (d_var (pv 0))) a_nil)) d_int (nomark _))))) (s_cons (s_thenD (i := 1) (s_set (i := 1) sc_DocumentReader_document.nd rfl (by first | exact Or.inl rfl | exact Or.inr rfl) (d_methL0 tk (d_var (pv 0)) T.c_DocumentReader T.me_DocumentReader_part G_DocumentReader_part (hr.mono (by decide)) T.bd_DocumentReader_part)))
    (s_one (s_if (PW.pt (w_and (t_cmp op_notN notNB_ok (d_var (pv 1)) d_non (nomark _)) (w_and1 (t_cmp op_gt (cmpB_ok _) (d_callB call_lenA kLen_ok (by rfl) T.b_len (by decide +kernel) (a_cons (d_fld T.c_DocumentReader T.n_DocumentReader_opened (d_var (pv 0))) a_nil)) d_int (nomark _))))) (s_one (s_expr (d_meth PySem.F.plainAttrs_list PySem.F.slot_list_append PySem.F.type_list_append mt_append isLst_ok kAppend_ok (d_ix (d_ix (d_fld T.c_DocumentReader T.n_DocumentReader_opened (d_var (pv 0))) (d_neg d_int) (fun _ _ => rfl)) d_int (fun _ _ => rfl)) (a_cons (d_var (pv 1)) a_nil)))) s_nil))))
    (s_cons (s_if (t_cmp op_ltB ltB_ok (d_fld T.c_DocumentReader T.n_DocumentReader_at (d_var (pv 0))) (d_callB call_lenA kLen_ok (by rfl) T.b_len (by decide +kernel) (a_cons (d_fld T.c_DocumentReader T.n_DocumentReader_text (d_var (pv 0))) a_nil)) (nomark _)) (s_cons (s_expr (d_methL0 tk (d_var (pv 0)) T.c_DocumentReader T.me_DocumentReader_look G_DocumentReader_look (hr.mono (by decide)) T.bd_DocumentReader_look))
    (s_one (s_expr (d_methL tk (d_var (pv 0)) T.c_DocumentReader T.me_DocumentReader_fail G_DocumentReader_fail (hr.mono (by decide)) T.bd_DocumentReader_fail (a_cons (d_fld T.c_DocumentReader T.n_DocumentReader_at (d_var (pv 0))) (a_cons d_str a_nil)))))) s_nil)
    (s_one (s_ret (d_var (pv 1))))))))
set_option maxHeartbeats 8000000 in
theorem ok_read_document (T : Tx K mg) (G_DocumentReader_init : FnOk P w K mg base (L2.CX P w) 1 T.f_DocumentReader_init T.d_DocumentReader_init ["self", "text"] (spD K 2 (F_DocumentReader_init T.C))) (G_DocumentReader_document : FnOk P w K mg base (L2.CX P w) 8 T.f_DocumentReader_document T.d_DocumentReader_document ["self"] (spD K 1 (F_DocumentReader_document T.C))) : FnOk P w K mg base (L2.CX P w) 9 T.f_read_document T.d_read_document ["text"] (spD K 1 (mkF 1 2 0 (fb_read_document T.C))) :=
  fnD_ok (k := 8) T.F_read_document sc_read_document fun cdv A outer s H E hr => by
    have tk : Takes (cxOf (L2.CX P w) P w K mg base N_read_document "read_document" (defScope s_read_document) T.f_read_document cdv A outer s H E) (WofE E) := takes_of rfl rfl rfl rfl
    exact (s_cons (s_if (t_cmp op_gt (cmpB_ok _) (d_callB call_lenA kLen_ok (by rfl) T.b_len (by decide +kernel) (a_cons (d_var (pv 0)) a_nil)) (d_c (v := .int 200000) (pe_glob rfl T.g_MOST_CHARACTERS ⟨_, rfl⟩) fun _ => .int _) (nomark _)) (s_one (s_raise rfl T.x_TooLarge.one (ok_TooLarge_init T) (hr.mono (by decide)) T.bd_TooLarge_init passF tk rfl T.g_TooLarge d_str)) s_nil)
    (s_one (s_ret (d_methX0 (L := [0, 1]) (Ln := []) tk (d_make (kr := 0) (L := []) (Ln := [1]) (keep := true) (dvs := []) tk T.mk_DocumentReader G_DocumentReader_init (hr.mono (by decide)) (by rfl) T.g_DocumentReader T.bd_DocumentReader_init .nil rfl (a_cons (d_var (pv 0)) a_nil)) T.c_DocumentReader T.me_DocumentReader_document G_DocumentReader_document (hr.mono (by decide)) T.bd_DocumentReader_document))))
set_option maxHeartbeats 8000000 in
theorem ok_law_escaped (T : Tx K mg) : FnOk P w K mg base (L2.CX P w) 1 T.f_law_escaped T.d_law_escaped ["_law_string_here"] (spD K 1 (mkF 3 1 0 (fb_law_escaped T.C))) :=
  fnD_ok (k := 0) T.F_law_escaped sc_law_escaped fun cdv A outer s H E hr => by
    have tk : Takes (cxOf (L2.CX P w) P w K mg base N_law_escaped "_law_escaped" (defScope s_law_escaped) T.f_law_escaped cdv A outer s H E) (WofE E) := takes_of rfl rfl rfl rfl
    exact (s_cons (s_set (i := 1) sc_law_escaped.nd rfl (by first | exact Or.inl rfl | exact Or.inr rfl) (d_dicC (keep := none) (kvs := [(Sum.inr "<", (.str "&lt;" : D)), (Sum.inr ">", (.str "&gt;" : D)), (Sum.inr "&", (.str "&amp;" : D))]) (ws := [(Sum.inr "<", (.str "&lt;" : V)), (Sum.inr ">", (.str "&gt;" : V)), (Sum.inr "&", (.str "&amp;" : V))]) (pps_cons pe_str pe_str (pps_cons pe_str pe_str (pps_cons pe_str pe_str pps_nil))) rfl (fun _ _ => (.cons (.str _) (.cons (.str _) (.cons (.str _) .nil)))) (by decide)))
    (s_one (s_ret (d_meth PySem.F.plainAttrs_str PySem.F.slot_str_join PySem.F.type_str_join mt_join isStr_ok kJoin_ok d_str (a_cons (d_lc (k := 0) (keep := false) (own := [("_law_letter", 2)]) (by rfl) sc_law_escaped.nd (i_str (d_var (pv 0))) (blkOk_by (own := [("_law_letter", 2)]) (N := N_law_escaped) (sc := defScope s_law_escaped) (by decide +kernel)) (fun _ _ _ _ _ => (pg_name (i := 2) sc_law_escaped.nd rfl (by first | exact Or.inl rfl | exact Or.inr rfl))) (tgName_ok 2) (by decide) (fun _ _ _ _ _ => ts_nil) (fun _ _ _ _ _ => (d_dget2 hr.units (d_var (pv 1)) (d_var (pv 2)) (d_var (pv 2)) ⟨rfl, by rfl, rfl, rfl⟩))) a_nil)))))
set_option maxHeartbeats 8000000 in
theorem ok_law_written (T : Tx K mg) {lv : Nat} (hlv : 1 ≤ lv) {F_law_written : Fd} (G_law_written : FnOk P w K mg base (L2.CX P w) lv T.f_law_written T.d_law_written ["_law_tree_here", "_law_loose"] (spD K 2 F_law_written)) (G_law_escaped : FnOk P w K mg base (L2.CX P w) 1 T.f_law_escaped T.d_law_escaped ["_law_string_here"] (spD K 1 (F_law_escaped T.C))) : FnOk P w K mg base (L2.CX P w) (lv + 1) T.f_law_written T.d_law_written ["_law_tree_here", "_law_loose"] (spD K 2 (mkF 4 1 0 (fb_law_written T.C F_law_written))) :=
  fnD_ok (k := lv) T.F_law_written sc_law_written fun cdv A outer s H E hr => by
    have tk : Takes (cxOf (L2.CX P w) P w K mg base N_law_written "_law_written" (defScope s_law_written) T.f_law_written cdv A outer s H E) (WofE E) := takes_of rfl rfl rfl rfl
    exact (s_cons (s_if (t_truth (d_isi rfl T.b_isinstance (d_var (pv 0)) (pe_bltn (by rfl) T.b_str (by decide +kernel) rfl)) (by intro _; rfl)) (s_one (s_ret (d_call (L := []) (Ln := []) (dvs := []) tk G_law_escaped (hr.mono (by omega)) (by rfl) T.m_law_escaped T.k_law_escaped T.bd_law_escaped .nil rfl (a_cons (d_var (pv 0)) a_nil)))) s_nil)
    (s_cons (s_if (PW.pt (w_and (t_cmp (op_eqB hr.units) eqB_ok (d_callB call_lenA kLen_ok (by rfl) T.b_len (by decide +kernel) (a_cons (d_ix (d_var (pv 0)) d_int (fun _ _ => rfl)) a_nil)) d_int (nomark _)) (w_and1 (t_not (t_truth (d_var (pv 1)) (by intro _; rfl)))))) (s_one (s_ret (d_op op_addD addD_ok (d_op op_addD addD_ok d_str (d_ix (d_var (pv 0)) d_int (fun _ _ => rfl))) d_str))) s_nil)
    (s_cons (s_set (i := 2) sc_law_written.nd rfl (by first | exact Or.inl rfl | exact Or.inr rfl) (d_meth PySem.F.plainAttrs_str PySem.F.slot_str_join PySem.F.type_str_join mt_join isStr_ok kJoin_ok d_str (a_cons (d_lc (k := 0) (keep := false) (own := [("_law_child", 3)]) (by rfl) sc_law_written.nd (i_list (d_ix (d_var (pv 0)) d_int (fun _ _ => rfl))) (blkOk_by (own := [("_law_child", 3)]) (N := N_law_written) (sc := defScope s_law_written) (by decide +kernel)) (fun _ _ _ _ _ => (pg_name (i := 3) sc_law_written.nd rfl (by first | exact Or.inl rfl | exact Or.inr rfl))) (tgName_ok 3) (by decide) (fun _ _ _ _ _ => ts_nil) (fun _ _ _ _ _ => (d_call (L := []) (Ln := []) (dvs := []) takes0 G_law_written hr (by rfl) T.m_law_written T.k_law_written T.bd_law_written .nil rfl (a_cons (d_var (pv 3)) (a_cons (d_var (pv 1)) a_nil))))) a_nil)))
    (s_one (s_ret (d_op op_addD addD_ok (d_op op_addD addD_ok (d_op op_addD addD_ok (d_op op_addD addD_ok (d_op op_addD addD_ok (d_op op_addD addD_ok d_str (d_ix (d_var (pv 0)) d_int (fun _ _ => rfl))) d_str) (d_var (pv 2))) d_str) (d_ix (d_var (pv 0)) d_int (fun _ _ => rfl))) d_str))))))
set_option maxHeartbeats 8000000 in
theorem ok_law_draws (T : Tx K mg) : FnOk P w K mg base (L2.CX P w) 1 T.f_law_draws T.d_law_draws ["_law_script"] (spD K 1 (mkF 7 2 1 (fb_law_draws T.C))) :=
  fnD_ok (k := 0) T.F_law_draws sc_law_draws fun cdv A outer s H E hr => by
    have tk : Takes (cxOf (L2.CX P w) P w K mg base N_law_draws "_law_draws" (defScope s_law_draws) T.f_law_draws cdv A outer s H E) (WofE E) := takes_of rfl rfl rfl rfl
    exact (s_cons (s_set (i := 1) sc_law_draws.nd rfl (by first | exact Or.inl rfl | exact Or.inr rfl) (d_list (keep := some 1) a_nil))
    (s_cons (s_for (fg := [2, 3, 4, 5]) (passes_of rfl) (by rfl) (i_list (d_var (pv 0))) (pg_name (i := 2) sc_law_draws.nd rfl (by first | exact Or.inl rfl | exact Or.inr rfl)) (tgName_ok 2) (s_cons (s_set (i := 3) sc_law_draws.nd rfl (by first | exact Or.inl rfl | exact Or.inr rfl) (d_callB call_abs kAbs_ok (by rfl) T.b_abs (by decide +kernel) (a_cons (d_var (pv 2)) a_nil)))
    (s_cons (s_if (t_cmp op_ltB ltB_ok (d_var (pv 3)) (d_op op_pow powD_ok d_int d_int) (nomark _)) (s_cons (s_set (i := 4) sc_law_draws.nd rfl (by first | exact Or.inl rfl | exact Or.inr rfl) (d_op op_modN modD_ok (d_callT call_int1 kInt_ok (by rfl) T.b_int (by decide +kernel) (a_cons (d_op op_addD addD_ok (d_op op_mulD mulD_ok (d_var (pv 3)) d_int) d_int) a_nil)) d_int))
    (s_cons (s_expr (d_meth PySem.F.plainAttrs_list PySem.F.slot_list_append PySem.F.type_list_append mt_append isLst_ok kAppend_ok (d_var (pv 1)) (a_cons (d_op op_modN modD_ok (d_callT call_int1 kInt_ok (by rfl) T.b_int (by decide +kernel) (a_cons (d_op op_addD addD_ok (d_op op_mulD mulD_ok (d_var (pv 4)) d_int) (d_var (pv 3))) a_nil)) d_int) a_nil)))
    (s_cons (s_expr (d_meth PySem.F.plainAttrs_list PySem.F.slot_list_append PySem.F.type_list_append mt_append isLst_ok kAppend_ok (d_var (pv 1)) (a_cons (d_op op_modN modD_ok (d_callT call_int1 kInt_ok (by rfl) T.b_int (by decide +kernel) (a_cons (d_op op_addD addD_ok (d_var (pv 4)) (d_op op_fdivN fdivD_ok (d_var (pv 3)) d_int)) a_nil)) d_int) a_nil)))
    (s_one (s_set (i := 3) sc_law_draws.nd rfl (by first | exact Or.inl rfl | exact Or.inr rfl) d_int))))) s_nil)
    (s_cons (s_for (fg := [5]) (passes_of rfl) (by rfl) (i_range1 rfl T.b_range (a_cons d_int a_nil)) (pg_name (i := 5) sc_law_draws.nd rfl (by first | exact Or.inl rfl | exact Or.inr rfl)) (tgName_ok 5) (s_one (s_if (t_cmp op_gt (cmpB_ok _) (d_var (pv 3)) d_int (nomark _)) (s_cons (s_expr (d_meth PySem.F.plainAttrs_list PySem.F.slot_list_append PySem.F.type_list_append mt_append isLst_ok kAppend_ok (d_var (pv 1)) (a_cons (d_op op_modN modD_ok (d_callT call_int1 kInt_ok (by rfl) T.b_int (by decide +kernel) (a_cons (d_var (pv 3)) a_nil)) d_int) a_nil)))
    (s_one (s_set (i := 3) sc_law_draws.nd rfl (by first | exact Or.inl rfl | exact Or.inr rfl) (d_op op_fdivN fdivD_ok (d_var (pv 3)) d_int)))) s_nil))) s_nil))))
    (s_cons (s_set (i := 6) sc_law_draws.nd rfl (by first | exact Or.inl rfl | exact Or.inr rfl) d_int)
    (s_cons (s_if (t_cmp op_gt (cmpB_ok _) (d_callB call_lenA kLen_ok (by rfl) T.b_len (by decide +kernel) (a_cons (d_var (pv 0)) a_nil)) d_int (nomark _)) (s_one (s_set (i := 6) sc_law_draws.nd rfl (by first | exact Or.inl rfl | exact Or.inr rfl) (d_op op_addD addD_ok d_int (d_callB call_abs kAbs_ok (by rfl) T.b_abs (by decide +kernel) (a_cons (d_ix (d_var (pv 0)) d_int (fun _ _ => rfl)) a_nil))))) s_nil)
    (s_cons (s_then (k := 1) (s_for (fg := [5]) (passes_of rfl) (by rfl) (i_range1 rfl T.b_range (a_cons d_int a_nil)) (pg_name (i := 5) sc_law_draws.nd rfl (by first | exact Or.inl rfl | exact Or.inr rfl)) (tgName_ok 5) (s_cons (s_set (i := 6) sc_law_draws.nd rfl (by first | exact Or.inl rfl | exact Or.inr rfl) (d_op op_modN modD_ok (d_callT call_int1 kInt_ok (by rfl) T.b_int (by decide +kernel) (a_cons (d_op op_addD addD_ok (d_op op_mulD mulD_ok (d_var (pv 6)) d_int) d_int) a_nil)) d_int))
    (s_one (s_expr (d_meth PySem.F.plainAttrs_list PySem.F.slot_list_append PySem.F.type_list_append mt_append isLst_ok kAppend_ok (d_var (pv 1)) (a_cons (d_op op_fdivN fdivD_ok (d_var (pv 6)) d_int) a_nil)))))))
    (s_one (s_ret (d_liRev (keep := (some 0)) rfl rfl T.b_list rfl T.b_reversed (d_var (pv 1))))))))))
set_option maxHeartbeats 8000000 in
theorem ok_law_take (T : Tx K mg) : FnOk P w K mg base (L2.CX P w) 1 T.f_law_take T.d_law_take ["_law_draws_here", "_law_bound"] (spD K 2 (mkF 2 1 1 (fb_law_take T.C))) :=
  fnD_ok (k := 0) T.F_law_take sc_law_take fun cdv A outer s H E hr => by
    have tk : Takes (cxOf (L2.CX P w) P w K mg base N_law_take "_law_take" (defScope s_law_take) T.f_law_take cdv A outer s H E) (WofE E) := takes_of rfl rfl rfl rfl
    exact (s_cons (s_if (t_cmp (op_eqB hr.units) eqB_ok (d_callB call_lenA kLen_ok (by rfl) T.b_len (by decide +kernel) (a_cons (d_var (pv 0)) a_nil)) d_int (nomark _)) (s_one (s_ret d_int)) s_nil)
    (s_one (s_ret (d_op op_modN modD_ok (d_callT call_int1 kInt_ok (by rfl) T.b_int (by decide +kernel) (a_cons (d_meth0 PySem.F.plainAttrs_list PySem.F.slot_list_pop PySem.F.type_list_pop mt_pop isLst_ok kPop_ok (d_var (pv 0))) a_nil)) (d_var (pv 1))))))
set_option maxHeartbeats 8000000 in
theorem ok_law_same_k16 (T : Tx K mg) {lv : Nat} (hlv : 0 ≤ lv) {F_law_same_k16 : Fd} (G_law_same_k16 : FnOk P w K mg base (L2.CX P w) lv T.f_law_same_k16 T.d_law_same_k16 ["_law_actual", "_law_due"] (spD K 2 F_law_same_k16)) : FnOk P w K mg base (L2.CX P w) (lv + 1) T.f_law_same_k16 T.d_law_same_k16 ["_law_actual", "_law_due"] (spD K 2 (mkF 3 0 0 (fb_law_same_k16 T.C F_law_same_k16))) :=
  fnD_ok (k := lv) T.F_law_same_k16 sc_law_same_k16 fun cdv A outer s H E hr => by
    have tk : Takes (cxOf (L2.CX P w) P w K mg base N_law_same_k16 "_law_same" (defScope s_law_same_k16) T.f_law_same_k16 cdv A outer s H E) (WofE E) := takes_of rfl rfl rfl rfl
    exact (s_cons (s_if (PW.pt (w_or (t_truth (d_isi rfl T.b_isinstance (d_var (pv 1)) (pe_bltn (by rfl) T.b_tuple (by decide +kernel) rfl)) (by intro _; rfl)) (w_or1 (t_truth (d_isi rfl T.b_isinstance (d_var (pv 1)) (pe_bltn (by rfl) T.b_list (by decide +kernel) rfl)) (by intro _; rfl))))) (s_cons (s_if (PW.pt (w_or (t_cmp (op_neB hr.units) neB_ok (d_isi rfl T.b_isinstance (d_var (pv 1)) (pe_bltn (by rfl) T.b_tuple (by decide +kernel) rfl)) (d_isi rfl T.b_isinstance (d_var (pv 0)) (pe_bltn (by rfl) T.b_tuple (by decide +kernel) rfl)) (nomark _)) (w_or1 (t_cmp (op_neB hr.units) neB_ok (d_isi rfl T.b_isinstance (d_var (pv 1)) (pe_bltn (by rfl) T.b_list (by decide +kernel) rfl)) (d_isi rfl T.b_isinstance (d_var (pv 0)) (pe_bltn (by rfl) T.b_list (by decide +kernel) rfl)) (nomark _))))) (s_one (s_ret d_bl)) s_nil)
    (s_cons (s_if (t_cmp (op_neB hr.units) neB_ok (d_callB call_lenA kLen_ok (by rfl) T.b_len (by decide +kernel) (a_cons (d_var (pv 0)) a_nil)) (d_callB call_lenA kLen_ok (by rfl) T.b_len (by decide +kernel) (a_cons (d_var (pv 1)) a_nil)) (nomark _)) (s_one (s_ret d_bl)) s_nil)
    (s_cons (s_for (fg := [2]) (passes_of rfl) (by rfl) (i_range1 rfl T.b_range (a_cons (d_callB call_lenA kLen_ok (by rfl) T.b_len (by decide +kernel) (a_cons (d_var (pv 1)) a_nil)) a_nil)) (pg_name (i := 2) sc_law_same_k16.nd rfl (by first | exact Or.inl rfl | exact Or.inr rfl)) (tgName_ok 2) (s_one (s_if (t_not (t_truth (d_call (L := []) (Ln := []) (dvs := []) tk G_law_same_k16 hr (by rfl) T.m_law_same_k16 T.k_law_same_k16 T.bd_law_same_k16 .nil rfl (a_cons (d_ix (d_var (pv 0)) (d_var (pv 2)) (fun _ _ => rfl)) (a_cons (d_ix (d_var (pv 1)) (d_var (pv 2)) (fun _ _ => rfl)) a_nil))) (by intro _; rfl))) (s_one (s_ret d_bl)) s_nil)))
    (s_one (s_ret d_bl))))) s_nil)
    (s_cons (s_if (t_cmp (op_neB hr.units) neB_ok (d_isi rfl T.b_isinstance (d_var (pv 1)) (pe_bltn (by rfl) T.b_bool (by decide +kernel) rfl)) (d_isi rfl T.b_isinstance (d_var (pv 0)) (pe_bltn (by rfl) T.b_bool (by decide +kernel) rfl)) (nomark _)) (s_one (s_ret d_bl)) s_nil)
    (s_cons (s_if (PW.pt (w_or (t_cmp (op_neB hr.units) neB_ok (d_isi rfl T.b_isinstance (d_var (pv 1)) (pe_bltn (by rfl) T.b_int (by decide +kernel) rfl)) (d_isi rfl T.b_isinstance (d_var (pv 0)) (pe_bltn (by rfl) T.b_int (by decide +kernel) rfl)) (nomark _)) (w_or1 (t_cmp (op_neB hr.units) neB_ok (d_isi rfl T.b_isinstance (d_var (pv 1)) (pe_bltn (by rfl) T.b_str (by decide +kernel) rfl)) (d_isi rfl T.b_isinstance (d_var (pv 0)) (pe_bltn (by rfl) T.b_str (by decide +kernel) rfl)) (nomark _))))) (s_one (s_ret d_bl)) s_nil)
    (s_one (s_ret (d_cmp (op_eqB hr.units) (OpB.d eqB_ok) (d_var (pv 0)) (d_var (pv 1)) (nomark _)))))))
set_option maxHeartbeats 8000000 in
theorem ok_law_string_k16 (T : Tx K mg) (G_law_take : FnOk P w K mg base (L2.CX P w) 1 T.f_law_take T.d_law_take ["_law_draws_here", "_law_bound"] (spD K 2 (F_law_take T.C))) : FnOk P w K mg base (L2.CX P w) 2 T.f_law_string_k16 T.d_law_string_k16 ["_law_draws_here", "_law_most"] (spD K 2 (mkF 5 1 1 (fb_law_string_k16 T.C))) :=
  fnD_ok (k := 1) T.F_law_string_k16 sc_law_string_k16 fun cdv A outer s H E hr => by
    have tk : Takes (cxOf (L2.CX P w) P w K mg base N_law_string_k16 "_law_string" (defScope s_law_string_k16) T.f_law_string_k16 cdv A outer s H E) (WofE E) := takes_of rfl rfl rfl rfl
    exact (s_cons (s_set (i := 2) sc_law_string_k16.nd rfl (by first | exact Or.inl rfl | exact Or.inr rfl) d_str)
    (s_cons (s_set (i := 3) sc_law_string_k16.nd rfl (by first | exact Or.inl rfl | exact Or.inr rfl) d_str)
    (s_cons (s_for (fg := [4]) (passes_of rfl) (by rfl) (i_range1 rfl T.b_range (a_cons (d_op op_addD addD_ok d_int (d_call (L := [0]) (Ln := []) (dvs := []) tk G_law_take (hr.mono (by decide)) (by rfl) T.m_law_take T.k_law_take T.bd_law_take .nil rfl (a_cons (d_var (pv 0)) (a_cons (d_var (pv 1)) a_nil)))) a_nil)) (pg_name (i := 4) sc_law_string_k16.nd rfl (by first | exact Or.inl rfl | exact Or.inr rfl)) (tgName_ok 4) (s_one (s_set (i := 3) sc_law_string_k16.nd rfl (by first | exact Or.inl rfl | exact Or.inr rfl) (d_op op_addD addD_ok (d_var (pv 3)) (d_ix (d_var (pv 2)) (d_call (L := [0]) (Ln := []) (dvs := []) tk G_law_take (hr.mono (by decide)) (by rfl) T.m_law_take T.k_law_take T.bd_law_take .nil rfl (a_cons (d_var (pv 0)) (a_cons (d_callB call_lenA kLen_ok (by rfl) T.b_len (by decide +kernel) (a_cons (d_var (pv 2)) a_nil)) a_nil))) (fun _ _ => rfl))))))
    (s_one (s_ret (d_var (pv 3)))))))
set_option maxHeartbeats 8000000 in
theorem ok_law_tree (T : Tx K mg) {lv : Nat} (hlv : 2 ≤ lv) {F_law_tree : Fd} (G_law_tree : FnOk P w K mg base (L2.CX P w) lv T.f_law_tree T.d_law_tree ["_law_draws_here", "_law_depth", "_law_names_here"] (spD K 3 F_law_tree)) (G_law_string_k16 : FnOk P w K mg base (L2.CX P w) 2 T.f_law_string_k16 T.d_law_string_k16 ["_law_draws_here", "_law_most"] (spD K 2 (F_law_string_k16 T.C))) (G_law_take : FnOk P w K mg base (L2.CX P w) 1 T.f_law_take T.d_law_take ["_law_draws_here", "_law_bound"] (spD K 2 (F_law_take T.C))) : FnOk P w K mg base (L2.CX P w) (lv + 1) T.f_law_tree T.d_law_tree ["_law_draws_here", "_law_depth", "_law_names_here"] (spD K 3 (mkF 7 2 1 (fb_law_tree T.C F_law_tree))) :=
  fnD_ok (k := lv) T.F_law_tree sc_law_tree fun cdv A outer s H E hr => by
    have tk : Takes (cxOf (L2.CX P w) P w K mg base N_law_tree "_law_tree" (defScope s_law_tree) T.f_law_tree cdv A outer s H E) (WofE E) := takes_of rfl rfl rfl rfl
    exact (s_cons (s_set (i := 3) sc_law_tree.nd rfl (by first | exact Or.inl rfl | exact Or.inr rfl) (d_list (keep := some 1) a_nil))
    (s_cons (s_set (i := 4) sc_law_tree.nd rfl (by first | exact Or.inl rfl | exact Or.inr rfl) (d_call (L := [0]) (Ln := []) (dvs := []) tk G_law_take (hr.mono (by omega)) (by rfl) T.m_law_take T.k_law_take T.bd_law_take .nil rfl (a_cons (d_var (pv 0)) (a_cons d_int a_nil))))
    (s_cons (s_if (t_cmp (op_eqB hr.units) eqB_ok (d_var (pv 1)) d_int (nomark _)) (s_one (s_set (i := 4) sc_law_tree.nd rfl (by first | exact Or.inl rfl | exact Or.inr rfl) (d_call (L := [0]) (Ln := []) (dvs := []) tk G_law_take (hr.mono (by omega)) (by rfl) T.m_law_take T.k_law_take T.bd_law_take .nil rfl (a_cons (d_var (pv 0)) (a_cons d_int a_nil))))) s_nil)
    (s_cons (s_then (k := 1) (s_for (fg := [5, 6]) (passes_of rfl) (by rfl) (i_range1 rfl T.b_range (a_cons (d_var (pv 4)) a_nil)) (pg_name (i := 5) sc_law_tree.nd rfl (by first | exact Or.inl rfl | exact Or.inr rfl)) (tgName_ok 5) (s_cons (s_set (i := 6) sc_law_tree.nd rfl (by first | exact Or.inl rfl | exact Or.inr rfl) (d_and (d_cmp op_gt (OpB.d (cmpB_ok _)) (d_callB call_lenA kLen_ok (by rfl) T.b_len (by decide +kernel) (a_cons (d_var (pv 3)) a_nil)) d_int (nomark _)) (d_one (d_isi rfl T.b_isinstance (d_ix (d_var (pv 3)) (d_op op_sub subD_ok (d_callB call_lenA kLen_ok (by rfl) T.b_len (by decide +kernel) (a_cons (d_var (pv 3)) a_nil)) d_int) (fun _ _ => rfl)) (pe_bltn (by rfl) T.b_str (by decide +kernel) rfl)))))
    (s_one (s_if (PW.pt (w_or (t_cmp (op_eqB hr.units) eqB_ok (d_var (pv 1)) d_int (nomark _)) (w_or1 (t_cmp (op_eqB hr.units) eqB_ok (d_call (L := [0]) (Ln := []) (dvs := []) tk G_law_take (hr.mono (by omega)) (by rfl) T.m_law_take T.k_law_take T.bd_law_take .nil rfl (a_cons (d_var (pv 0)) (a_cons d_int a_nil))) d_int (nomark _))))) (s_one (s_if (t_not (t_truth (d_var (pv 6)) (by intro _; rfl))) (s_one (s_expr (d_meth PySem.F.plainAttrs_list PySem.F.slot_list_append PySem.F.type_list_append mt_append isLst_ok kAppend_ok (d_var (pv 3)) (a_cons (d_call (L := [0]) (Ln := []) (dvs := []) tk G_law_string_k16 (hr.mono (by omega)) (by rfl) T.m_law_string_k16 T.k_law_string_k16 T.bd_law_string_k16 .nil rfl (a_cons (d_var (pv 0)) (a_cons d_int a_nil))) a_nil)))) s_nil)) (s_one (s_expr (d_meth PySem.F.plainAttrs_list PySem.F.slot_list_append PySem.F.type_list_append mt_append isLst_ok kAppend_ok (d_var (pv 3)) (a_cons (d_call (L := [0]) (Ln := []) (dvs := []) tk G_law_tree hr (by rfl) T.m_law_tree T.k_law_tree T.bd_law_tree .nil rfl (a_cons (d_var (pv 0)) (a_cons (d_op op_sub subD_ok (d_var (pv 1)) d_int) (a_cons (d_var (pv 2)) a_nil)))) a_nil)))))))))
    (s_one (s_ret (d_tup (a_cons (d_ix (d_var (pv 2)) (d_call (L := [0]) (Ln := []) (dvs := []) tk G_law_take (hr.mono (by omega)) (by rfl) T.m_law_take T.k_law_take T.bd_law_take .nil rfl (a_cons (d_var (pv 0)) (a_cons (d_callB call_lenA kLen_ok (by rfl) T.b_len (by decide +kernel) (a_cons (d_var (pv 2)) a_nil)) a_nil))) (fun _ _ => rfl)) (a_cons (d_var (pv 3)) a_nil)))))))))
set_option maxHeartbeats 8000000 in
theorem ok_law_names (T : Tx K mg) (G_law_take : FnOk P w K mg base (L2.CX P w) 1 T.f_law_take T.d_law_take ["_law_draws_here", "_law_bound"] (spD K 2 (F_law_take T.C))) : FnOk P w K mg base (L2.CX P w) 2 T.f_law_names T.d_law_names ["_law_draws_here"] (spD K 1 (mkF 1 1 1 (fb_law_names T.C))) :=
  fnD_ok (k := 1) T.F_law_names sc_law_names fun cdv A outer s H E hr => by
    have tk : Takes (cxOf (L2.CX P w) P w K mg base N_law_names "_law_names" (defScope s_law_names) T.f_law_names cdv A outer s H E) (WofE E) := takes_of rfl rfl rfl rfl
    exact (s_one (s_ret (d_sl (d_list (keep := none) (a_cons d_str (a_cons d_str (a_cons d_str (a_cons d_str a_nil))))) o_none (o_some (d_op op_addD addD_ok d_int (d_call (L := [0]) (Ln := []) (dvs := []) tk G_law_take (hr.mono (by decide)) (by rfl) T.m_law_take T.k_law_take T.bd_law_take .nil rfl (a_cons (d_var (pv 0)) (a_cons d_int a_nil))))))))
set_option maxHeartbeats 8000000 in
theorem ok_law_error (T : Tx K mg) (G_read_document : FnOk P w K mg base (L2.CX P w) 9 T.f_read_document T.d_read_document ["text"] (spD K 1 (F_read_document T.C))) : FnOk P w K mg base (L2.CX P w) 10 T.f_law_error T.d_law_error ["_law_text"] (spD K 1 (mkF 2 0 0 (fb_law_error T.C))) :=
  fnD_ok (k := 9) T.F_law_error sc_law_error fun cdv A outer s H E hr => by
    have tk : Takes (cxOf (L2.CX P w) P w K mg base N_law_error "_law_error" (defScope s_law_error) T.f_law_error cdv A outer s H E) (WofE E) := takes_of rfl rfl rfl rfl
    exact (s_cons (s_tryM rfl rfl tk (fun W pn xe tk _ => (s_one (s_expr (d_call (L := []) (Ln := []) (dvs := []) tk G_read_document (hr.mono (by decide)) (by rfl) T.m_read_document T.k_read_document T.bd_read_document .nil rfl (a_cons (d_var (pv 0)) a_nil))))) (HdMix.as (i := 1) sc_law_error.nd rfl rfl ⟨rfl, by decide, .inl T.g_TextError⟩ (fun a oe cls d pn hz hf => pss_one (ps_ret (pe_lst (pa_cons (pe_xf T.xf_TextError (T.x_TextError.no "line" (by simp)) hz hf (pv 1)) (pa_cons (pe_xf T.xf_TextError (T.x_TextError.no "column" (by simp)) hz hf (pv 1)) (pa_cons (pe_xf T.xf_TextError (T.x_TextError.no "reason" (by simp)) hz hf (pv 1)) pa_nil)))))) HdMix.nil) (HdOkD.cons (su_lst (pts_cons' pt_fld (pts_cons' pt_fld (pts_cons' pt_fld pts_nil')))) T.xe_TextError (fun _ h => nomatch h) HdOkD.nil))
    (s_one (s_ret (d_list (keep := none) a_nil))))
set_option maxHeartbeats 8000000 in
theorem ok_law_place_k19 (T : Tx K mg) : FnOk P w K mg base (L2.CX P w) 1 T.f_law_place_k19 T.d_law_place_k19 ["_law_text", "_law_at"] (spD K 2 (mkF 6 1 0 (fb_law_place_k19 T.C))) :=
  fnD_ok (k := 0) T.F_law_place_k19 sc_law_place_k19 fun cdv A outer s H E hr => by
    have tk : Takes (cxOf (L2.CX P w) P w K mg base N_law_place_k19 "_law_place" (defScope s_law_place_k19) T.f_law_place_k19 cdv A outer s H E) (WofE E) := takes_of rfl rfl rfl rfl
    exact (s_cons (s_set (i := 2) sc_law_place_k19.nd rfl (by first | exact Or.inl rfl | exact Or.inr rfl) (d_sl (d_var (pv 0)) o_none (o_some (d_var (pv 1)))))
    (s_cons (s_setLc (k := 0) (keep := false) (own := [("_law_k", 4)]) (i := 3) (by rfl) sc_law_place_k19.nd rfl rfl (sw_true rfl rfl rfl (by decide +kernel)) (i_range1 rfl T.b_range (a_cons (d_callB call_lenA kLen_ok (by rfl) T.b_len (by decide +kernel) (a_cons (d_var (pv 2)) a_nil)) a_nil)) (blkOk_by (own := [("_law_k", 4)]) (N := N_law_place_k19) (sc := defScope s_law_place_k19) (by decide +kernel)) (fun _ _ _ _ _ => (pg_name (i := 4) sc_law_place_k19.nd rfl (by first | exact Or.inl rfl | exact Or.inr rfl))) (tgName_ok 4) (by decide) (fun _ _ _ _ _ => (ts_one (t_cmp (op_eqB hr.units) eqB_ok (d_ix (d_var (pv 2)) (d_var (pv 4)) (fun _ _ => rfl)) d_str (nomark _)))) (fun _ _ _ _ _ => (d_var (pv 4))))
    (s_cons (s_set (i := 5) sc_law_place_k19.nd rfl (by first | exact Or.inl rfl | exact Or.inr rfl) (d_op op_addD addD_ok (d_var (pv 1)) d_int))
    (s_cons (s_if (t_cmp op_gt (cmpB_ok _) (d_callB call_lenA kLen_ok (by rfl) T.b_len (by decide +kernel) (a_cons (d_var (pv 3)) a_nil)) d_int (nomark _)) (s_one (s_set (i := 5) sc_law_place_k19.nd rfl (by first | exact Or.inl rfl | exact Or.inr rfl) (d_op op_sub subD_ok (d_var (pv 1)) (d_ix (d_var (pv 3)) (d_op op_sub subD_ok (d_callB call_lenA kLen_ok (by rfl) T.b_len (by decide +kernel) (a_cons (d_var (pv 3)) a_nil)) d_int) (fun _ _ => rfl))))) s_nil)
    (s_one (s_ret (d_list (keep := none) (a_cons (d_op op_addD addD_ok d_int (d_callB call_lenA kLen_ok (by rfl) T.b_len (by decide +kernel) (a_cons (d_var (pv 3)) a_nil))) (a_cons (d_var (pv 5)) a_nil)))))))))
set_option maxHeartbeats 8000000 in
theorem ok_law_pieces (T : Tx K mg) : FnOk P w K mg base (L2.CX P w) 1 T.f_law_pieces T.d_law_pieces [] (spD K 0 (mkF 1 0 0 (fb_law_pieces T.C))) :=
  fnD_ok (k := 0) T.F_law_pieces sc_law_pieces fun cdv A outer s H E hr => by
    have tk : Takes (cxOf (L2.CX P w) P w K mg base N_law_pieces "_law_pieces" (defScope s_law_pieces) T.f_law_pieces cdv A outer s H E) (WofE E) := takes_of rfl rfl rfl rfl
    exact (s_cons (s_set (i := 0) sc_law_pieces.nd rfl (by first | exact Or.inl rfl | exact Or.inr rfl) (d_list (keep := none) (a_cons (d_list (keep := none) (a_cons d_str (a_cons d_int (a_cons d_str a_nil)))) (a_cons (d_list (keep := none) (a_cons d_str (a_cons d_int (a_cons d_str a_nil)))) (a_cons (d_list (keep := none) (a_cons d_str (a_cons d_int (a_cons d_str a_nil)))) (a_cons (d_list (keep := none) (a_cons d_str (a_cons d_int (a_cons d_str a_nil)))) (a_cons (d_list (keep := none) (a_cons d_str (a_cons d_int (a_cons d_str a_nil)))) (a_cons (d_list (keep := none) (a_cons d_str (a_cons d_int (a_cons d_str a_nil)))) a_nil))))))))
    (s_cons (s_set (i := 0) sc_law_pieces.nd rfl (by first | exact Or.inl rfl | exact Or.inr rfl) (d_op op_addD addD_ok (d_var (pv 0)) (d_list (keep := none) (a_cons (d_list (keep := none) (a_cons d_str (a_cons d_int (a_cons d_str a_nil)))) (a_cons (d_list (keep := none) (a_cons d_str (a_cons d_int (a_cons d_str a_nil)))) (a_cons (d_list (keep := none) (a_cons d_str (a_cons d_int (a_cons d_str a_nil)))) (a_cons (d_list (keep := none) (a_cons d_str (a_cons d_int (a_cons d_str a_nil)))) a_nil)))))))
    (s_cons (s_set (i := 0) sc_law_pieces.nd rfl (by first | exact Or.inl rfl | exact Or.inr rfl) (d_op op_addD addD_ok (d_var (pv 0)) (d_list (keep := none) (a_cons (d_list (keep := none) (a_cons d_str (a_cons d_int (a_cons d_str a_nil)))) (a_cons (d_list (keep := none) (a_cons d_str (a_cons d_int (a_cons d_str a_nil)))) (a_cons (d_list (keep := none) (a_cons d_str (a_cons d_int (a_cons d_str a_nil)))) (a_cons (d_list (keep := none) (a_cons d_str (a_cons d_int (a_cons d_str a_nil)))) (a_cons (d_list (keep := none) (a_cons d_str (a_cons d_int (a_cons d_str a_nil)))) (a_cons (d_list (keep := none) (a_cons d_str (a_cons d_int (a_cons d_str a_nil)))) a_nil)))))))))
    (s_cons (s_set (i := 0) sc_law_pieces.nd rfl (by first | exact Or.inl rfl | exact Or.inr rfl) (d_op op_addD addD_ok (d_var (pv 0)) (d_list (keep := none) (a_cons (d_list (keep := none) (a_cons d_str (a_cons d_int (a_cons d_str a_nil)))) (a_cons (d_list (keep := none) (a_cons d_str (a_cons d_int (a_cons d_str a_nil)))) (a_cons (d_list (keep := none) (a_cons d_str (a_cons d_int (a_cons d_str a_nil)))) (a_cons (d_list (keep := none) (a_cons d_str (a_cons d_int (a_cons d_str a_nil)))) (a_cons (d_list (keep := none) (a_cons d_str (a_cons d_int (a_cons d_str a_nil)))) (a_cons (d_list (keep := none) (a_cons d_str (a_cons d_int (a_cons d_str a_nil)))) a_nil)))))))))
    (s_one (s_ret (d_op op_addD addD_ok (d_var (pv 0)) (d_list (keep := none) (a_cons (d_list (keep := none) (a_cons d_str (a_cons d_int (a_cons d_str a_nil)))) (a_cons (d_list (keep := none) (a_cons d_str (a_cons d_int (a_cons d_str a_nil)))) (a_cons (d_list (keep := none) (a_cons d_str (a_cons d_int (a_cons d_str a_nil)))) (a_cons (d_list (keep := none) (a_cons d_str (a_cons d_int (a_cons d_str a_nil)))) (a_cons (d_list (keep := none) (a_cons d_str (a_cons d_int (a_cons d_str a_nil)))) (a_cons (d_list (keep := none) (a_cons d_str (a_cons d_int (a_cons d_str a_nil)))) a_nil))))))))))))))
set_option maxHeartbeats 8000000 in
theorem ok_law_k19 (T : Tx K mg) (G_law_draws : FnOk P w K mg base (L2.CX P w) 1 T.f_law_draws T.d_law_draws ["_law_script"] (spD K 1 (F_law_draws T.C))) (G_law_error : FnOk P w K mg base (L2.CX P w) 10 T.f_law_error T.d_law_error ["_law_text"] (spD K 1 (F_law_error T.C))) (G_law_names : FnOk P w K mg base (L2.CX P w) 2 T.f_law_names T.d_law_names ["_law_draws_here"] (spD K 1 (F_law_names T.C))) (G_law_pieces : FnOk P w K mg base (L2.CX P w) 1 T.f_law_pieces T.d_law_pieces [] (spD K 0 (F_law_pieces T.C))) (G_law_place_k19 : FnOk P w K mg base (L2.CX P w) 1 T.f_law_place_k19 T.d_law_place_k19 ["_law_text", "_law_at"] (spD K 2 (F_law_place_k19 T.C))) (G_law_same_k16 : FnOk P w K mg base (L2.CX P w) 140 T.f_law_same_k16 T.d_law_same_k16 ["_law_actual", "_law_due"] (spD K 2 (F_law_same_k16 T.C 140))) (G_law_take : FnOk P w K mg base (L2.CX P w) 1 T.f_law_take T.d_law_take ["_law_draws_here", "_law_bound"] (spD K 2 (F_law_take T.C))) (G_law_tree : FnOk P w K mg base (L2.CX P w) 11 T.f_law_tree T.d_law_tree ["_law_draws_here", "_law_depth", "_law_names_here"] (spD K 3 (F_law_tree T.C 9))) (G_law_written : FnOk P w K mg base (L2.CX P w) 71 T.f_law_written T.d_law_written ["_law_tree_here", "_law_loose"] (spD K 2 (F_law_written T.C 70))) : FnOk P w K mg base (L2.CX P w) 141 T.f_law_k19 T.d_law_k19 ["_law_script"] (spD K 1 (mkF 14 2 0 (fb_law_k19 T.C))) :=
  fnD_ok (k := 140) T.F_law_k19 sc_law_k19 fun cdv A outer s H E hr => by
    have tk : Takes (cxOf (L2.CX P w) P w K mg base N_law_k19 "law" (defScope s_law_k19) T.f_law_k19 cdv A outer s H E) (WofE E) := takes_of rfl rfl rfl rfl
    exact (s_cons (s_set (i := 1) sc_law_k19.nd rfl (by first | exact Or.inl rfl | exact Or.inr rfl) (d_call (L := []) (Ln := [0]) (dvs := []) tk G_law_draws (hr.mono (by decide)) (by rfl) T.m_law_draws T.k_law_draws T.bd_law_draws .nil rfl (a_cons (d_var (pv 0)) a_nil)))
    (s_cons (s_set (i := 2) sc_law_k19.nd rfl (by first | exact Or.inl rfl | exact Or.inr rfl) (d_call (L := [0]) (Ln := []) (dvs := []) tk G_law_tree (hr.mono (by decide)) (by rfl) T.m_law_tree T.k_law_tree T.bd_law_tree .nil rfl (a_cons (d_var (pv 1)) (a_cons d_int (a_cons (d_call (L := [0]) (Ln := []) (dvs := []) tk G_law_names (hr.mono (by decide)) (by rfl) T.m_law_names T.k_law_names T.bd_law_names .nil rfl (a_cons (d_var (pv 1)) a_nil)) a_nil)))))
    (s_cons (s_set (i := 3) sc_law_k19.nd rfl (by first | exact Or.inl rfl | exact Or.inr rfl) (d_call (L := []) (Ln := []) (dvs := []) tk G_law_written (hr.mono (by decide)) (by rfl) T.m_law_written T.k_law_written T.bd_law_written .nil rfl (a_cons (d_var (pv 2)) (a_cons d_bl a_nil))))
    (s_cons (s_if (t_not (t_truth (d_call (L := []) (Ln := []) (dvs := []) tk G_law_same_k16 (hr.mono (by decide)) (by rfl) T.m_law_same_k16 T.k_law_same_k16 T.bd_law_same_k16 .nil rfl (a_cons (d_call (L := []) (Ln := []) (dvs := []) tk G_law_error (hr.mono (by decide)) (by rfl) T.m_law_error T.k_law_error T.bd_law_error .nil rfl (a_cons (d_var (pv 3)) a_nil)) (a_cons (d_list (keep := none) a_nil) a_nil))) (by intro _; rfl))) (s_one (s_ret d_bl)) s_nil)
    (s_cons (s_setLc (k := 1) (keep := false) (own := [("_law_k", 5)]) (i := 4) (by rfl) sc_law_k19.nd rfl rfl (sw_true rfl rfl rfl (by decide +kernel)) (i_range1 rfl T.b_range (a_cons (d_callB call_lenA kLen_ok (by rfl) T.b_len (by decide +kernel) (a_cons (d_var (pv 3)) a_nil)) a_nil)) (blkOk_by (own := [("_law_k", 5)]) (N := N_law_k19) (sc := defScope s_law_k19) (by decide +kernel)) (fun _ _ _ _ _ => (pg_name (i := 5) sc_law_k19.nd rfl (by first | exact Or.inl rfl | exact Or.inr rfl))) (tgName_ok 5) (by decide) (fun _ _ _ _ _ => (ts_one (PW.pt (w_and (t_cmp (op_eqB hr.units) eqB_ok (d_ix (d_var (pv 3)) (d_var (pv 5)) (fun _ _ => rfl)) d_str (nomark _)) (w_and1 (t_cmp op_notInB notInB_ok d_str (d_sl (d_var (pv 3)) (o_some (d_meth PySem.F.plainAttrs_str PySem.F.slot_str_rfind PySem.F.type_str_rfind mt_rfind isStr_ok rfind_ok (d_sl (d_var (pv 3)) o_none (o_some (d_var (pv 5)))) (a_cons d_str a_nil))) (o_some (d_var (pv 5)))) (by rfl))))))) (fun _ _ _ _ _ => (d_op op_addD addD_ok (d_var (pv 5)) d_int)))
    (s_cons (s_set (i := 6) sc_law_k19.nd rfl (by first | exact Or.inl rfl | exact Or.inr rfl) (d_ix (d_var (pv 4)) (d_call (L := [0]) (Ln := []) (dvs := []) tk G_law_take (hr.mono (by decide)) (by rfl) T.m_law_take T.k_law_take T.bd_law_take .nil rfl (a_cons (d_var (pv 1)) (a_cons (d_callB call_lenA kLen_ok (by rfl) T.b_len (by decide +kernel) (a_cons (d_var (pv 4)) a_nil)) a_nil))) (fun _ _ => rfl)))
    (s_cons (s_set (i := 7) sc_law_k19.nd rfl (by first | exact Or.inl rfl | exact Or.inr rfl) (d_call0 tk G_law_pieces (hr.mono (by decide)) (by rfl) T.m_law_pieces T.k_law_pieces T.bd_law_pieces))
    (s_cons (s_set (i := 8) sc_law_k19.nd rfl (by first | exact Or.inl rfl | exact Or.inr rfl) (d_ix (d_var (pv 7)) (d_call (L := [0]) (Ln := []) (dvs := []) tk G_law_take (hr.mono (by decide)) (by rfl) T.m_law_take T.k_law_take T.bd_law_take .nil rfl (a_cons (d_var (pv 1)) (a_cons (d_callB call_lenA kLen_ok (by rfl) T.b_len (by decide +kernel) (a_cons (d_var (pv 7)) a_nil)) a_nil))) (fun _ _ => rfl)))
    (s_cons (s_set (i := 9) sc_law_k19.nd rfl (by first | exact Or.inl rfl | exact Or.inr rfl) (d_op op_addD addD_ok (d_op op_addD addD_ok (d_sl (d_var (pv 3)) o_none (o_some (d_var (pv 6)))) (d_ix (d_var (pv 8)) d_int (fun _ _ => rfl))) (d_sl (d_var (pv 3)) (o_some (d_op op_addD addD_ok (d_var (pv 6)) (d_op op_mulD mulD_ok (d_call (L := [0]) (Ln := []) (dvs := []) tk G_law_take (hr.mono (by decide)) (by rfl) T.m_law_take T.k_law_take T.bd_law_take .nil rfl (a_cons (d_var (pv 1)) (a_cons d_int a_nil))) (d_op op_sub subD_ok (d_callB call_lenA kLen_ok (by rfl) T.b_len (by decide +kernel) (a_cons (d_var (pv 3)) a_nil)) (d_var (pv 6)))))) o_none)))
    (s_cons (s_if (t_cmp op_inB inB_ok (d_ix (d_var (pv 8)) d_int (fun _ _ => rfl)) (d_list (keep := none) (a_cons d_str (a_cons d_str a_nil))) (by rfl)) (s_one (s_set (i := 9) sc_law_k19.nd rfl (by first | exact Or.inl rfl | exact Or.inr rfl) (d_op op_addD addD_ok (d_op op_addD addD_ok (d_op op_addD addD_ok (d_sl (d_var (pv 3)) o_none (o_some (d_var (pv 6)))) (d_ix (d_var (pv 8)) d_int (fun _ _ => rfl))) d_str) (d_sl (d_var (pv 3)) (o_some (d_var (pv 6))) o_none)))) s_nil)
    (s_cons (s_if (t_not (t_truth (d_call (L := []) (Ln := []) (dvs := []) tk G_law_same_k16 (hr.mono (by decide)) (by rfl) T.m_law_same_k16 T.k_law_same_k16 T.bd_law_same_k16 .nil rfl (a_cons (d_call (L := []) (Ln := []) (dvs := []) tk G_law_error (hr.mono (by decide)) (by rfl) T.m_law_error T.k_law_error T.bd_law_error .nil rfl (a_cons (d_var (pv 9)) a_nil)) (a_cons (d_op op_addD addD_ok (d_call (L := []) (Ln := []) (dvs := []) tk G_law_place_k19 (hr.mono (by decide)) (by rfl) T.m_law_place_k19 T.k_law_place_k19 T.bd_law_place_k19 .nil rfl (a_cons (d_var (pv 9)) (a_cons (d_op op_addD addD_ok (d_var (pv 6)) (d_ix (d_var (pv 8)) d_int (fun _ _ => rfl))) a_nil))) (d_list (keep := none) (a_cons (d_ix (d_var (pv 8)) d_int (fun _ _ => rfl)) a_nil))) a_nil))) (by intro _; rfl))) (s_one (s_ret d_bl)) s_nil)
    (s_cons (s_set (i := 10) sc_law_k19.nd rfl (by first | exact Or.inl rfl | exact Or.inr rfl) (d_op op_addD addD_ok (d_var (pv 3)) (d_ix (d_list (keep := none) (a_cons d_str (a_cons d_str (a_cons d_str (a_cons d_str (a_cons d_str a_nil)))))) (d_call (L := [0]) (Ln := []) (dvs := []) tk G_law_take (hr.mono (by decide)) (by rfl) T.m_law_take T.k_law_take T.bd_law_take .nil rfl (a_cons (d_var (pv 1)) (a_cons d_int a_nil))) (fun _ _ => rfl))))
    (s_cons (s_if (t_not (t_truth (d_call (L := []) (Ln := []) (dvs := []) tk G_law_same_k16 (hr.mono (by decide)) (by rfl) T.m_law_same_k16 T.k_law_same_k16 T.bd_law_same_k16 .nil rfl (a_cons (d_call (L := []) (Ln := []) (dvs := []) tk G_law_error (hr.mono (by decide)) (by rfl) T.m_law_error T.k_law_error T.bd_law_error .nil rfl (a_cons (d_var (pv 10)) a_nil)) (a_cons (d_op op_addD addD_ok (d_call (L := []) (Ln := []) (dvs := []) tk G_law_place_k19 (hr.mono (by decide)) (by rfl) T.m_law_place_k19 T.k_law_place_k19 T.bd_law_place_k19 .nil rfl (a_cons (d_var (pv 10)) (a_cons (d_callB call_lenA kLen_ok (by rfl) T.b_len (by decide +kernel) (a_cons (d_var (pv 3)) a_nil)) a_nil))) (d_list (keep := none) (a_cons d_str a_nil))) a_nil))) (by intro _; rfl))) (s_one (s_ret d_bl)) s_nil)
    (s_cons (s_if (t_not (t_truth (d_call (L := []) (Ln := []) (dvs := []) tk G_law_same_k16 (hr.mono (by decide)) (by rfl) T.m_law_same_k16 T.k_law_same_k16 T.bd_law_same_k16 .nil rfl (a_cons (d_call (L := []) (Ln := []) (dvs := []) tk G_law_error (hr.mono (by decide)) (by rfl) T.m_law_error T.k_law_error T.bd_law_error .nil rfl (a_cons (d_op op_addD addD_ok (d_var (pv 3)) d_str) a_nil)) (a_cons (d_op op_addD addD_ok (d_call (L := []) (Ln := []) (dvs := []) tk G_law_place_k19 (hr.mono (by decide)) (by rfl) T.m_law_place_k19 T.k_law_place_k19 T.bd_law_place_k19 .nil rfl (a_cons (d_var (pv 3)) (a_cons (d_callB call_lenA kLen_ok (by rfl) T.b_len (by decide +kernel) (a_cons (d_var (pv 3)) a_nil)) a_nil))) (d_list (keep := none) (a_cons d_str a_nil))) a_nil))) (by intro _; rfl))) (s_one (s_ret d_bl)) s_nil)
    (s_cons (s_for (fg := [11]) (passes_of rfl) (by rfl) (i_list (d_list (keep := none) (a_cons d_str (a_cons d_str (a_cons d_str (a_cons d_str (a_cons d_str a_nil))))))) (pg_name (i := 11) sc_law_k19.nd rfl (by first | exact Or.inl rfl | exact Or.inr rfl)) (tgName_ok 11) (s_one (s_if (t_not (t_truth (d_call (L := []) (Ln := []) (dvs := []) tk G_law_same_k16 (hr.mono (by decide)) (by rfl) T.m_law_same_k16 T.k_law_same_k16 T.bd_law_same_k16 .nil rfl (a_cons (d_call (L := []) (Ln := []) (dvs := []) tk G_law_error (hr.mono (by decide)) (by rfl) T.m_law_error T.k_law_error T.bd_law_error .nil rfl (a_cons (d_var (pv 11)) a_nil)) (a_cons (d_list (keep := none) (a_cons d_int (a_cons d_int (a_cons d_str a_nil)))) a_nil))) (by intro _; rfl))) (s_one (s_ret d_bl)) s_nil)))
    (s_cons (s_if (t_not (t_truth (d_call (L := []) (Ln := []) (dvs := []) tk G_law_same_k16 (hr.mono (by decide)) (by rfl) T.m_law_same_k16 T.k_law_same_k16 T.bd_law_same_k16 .nil rfl (a_cons (d_list (keep := none) (a_cons (d_call (L := []) (Ln := []) (dvs := []) tk G_law_error (hr.mono (by decide)) (by rfl) T.m_law_error T.k_law_error T.bd_law_error .nil rfl (a_cons d_str a_nil)) (a_cons (d_call (L := []) (Ln := []) (dvs := []) tk G_law_error (hr.mono (by decide)) (by rfl) T.m_law_error T.k_law_error T.bd_law_error .nil rfl (a_cons d_str a_nil)) (a_cons (d_call (L := []) (Ln := []) (dvs := []) tk G_law_error (hr.mono (by decide)) (by rfl) T.m_law_error T.k_law_error T.bd_law_error .nil rfl (a_cons d_str a_nil)) a_nil)))) (a_cons (d_list (keep := none) (a_cons (d_list (keep := none) (a_cons d_int (a_cons d_int (a_cons d_str a_nil)))) (a_cons (d_list (keep := none) (a_cons d_int (a_cons d_int (a_cons d_str a_nil)))) (a_cons (d_list (keep := none) (a_cons d_int (a_cons d_int (a_cons d_str a_nil)))) a_nil)))) a_nil))) (by intro _; rfl))) (s_one (s_ret d_bl)) s_nil)
    (s_cons (s_then (k := 0) (s_set (i := 12) sc_law_k19.nd rfl (by first | exact Or.inl rfl | exact Or.inr rfl) (d_call (L := [0]) (Ln := []) (dvs := []) tk G_law_take (hr.mono (by decide)) (by rfl) T.m_law_take T.k_law_take T.bd_law_take .nil rfl (a_cons (d_var (pv 1)) (a_cons (d_callB call_lenA kLen_ok (by rfl) T.b_len (by decide +kernel) (a_cons (d_var (pv 3)) a_nil)) a_nil)))))
    (s_cons (s_set (i := 13) sc_law_k19.nd rfl (by first | exact Or.inl rfl | exact Or.inr rfl) (d_call (L := []) (Ln := []) (dvs := []) tk G_law_error (hr.mono (by decide)) (by rfl) T.m_law_error T.k_law_error T.bd_law_error .nil rfl (a_cons (d_sl (d_var (pv 3)) o_none (o_some (d_var (pv 12)))) a_nil)))
    (s_one (s_ret (d_or (d_cmp (op_eqB hr.units) (OpB.d eqB_ok) (d_var (pv 13)) (d_op op_addD addD_ok (d_call (L := []) (Ln := []) (dvs := []) tk G_law_place_k19 (hr.mono (by decide)) (by rfl) T.m_law_place_k19 T.k_law_place_k19 T.bd_law_place_k19 .nil rfl (a_cons (d_var (pv 3)) (a_cons (d_var (pv 12)) a_nil))) (d_list (keep := none) (a_cons d_str a_nil))) (nomark _)) (d_one (d_and (d_cmp op_inB (OpB.d inB_ok) (d_ix (d_var (pv 13)) d_int (fun _ _ => rfl)) (d_list (keep := none) (a_cons d_str (a_cons d_str a_nil))) (by rfl)) (d_one (d_cmp (op_eqB hr.units) (OpB.d eqB_ok) (d_callB call_lenA kLen_ok (by rfl) T.b_len (by decide +kernel) (a_cons (d_var (pv 13)) a_nil)) d_int (nomark _))))))))))))))))))))))))))
end
end Wk
end
section
set_option Elab.async false
set_option linter.all false
set_option maxRecDepth 100000
set_option maxHeartbeats 4000000
namespace Dl
open PySem L2
@[simp] theorem kt1 : kitB "int" "int" = some true := rfl
@[simp] theorem kt2 : kitB "int" "bool" = some false := rfl
@[simp] theorem kt3 : kitB "int" "str" = some false := rfl
@[simp] theorem kt4 : kitB "int" "list" = some false := rfl
@[simp] theorem kt5 : kitB "int" "tuple" = some false := rfl
@[simp] theorem kt6 : kitB "int" "dict" = some false := rfl
@[simp] theorem kt7 : kitB "bool" "int" = some true := rfl
@[simp] theorem kt8 : kitB "bool" "bool" = some true := rfl
@[simp] theorem kt9 : kitB "bool" "str" = some false := rfl
@[simp] theorem kt10 : kitB "bool" "list" = some false := rfl
@[simp] theorem kt11 : kitB "bool" "tuple" = some false := rfl
@[simp] theorem kt12 : kitB "bool" "dict" = some false := rfl
@[simp] theorem kt13 : kitB "str" "int" = some false := rfl
@[simp] theorem kt14 : kitB "str" "bool" = some false := rfl
@[simp] theorem kt15 : kitB "str" "str" = some true := rfl
@[simp] theorem kt16 : kitB "str" "list" = some false := rfl
@[simp] theorem kt17 : kitB "str" "tuple" = some false := rfl
@[simp] theorem kt18 : kitB "str" "dict" = some false := rfl
@[simp] theorem kt19 : kitB "NoneType" "int" = some false := rfl
@[simp] theorem kt20 : kitB "NoneType" "bool" = some false := rfl
@[simp] theorem kt21 : kitB "NoneType" "str" = some false := rfl
@[simp] theorem kt22 : kitB "NoneType" "list" = some false := rfl
@[simp] theorem kt23 : kitB "NoneType" "tuple" = some false := rfl
@[simp] theorem kt24 : kitB "NoneType" "dict" = some false := rfl
@[simp] theorem kt25 : kitB "list" "int" = some false := rfl
@[simp] theorem kt26 : kitB "list" "bool" = some false := rfl
@[simp] theorem kt27 : kitB "list" "str" = some false := rfl
@[simp] theorem kt28 : kitB "list" "list" = some true := rfl
@[simp] theorem kt29 : kitB "list" "tuple" = some false := rfl
@[simp] theorem kt30 : kitB "list" "dict" = some false := rfl
@[simp] theorem kt31 : kitB "tuple" "int" = some false := rfl
@[simp] theorem kt32 : kitB "tuple" "bool" = some false := rfl
@[simp] theorem kt33 : kitB "tuple" "str" = some false := rfl
@[simp] theorem kt34 : kitB "tuple" "list" = some false := rfl
@[simp] theorem kt35 : kitB "tuple" "tuple" = some true := rfl
@[simp] theorem kt36 : kitB "tuple" "dict" = some false := rfl
@[simp] theorem kt37 : kitB "dict" "int" = some false := rfl
@[simp] theorem kt38 : kitB "dict" "bool" = some false := rfl
@[simp] theorem kt39 : kitB "dict" "str" = some false := rfl
@[simp] theorem kt40 : kitB "dict" "list" = some false := rfl
@[simp] theorem kt41 : kitB "dict" "tuple" = some false := rfl
@[simp] theorem kt42 : kitB "dict" "dict" = some true := rfl
@[simp] theorem bind_ok {α β : Type} {a : α} {e : Env} {k : α → Env → Rs β} : (Rs.ok a e).bind k = k a e := rfl
@[simp] theorem isn_non : isNoneD .non = true := rfl
@[simp] theorem isn_int {i : Int} : isNoneD (.int i) = false := rfl
@[simp] theorem isn_str {i : Str} : isNoneD (.str i) = false := rfl
@[simp] theorem isn_tup {i : List D} : isNoneD (.tup i) = false := rfl
@[simp] theorem isn_lst {i : List D} : isNoneD (.lst i) = false := rfl
@[simp] theorem isn_bl {i : Bool} : isNoneD (.bl i) = false := rfl
@[simp] theorem isn_dic {i} : isNoneD (.dic i) = false := rfl
@[simp] theorem isn_obj {C i} : isNoneD (.obj C i) = false := rfl
section
variable {α γ : Type} {x : Xn} {e : Env} {i k : Nat} {l kp : Bool} {w : W}
@[simp] theorem setK_exn : setK i (.exn x e) = .exn x e := rfl
@[simp] theorem retK_exn : retK (.exn x e) = .exn x e := rfl
@[simp] theorem expK_exn : expK (.exn x e) = .exn x e := rfl
@[simp] theorem ifK_exn {f g : Sv} : ifK (.exn x e) f g = .exn x e := rfl
@[simp] theorem mkK2_exn : mkK2 true (.exn x e) kp k = .exn x e := rfl
@[simp] theorem b2a_exn {f2 : Ev} {g : W → W → Env → Rs γ} : b2a (.exn x e) f2 g = .exn x e := rfl
@[simp] theorem b2b_exn {g : W → W → Env → Rs γ} : b2b true w (.exn x e) g = .exn x e := rfl
@[simp] theorem eaK_exn {fs : List Ev} : eaK (.exn x e) fs = .exn x e := rfl
@[simp] theorem ebK_exn : ebK true w (.exn x e) = .exn x e := rfl
@[simp] theorem cbK_exn {g : List W → Ev} : cbK (.exn x e) g = .exn x e := rfl
@[simp] theorem fldK_exn {C : Addr} {f : Str} : fldK C f (.exn x e) = .exn x e := rfl
@[simp] theorem notK_exn : notK (.exn x e) = .exn x e := rfl
@[simp] theorem truK_exn : truK (.exn x e) = .exn x e := rfl
@[simp] theorem andK_exn {g : Env → Rs Bool} : andK (.exn x e) g = .exn x e := rfl
@[simp] theorem orK_exn {g : Env → Rs Bool} : orK (.exn x e) g = .exn x e := rfl
@[simp] theorem callK_exn {P : Nat} {F : Fd} {L Ln : List Nat} {dvs : List D} : callK (.exn x e) P F L Ln dvs = .exn x e := rfl
end
theorem cmulR (i j : Int) (h : -(2 ^ 64) < j ∧ j < 2 ^ 64) : CMul i j := .inr h
theorem rangeL_at {n i : Nat} {d : D} (h : (rangeL 0 n)[i]? = some d) : i < n ∧ d = .int (i : Int) := by
  unfold rangeL at h
  rw [List.getElem?_map] at h
  by_cases hi : i < n
  · rw [List.getElem?_range hi] at h
    have h := Option.some.inj h
    rw [← h]
    exact ⟨hi, by show D.int (0 + (i : Int)) = _; rw [Int.zero_add]⟩
  · rw [List.getElem?_eq_none (by simpa using hi)] at h
    cases h
theorem map_at {α : Type} {f : α → D} {xs : List α} {i : Nat} {d : D} (h : (xs.map f)[i]? = some d) : ∃ (hi : i < xs.length), d = f (xs[i]'hi) := by
  rw [List.getElem?_map] at h
  cases hx : xs[i]? with
  | none => rw [hx] at h; cases h
  | some x =>
    rw [hx] at h
    obtain ⟨hi, e⟩ := List.getElem?_eq_some_iff.mp hx
    exact ⟨hi, by rw [e]; exact (Option.some.inj h).symm⟩
theorem atI_get {xs : List D} {i : Nat} {x : D} (h : xs[i]? = some x) : atI xs (i : Int) = some x := by rw [Dl.atI_nat]; exact h
@[simp] theorem cutL_map {α β : Type} (f : α → β) (l : List α) (a b : Option Int) : cutL (l.map f) a b = (cutL l a b).map f := by
  unfold cutL
  rw [List.length_map, ← List.map_drop, ← List.map_take]
theorem cutL_nat {α : Type} (l : List α) (a b : Nat) : cutL l (some (a : Int)) (some (b : Int)) = (l.drop a).take (b - a) := by
  unfold cutL
  rw [HT.sIx_nat, HT.sIx_nat]
  rcases Nat.le_total a l.length with ha | ha
  · rw [Nat.min_eq_left ha]
    rcases Nat.le_total b l.length with hb | hb
    · rw [Nat.min_eq_left hb]
    · rw [Nat.min_eq_right hb, List.take_of_length_le (by simp), List.take_of_length_le (by simp; omega)]
  · rw [Nat.min_eq_right ha]
    rw [List.drop_of_length_le (Nat.le_refl _), List.drop_of_length_le ha]
    simp
theorem cutL_to {α : Type} (l : List α) (b : Nat) : cutL l none (some (b : Int)) = l.take b := by
  unfold cutL
  rw [HT.sIx_none, HT.sIx_nat, List.drop_zero, Nat.sub_zero]
  rcases Nat.le_total b l.length with hb | hb
  · rw [Nat.min_eq_left hb]
  · rw [Nat.min_eq_right hb, List.take_of_length_le (Nat.le_refl _), List.take_of_length_le hb]
theorem cutL_from {α : Type} (l : List α) (a : Nat) : cutL l (some (a : Int)) none = l.drop a := by
  unfold cutL
  rw [HT.sIx_none, HT.sIx_nat]
  rcases Nat.le_total a l.length with hb | hb
  · rw [Nat.min_eq_left hb, List.take_of_length_le (by simp)]
  · rw [Nat.min_eq_right hb, List.drop_of_length_le (Nat.le_refl _), List.drop_of_length_le hb]
    simp
def okN (n : Nat) (x : D) : Bool := match toPy x with | some p => p.canLay0 && decide (p.depth ≤ n) | none => false
def okNs (n : Nat) (xs : List D) : Bool := match toPyL xs with | some p => PyData.canLayAll0 p && decide (PyData.depthAll p ≤ n) | none => false
def eqvD (x y : D) : Bool := match toPy x, toPy y with | some p, some q => PyData.eqv p q | _, _ => false
def eqvL (x y : List D) : Bool := match toPyL x, toPyL y with | some p, some q => PyData.eqvAll p q | _, _ => false
section
variable {n : Nat} {x y : D} {xs ys : List D} {i j : Int} {a b : Str} {p q : Bool}
theorem eqG_of : eqG x y = if (okN 64 x && okN 64 y) = true then some (eqvD x y) else none := by
  unfold eqG okN eqvD SeqAt.shaped
  cases toPy x with
  | none => cases toPy y <;> simp
  | some p =>
    cases toPy y with
    | none => simp
    | some q =>
      simp only [Bool.and_eq_true]
@[simp] theorem okN_non : okN n .non = true := by simp [okN, toPy, PyData.canLay0, PyData.depth]
@[simp] theorem okN_int : okN n (.int i) = true := by simp [okN, toPy, PyData.canLay0, PyData.depth]
@[simp] theorem okN_bl : okN n (.bl p) = true := by simp [okN, toPy, PyData.canLay0, PyData.depth]
@[simp] theorem okN_str : okN n (.str a) = PyData.strOk a := by simp [okN, toPy, PyData.canLay0, PyData.depth]
theorem okN_seq (f : List PyData → PyData) (hf : ∀ l, (f l).canLay0 = PyData.canLayAll0 l ∧ (f l).depth = PyData.depthAll l + 1) (h : toPy x = (toPyL xs).map f) : okN n x = (decide (0 < n) && okNs (n - 1) xs) := by
  unfold okN okNs
  rw [h]
  cases toPyL xs with
  | none => simp
  | some l =>
    simp only [Option.map]
    rw [(hf l).1, (hf l).2]
    by_cases h0 : 0 < n
    · have : (PyData.depthAll l + 1 ≤ n) = (PyData.depthAll l ≤ n - 1) := by apply propext; omega
      simp [h0, this]
    · simp [h0]; omega
@[simp] theorem okN_lst : okN n (.lst xs) = (decide (0 < n) && okNs (n - 1) xs) := okN_seq .list (fun l => by simp [PyData.canLay0, PyData.depth]) (by rw [toPy]; cases toPyL xs <;> rfl)
@[simp] theorem okN_rd : okN n (.rd xs) = (decide (0 < n) && okNs (n - 1) xs) := okN_seq .list (fun l => by simp [PyData.canLay0, PyData.depth]) (by rw [toPy]; cases toPyL xs <;> rfl)
@[simp] theorem okN_tup : okN n (.tup xs) = (decide (0 < n) && okNs (n - 1) xs) := okN_seq .tuple (fun l => by simp [PyData.canLay0, PyData.depth]) (by rw [toPy]; cases toPyL xs <;> rfl)
@[simp] theorem okNs_nil : okNs n [] = true := by simp [okNs, toPyL, PyData.canLayAll0, PyData.depthAll]
@[simp] theorem okNs_cons : okNs n (x :: xs) = (okN n x && okNs n xs) := by
  unfold okNs okN
  rw [toPyL]
  cases toPy x with
  | none => simp
  | some p =>
    cases toPyL xs with
    | none => simp
    | some l =>
      simp only [PyData.canLayAll0, PyData.depthAll, Nat.max_le, Bool.decide_and]
      cases p.canLay0 <;> cases PyData.canLayAll0 l <;> simp
@[simp] theorem okNs_ints {l : List Int} : okNs n (l.map D.int) = true := by
  induction l with
  | nil => simp
  | cons a l ih => rw [List.map_cons, okNs_cons, ih]; simp
@[simp] theorem eqvD_non : eqvD .non .non = true := by simp [eqvD, toPy, PyData.eqv]
@[simp] theorem eqvD_int : eqvD (.int i) (.int j) = (i == j) := by simp [eqvD, toPy, PyData.eqv]
@[simp] theorem eqvD_bl : eqvD (.bl p) (.bl q) = (p == q) := by simp [eqvD, toPy, PyData.eqv]
@[simp] theorem eqvD_str : eqvD (.str a) (.str b) = (a == b) := by simp [eqvD, toPy, PyData.eqv]
@[simp] theorem eqvD_ni : eqvD .non (.int j) = false := by simp [eqvD, toPy, PyData.eqv]
@[simp] theorem eqvD_in : eqvD (.int j) .non = false := by simp [eqvD, toPy, PyData.eqv]
@[simp] theorem eqvD_is : eqvD (.int j) (.str a) = false := by simp [eqvD, toPy, PyData.eqv]
@[simp] theorem eqvD_si : eqvD (.str a) (.int j) = false := by simp [eqvD, toPy, PyData.eqv]
theorem eqvD_seq (f : List PyData → PyData) (hf : ∀ l m, PyData.eqv (f l) (f m) = PyData.eqvAll l m) (h : toPy x = (toPyL xs).map f) (h2 : toPy y = (toPyL ys).map f) : eqvD x y = eqvL xs ys := by
  unfold eqvD eqvL
  rw [h, h2]
  cases toPyL xs <;> cases toPyL ys <;> simp [hf]
@[simp] theorem eqvD_lst : eqvD (.lst xs) (.lst ys) = eqvL xs ys := eqvD_seq .list (fun l m => by rw [PyData.eqv]) (by rw [toPy]; cases toPyL xs <;> rfl) (by rw [toPy]; cases toPyL ys <;> rfl)
@[simp] theorem eqvD_rl : eqvD (.rd xs) (.lst ys) = eqvL xs ys := eqvD_seq .list (fun l m => by rw [PyData.eqv]) (by rw [toPy]; cases toPyL xs <;> rfl) (by rw [toPy]; cases toPyL ys <;> rfl)
@[simp] theorem eqvD_lr : eqvD (.lst xs) (.rd ys) = eqvL xs ys := eqvD_seq .list (fun l m => by rw [PyData.eqv]) (by rw [toPy]; cases toPyL xs <;> rfl) (by rw [toPy]; cases toPyL ys <;> rfl)
@[simp] theorem eqvD_tup : eqvD (.tup xs) (.tup ys) = eqvL xs ys := eqvD_seq .tuple (fun l m => by rw [PyData.eqv]) (by rw [toPy]; cases toPyL xs <;> rfl) (by rw [toPy]; cases toPyL ys <;> rfl)
@[simp] theorem eqvD_nt : eqvD .non (.tup ys) = false := by unfold eqvD; rw [toPy, toPy]; cases toPyL ys <;> simp [PyData.eqv]
@[simp] theorem eqvD_tn : eqvD (.tup ys) .non = false := by unfold eqvD; rw [toPy, toPy]; cases toPyL ys <;> simp [PyData.eqv]
@[simp] theorem eqvD_nl : eqvD .non (.lst ys) = false := by unfold eqvD; rw [toPy, toPy]; cases toPyL ys <;> simp [PyData.eqv]
@[simp] theorem eqvD_ln : eqvD (.lst ys) .non = false := by unfold eqvD; rw [toPy, toPy]; cases toPyL ys <;> simp [PyData.eqv]
@[simp] theorem eqvL_nil : eqvL [] [] = true := by simp [eqvL, toPyL, PyData.eqvAll]
@[simp] theorem eqvL_nc : eqvL [] (y :: ys) = false := by
  unfold eqvL
  rw [toPyL, toPyL]
  cases toPy y <;> cases toPyL ys <;> simp [PyData.eqvAll]
@[simp] theorem eqvL_cn : eqvL (y :: ys) [] = false := by
  unfold eqvL
  rw [toPyL, toPyL]
  cases toPy y <;> cases toPyL ys <;> simp [PyData.eqvAll]
@[simp] theorem eqvL_cons : eqvL (x :: xs) (y :: ys) = (eqvD x y && eqvL xs ys) := by
  unfold eqvL eqvD
  rw [toPyL, toPyL]
  cases toPy y <;> cases toPyL ys <;> cases toPy x <;> cases toPyL xs <;> simp [PyData.eqvAll]
@[simp] theorem eqvL_ints {l m : List Int} : eqvL (l.map D.int) (m.map D.int) = decide (l = m) := by
  induction l generalizing m with
  | nil => cases m <;> simp
  | cons a l ih =>
    cases m with
    | nil => simp
    | cons b m =>
      rw [List.map_cons, List.map_cons, eqvL_cons, ih, eqvD_int]
      by_cases h : a = b <;> simp [h]
@[simp] theorem eqB_lst : eqB (.lst xs) (.lst ys) = if (okN 64 (.lst xs) && okN 64 (.lst ys)) = true then some (eqvD (.lst xs) (.lst ys)) else none := eqG_of
@[simp] theorem eqB_tup : eqB (.tup xs) (.tup ys) = if (okN 64 (.tup xs) && okN 64 (.tup ys)) = true then some (eqvD (.tup xs) (.tup ys)) else none := eqG_of
@[simp] theorem eqB_rl : eqB (.rd xs) (.lst ys) = if (okN 64 (.rd xs) && okN 64 (.lst ys)) = true then some (eqvD (.rd xs) (.lst ys)) else none := eqG_of
@[simp] theorem eqB_lr : eqB (.lst xs) (.rd ys) = if (okN 64 (.lst xs) && okN 64 (.rd ys)) = true then some (eqvD (.lst xs) (.rd ys)) else none := eqG_of
@[simp] theorem eqB_nt : eqB .non (.tup ys) = if (okN 64 .non && okN 64 (.tup ys)) = true then some (eqvD .non (.tup ys)) else none := eqG_of
@[simp] theorem eqB_tn : eqB (.tup ys) .non = if (okN 64 (.tup ys) && okN 64 .non) = true then some (eqvD (.tup ys) .non) else none := eqG_of
@[simp] theorem eqB_nl : eqB .non (.lst ys) = if (okN 64 .non && okN 64 (.lst ys)) = true then some (eqvD .non (.lst ys)) else none := eqG_of
@[simp] theorem eqB_ln : eqB (.lst ys) .non = if (okN 64 (.lst ys) && okN 64 .non) = true then some (eqvD (.lst ys) .non) else none := eqG_of
@[simp] theorem eqB_nn : eqB .non .non = some true := rfl
@[simp] theorem eqB_ni : eqB .non (.int i) = some false := rfl
@[simp] theorem eqB_in : eqB (.int i) .non = some false := rfl
@[simp] theorem eqB_ns : eqB .non (.str a) = some false := rfl
@[simp] theorem eqB_sn : eqB (.str a) .non = some false := rfl
@[simp] theorem eqB_is : eqB (.int i) (.str a) = some false := rfl
@[simp] theorem eqB_si : eqB (.str a) (.int i) = some false := rfl
end
end Dl
end
section
set_option Elab.async false
set_option linter.all false
set_option maxRecDepth 100000
set_option maxHeartbeats 4000000
namespace Dl
open PySem L2
section
variable {it : Env → Rs Itr} {g : Tg} {t : Env → Rs Bool} {f : Ev} {k : Nat} {keep : Bool} {vs : List Nat} {items : List D} {chk : Env → Prop}
/-- a comprehension without a test that reads alone: its list is told item by item -/
theorem comp_m (out : List D) {e0 e1 : Env} {n : Nat} (hit : it e0 = .ok ⟨items, chk⟩ e1) (ho : e1.open k = true) (hl : items.length ≤ n) (hn : n ≤ sizeLine) (hv : e1.clr vs = e1) (hlen : out.length = items.length)
    (hs : ∀ (i : Nat) d y (acc : List D), items[i]? = some d → out[i]? = some y → acc.length < n → chk (e1.setC k (some (.lst acc))) ∧ lcT g t f k vs d (e1.setC k (some (.lst acc))) = .ok () (e1.setC k (some (.lst (acc ++ [y]))))) (hc : ∀ acc, chk (e1.setC k (some (.lst acc)))) :
    eLc it g t f k keep vs e0 = endL keep k (e1.setC k (some (.lst out))) := by
  obtain ⟨s, h1, h2⟩ := comp_i (keep := keep) (items := items) (chk := chk) (fun acc : List D => e1.setC k (some (.lst acc))) (fun i acc => acc = out.take i) [] hit ho rfl rfl (fun i d acc hd hi => by
    have hlt : i < items.length := (List.getElem?_eq_some_iff.mp hd).1
    have hy : out[i]? = some (out[i]'(by omega)) := List.getElem?_eq_getElem (by omega)
    have hal : acc.length ≤ i := by
      rw [hi, List.length_take]
      omega
    obtain ⟨q1, q2⟩ := hs i d _ acc hd hy (by omega)
    refine ⟨q1, _, q2, ?_⟩
    rw [List.take_add_one, ← hi, hy]
    rfl) (fun acc _ => hc acc)
  rw [h1, h2, ← hlen, List.take_length]
end
end Dl
end
section
set_option Elab.async false
set_option linter.all false
set_option maxRecDepth 100000
set_option maxHeartbeats 4000000
namespace Dl
open PySem L2
section
end
end Dl
end
section
set_option Elab.async false
set_option linter.all false
set_option maxRecDepth 100000
set_option maxHeartbeats 4000000
namespace Tp
open PySem L2 Dl
@[simp] theorem kItS_ev {z : Str} {e : Dl.Env} : kItS (.d (.str z)) e = .ok ⟨strL z, fun _ => True⟩ e := rfl
def ch (s : Str) : List Nat := s.cps.toList
theorem ch_len (s : Str) : (ch s).length = s.length := by
  show s.cps.toList.length = s.cps.size
  simp
theorem ch_inj {s t : Str} (h : ch s = ch t) : s = t := by
  cases s; cases t
  congr
  exact Array.toList_inj.mp h
@[simp] theorem ch_mk (l : List Nat) : ch ⟨l.toArray⟩ = l := by simp [ch]
theorem ch_app (s t : Str) : ch (s ++ t) = ch s ++ ch t := by
  show (s.cps ++ t.cps).toList = _
  simp [ch]
theorem len_app (s t : Str) : (s ++ t).length = s.length + t.length := by
  rw [← ch_len, ch_app, List.length_append, ch_len, ch_len]
theorem strL_at {z : Str} {i : Nat} {d : D} (h : (strL z)[i]? = some d) : ∃ c, (ch z)[i]? = some c ∧ d = .str ⟨#[c]⟩ := by
  unfold strL at h
  rw [List.getElem?_map] at h
  cases q : (ch z)[i]? with
  | none =>
    have q : z.cps.toList[i]? = none := q
    rw [q] at h; cases h
  | some c =>
    have q : z.cps.toList[i]? = some c := q
    rw [q] at h; cases h; exact ⟨c, rfl, rfl⟩
theorem strL_len (z : Str) : (strL z).length = z.length := by
  unfold strL
  simp
  rfl
theorem strIn_iff (x y : Str) : strIn x y = true ↔ ch x <:+: ch y := by
  unfold strIn
  rw [StrLaws.found_iff]
  constructor
  · rintro ⟨i, h1, h2⟩
    unfold Builtin.Str.subAt at h2
    have h2 := congrArg Array.toList (eq_of_beq h2)
    rw [Array.toList_extract, List.extract_eq_take_drop] at h2
    refine ⟨(ch y).take i, ((ch y).drop i).drop x.length, ?_⟩
    have e : ch x = ((ch y).drop i).take x.length := by
      rw [show i + x.length - i = x.length by omega] at h2
      exact h2.symm
    rw [e]
    rw [List.append_assoc, List.take_append_drop, List.take_append_drop]
  · rintro ⟨a, b, h⟩
    refine ⟨a.length, ?_, ?_⟩
    · have := congrArg List.length h
      simp only [List.length_append, ch_len] at this
      omega
    · unfold Builtin.Str.subAt
      rw [beq_iff_eq]
      apply Array.toList_inj.mp
      rw [Array.toList_extract, List.extract_eq_take_drop, show a.length + x.length - a.length = x.length by omega]
      show (((ch y).drop a.length).take x.length) = ch x
      rw [← h, List.append_assoc, List.drop_left, ← ch_len, List.take_left]
theorem strIn_char (c : Nat) (y : Str) : strIn ⟨#[c]⟩ y = decide (c ∈ ch y) := by
  rw [Bool.eq_iff_iff, strIn_iff, decide_eq_true_iff]
  show [c] <:+: ch y ↔ _
  constructor
  · rintro ⟨a, b, h⟩
    rw [← h]
    simp
  · intro h
    obtain ⟨a, b, e⟩ := List.append_of_mem h
    exact ⟨a, b, by rw [e]; simp⟩
theorem lt_one (c d : Nat) : decide ([c] < [d]) = decide (c < d) := by
  rw [decide_eq_decide]
  rw [List.cons_lt_cons_iff]
  simp
end Tp
end
section
set_option Elab.async false
set_option linter.all false
set_option maxRecDepth 100000
set_option maxHeartbeats 4000000
namespace Dl
open PySem L2
end Dl
end
section
set_option Elab.async false
set_option linter.all false
set_option maxRecDepth 100000
set_option maxHeartbeats 4000000
namespace Dl
open PySem L2
def tmR (o : Option D) (e : Env) : SR := match o with
  | some y => .rt (.d y) e
  | none => .fail
section
variable {e : Env} {n : Nat} {C : Addr} {i : Nat} {k : List (Str × D) → Option D} {kk : List (Str × D) → Option D} {ks : List (Str × D) → Option (List D)} {r : List Hd} {x : Xn} {fs : List (Str × D)} {f : Str} {d y : D} {ys : List D} {hs : List Hd}
@[simp] theorem tmK_x : tmK hs (.exn x e) = tmR (pickH e.ws.length hs x) e := rfl
@[simp] theorem tmR_some : tmR (some y) e = .rt (.d y) e := rfl
@[simp] theorem pickH_some : pickH n ((C, some i, k) :: r) x = if x.C = C then (if i < n then k (x.fs.getD []) else none) else pickH n r x := by
  show (if x.C = C then (if decide (i < n) = true then k (x.fs.getD []) else none) else pickH n r x) = _
  by_cases h : i < n <;> simp [h]
@[simp] theorem pickH_none : pickH n ((C, none, k) :: r) x = if x.C = C then k (x.fs.getD []) else pickH n r x := by
  show (if x.C = C then (if true = true then k (x.fs.getD []) else none) else pickH n r x) = _
  simp
@[simp] theorem kFld_ev : kFld f fs = fs.lookup f := rfl
@[simp] theorem kNil_ev : kNil fs = some [] := rfl
def kCo (a : Option D) (b : Option (List D)) : Option (List D) := match a, b with | some x, some xs => some (x :: xs) | _, _ => none
@[simp] theorem kCons_ev : kCons kk ks fs = kCo (kk fs) (ks fs) := rfl
@[simp] theorem kCo_ev : kCo (some y) (some ys) = some (y :: ys) := rfl
@[simp] theorem kLstF_ev : kLstF ks fs = upTo .lst (ks fs) := rfl
@[simp] theorem upTo_ev {g : List D → D} : upTo g (some ys) = if ys.length ≤ 1000 then some (g ys) else none := rfl
end
end Dl
end
section
set_option Elab.async false
set_option linter.all false
set_option maxRecDepth 100000
set_option maxHeartbeats 4000000
namespace Dl
open PySem L2
def popK (o : Option Cell) (n : Nat) (e : Env) : Rs W := match o with
    | some (.lst xs) => match xs[xs.length - 1]? with
      | some y => .ok (.d y) (e.setC n (some (.lst xs.dropLast)))
      | none => .fail
    | some (.lw xs) => match xs[xs.length - 1]? with
      | some (.d y) => .ok (.d y) (e.setC n (some (.lw xs.dropLast)))
      | _ => .fail
    | _ => .fail
section
variable {n : Nat} {e : Env} {xs ys : List D} {y : D}
@[simp] theorem kPop_ev : kPop (.loc n) [] e = popK (e.cell n) n e := by
  unfold kPop popK
  rfl
@[simp] theorem popK_snoc : popK (some (.lst (xs ++ [y]))) n e = .ok (.d y) (e.setC n (some (.lst xs))) := by
  unfold popK
  simp
@[simp] theorem popK_one : popK (some (.lst [y])) n e = .ok (.d y) (e.setC n (some (.lst []))) := rfl
end
end Dl
end
section
set_option Elab.async false
set_option linter.all false
set_option maxRecDepth 100000
set_option maxHeartbeats 8000000
namespace Tp.Tx
open PySem L2 Dl
theorem cutS_cut (z : Str) (lo hi : Option Int) : cutS z lo hi = ⟨(cutL (ch z) lo hi).toArray⟩ := by
  unfold cutS cutL
  rw [ch_len]
  rfl
theorem cutS_nat (z : Str) (a b : Nat) : cutS z (some (a : Int)) (some (b : Int)) = ⟨(((ch z).drop a).take (b - a)).toArray⟩ := by rw [cutS_cut, cutL_nat]
@[simp] theorem slD_str {z : Str} {lo hi : Option Int} (h : z.length ≤ 16777216) : slD (.str z) lo hi = some (.str (cutS z lo hi)) := by
  show (if z.length ≤ sizeLine then _ else _) = _
  exact if_pos (by rw [sizeL]; exact h)
theorem take_while_len {p : Nat → Bool} : ∀ l : List Nat, l.take (l.takeWhile p).length = l.takeWhile p
  | [] => rfl
  | c :: r => by
    rw [List.takeWhile_cons]
    split
    · rw [List.length_cons, List.take_succ_cons, take_while_len r]
    · rfl
theorem drop_next {z : Str} {a c : Nat} {r : List Nat} (h : (ch z).drop a = c :: r) : (ch z).drop (a + 1) = r := by
  have := congrArg List.tail h
  rw [List.tail_drop] at this
  simpa using this
/-- how far the signs go -/
def tw (p : Nat → Bool) (z : Str) (a : Nat) : Nat := (((ch z).drop a).takeWhile p).length
theorem tw_le (p : Nat → Bool) (z : Str) (a : Nat) : tw p z a ≤ z.length := by
  unfold tw
  have h1 := (List.takeWhile_sublist p (l := (ch z).drop a)).length_le
  rw [List.length_drop, ch_len] at h1
  omega
theorem tw_nil {p : Nat → Bool} {z : Str} {a : Nat} (h : (ch z).drop a = []) : tw p z a = 0 := by unfold tw; rw [h]; rfl
theorem tw_t {p : Nat → Bool} {z : Str} {a c : Nat} {r : List Nat} (h : (ch z).drop a = c :: r) (hp : p c = true) : tw p z a = tw p z (a + 1) + 1 := by
  unfold tw; rw [h, drop_next h, List.takeWhile_cons, if_pos hp]; rfl
theorem tw_f {p : Nat → Bool} {z : Str} {a c : Nat} {r : List Nat} (h : (ch z).drop a = c :: r) (hp : p c = false) : tw p z a = 0 := by
  unfold tw; rw [h, List.takeWhile_cons, if_neg (by rw [hp]; decide)]; rfl
theorem tw_cut (p : Nat → Bool) (z : Str) (a : Nat) : cutS z (some (a : Int)) (some ((a + tw p z a : Nat) : Int)) = ⟨(((ch z).drop a).takeWhile p).toArray⟩ := by
  rw [cutS_nat, show a + tw p z a - a = tw p z a by omega]
  unfold tw
  rw [take_while_len]
theorem drop_at {z : Str} {a c : Nat} {r : List Nat} (h : (ch z).drop a = c :: r) : (ch z)[a]? = some c := by
  have := congrArg List.head? h
  rw [List.head?_drop] at this
  simpa using this
theorem drop_lt {z : Str} {a c : Nat} {r : List Nat} (h : (ch z).drop a = c :: r) : a < z.length := by
  have := congrArg List.length h
  rw [List.length_drop, ch_len, List.length_cons] at this
  omega
theorem drop_ge {z : Str} {a : Nat} (h : (ch z).drop a = []) : z.length ≤ a := by
  rw [List.drop_eq_nil_iff, ch_len] at h
  exact h
end Tp.Tx
end
section
set_option Elab.async false
set_option linter.all false
set_option maxRecDepth 100000
set_option maxHeartbeats 8000000
namespace Tp
open PySem L2 Dl
inductive Tree where
  | txt (s : Str) | el (n : Str) (cs : List Tree)
deriving Inhabited
mutual
def Tree.d : Tree → D
  | .txt s => .str s
  | .el n cs => .tup [.str n, .lst (Tree.ds cs)]
def Tree.ds : List Tree → List D
  | [] => []
  | t :: ts => t.d :: Tree.ds ts
end
theorem Tree.ds_map : ∀ cs : List Tree, Tree.ds cs = cs.map Tree.d
  | [] => by simp [Tree.ds]
  | t :: ts => by simp [Tree.ds, Tree.ds_map ts]
@[simp] theorem Tree.d_txt {s : Str} : (Tree.txt s).d = .str s := by simp [Tree.d]
@[simp] theorem Tree.d_el {n : Str} {cs : List Tree} : (Tree.el n cs).d = .tup [.str n, .lst (cs.map Tree.d)] := by simp [Tree.d, Tree.ds_map]
def Tree.isT : Tree → Bool | .txt _ => true | .el _ _ => false
mutual
/-- the nodes in preorder -/
def Tree.pre : Tree → List Tree
  | .txt s => [.txt s]
  | .el n cs => .el n cs :: Tree.pres cs
def Tree.pres : List Tree → List Tree
  | [] => []
  | t :: ts => t.pre ++ Tree.pres ts
end
theorem Tree.pres_map : ∀ cs : List Tree, Tree.pres cs = (cs.map Tree.pre).flatten
  | [] => by simp [Tree.pres]
  | t :: ts => by simp [Tree.pres, Tree.pres_map ts]
mutual
def Tree.sz : Tree → Nat
  | .txt s => 1
  | .el n cs => 1 + Tree.szs cs
def Tree.szs : List Tree → Nat
  | [] => 0
  | t :: ts => t.sz + Tree.szs ts
end
theorem Tree.sz_el {n : Str} {cs : List Tree} : (Tree.el n cs).sz = 1 + Tree.szs cs := by simp [Tree.sz]
theorem Tree.sz_txt {s : Str} : (Tree.txt s).sz = 1 := by simp [Tree.sz]
theorem Tree.szs_nil : Tree.szs [] = 0 := by simp [Tree.szs]
theorem Tree.szs_cons {t : Tree} {ts : List Tree} : Tree.szs (t :: ts) = t.sz + Tree.szs ts := by simp [Tree.szs]
theorem Tree.szs_app : ∀ {a b : List Tree}, Tree.szs (a ++ b) = Tree.szs a + Tree.szs b
  | [], b => by simp [Tree.szs_nil]
  | t :: ts, b => by rw [List.cons_append, Tree.szs_cons, Tree.szs_cons, Tree.szs_app]; omega
theorem Tree.sz_pos (t : Tree) : 0 < t.sz := by
  cases t with
  | txt s => rw [Tree.sz_txt]; omega
  | el n cs => rw [Tree.sz_el]; omega
theorem Tree.len_szs : ∀ a : List Tree, a.length ≤ Tree.szs a
  | [] => by simp [Tree.szs_nil]
  | t :: ts => by
    rw [List.length_cons, Tree.szs_cons]
    have := Tree.len_szs ts
    have := t.sz_pos
    omega
mutual
def Tree.dp : Tree → Nat
  | .txt _ => 1
  | .el _ cs => Tree.dps cs + 1
def Tree.dps : List Tree → Nat
  | [] => 0
  | t :: ts => max t.dp (Tree.dps ts)
end
theorem Tree.dp_el {n : Str} {cs : List Tree} : (Tree.el n cs).dp = Tree.dps cs + 1 := by simp [Tree.dp]
theorem Tree.dp_txt {s : Str} : (Tree.txt s).dp = 1 := by simp [Tree.dp]
theorem Tree.dps_nil : Tree.dps [] = 0 := by simp [Tree.dps]
theorem Tree.dps_cons {t : Tree} {ts : List Tree} : Tree.dps (t :: ts) = max t.dp (Tree.dps ts) := by simp [Tree.dps]
def nameOk (w : Str) : Bool := decide (1 ≤ w.length) && decide (w.length ≤ 12) && (ch w).all fun c => decide (97 ≤ c) && decide (c ≤ 122)
def chOk (c : Nat) : Bool := c == 10 || (decide (32 ≤ c) && decide (c ≤ 126))
def textOk (w : Str) : Bool := decide (1 ≤ w.length) && decide (w.length ≤ 200) && (ch w).all chOk
def apart : List Tree → Bool
  | a :: b :: r => !(a.isT && b.isT) && apart (b :: r)
  | _ => true
mutual
def Tree.ok : Tree → Bool
  | .txt s => textOk s
  | .el n cs => nameOk n && apart cs && Tree.oks cs
def Tree.oks : List Tree → Bool
  | [] => true
  | t :: ts => t.ok && Tree.oks ts
end
theorem Tree.ok_txt {s : Str} : (Tree.txt s).ok = textOk s := by simp [Tree.ok]
theorem Tree.ok_el {n : Str} {cs : List Tree} : (Tree.el n cs).ok = (nameOk n && apart cs && Tree.oks cs) := by simp [Tree.ok]
theorem Tree.oks_nil : Tree.oks [] = true := by simp [Tree.oks]
theorem Tree.oks_cons {t : Tree} {ts : List Tree} : Tree.oks (t :: ts) = (t.ok && Tree.oks ts) := by simp [Tree.oks]
theorem Tree.oks_app : ∀ {a b : List Tree}, Tree.oks (a ++ b) = (Tree.oks a && Tree.oks b)
  | [], b => by simp [Tree.oks_nil]
  | t :: ts, b => by rw [List.cons_append, Tree.oks_cons, Tree.oks_cons, Tree.oks_app, Bool.and_assoc]
theorem Tree.oks_all : ∀ a : List Tree, Tree.oks a = a.all Tree.ok
  | [] => by simp [Tree.oks_nil]
  | t :: ts => by rw [Tree.oks_cons, Tree.oks_all ts]; rfl
mutual
def Tree.few : Tree → Prop
  | .txt s => s.length ≤ 16777216
  | .el n cs => n.length ≤ 16777216 ∧ Tree.fews cs
def Tree.fews : List Tree → Prop
  | [] => True
  | t :: ts => t.few ∧ Tree.fews ts
end
theorem letters_ch : ch "abcdefghijklmnopqrstuvwxyz" = List.range' 97 26 := by decide +kernel
theorem letter_in (c : Nat) : strIn ⟨#[c]⟩ "abcdefghijklmnopqrstuvwxyz" = (decide (97 ≤ c) && decide (c ≤ 122)) := by
  rw [strIn_char, letters_ch, Bool.eq_iff_iff]
  simp [List.mem_range'_1]
  omega
theorem is_character_ok (C : Cs) (c : Nat) : F_is_character C [.d (.str ⟨#[c]⟩)] [] = .ok (.d (.bl (chOk c))) [] := by
  have e1 : ((⟨#[c]⟩ : Str) == ("\n" : Str)) = (c == 10) := by
    rw [Bool.eq_iff_iff, beq_iff_eq, beq_iff_eq, show ("\n" : Str) = ⟨#[10]⟩ by decide +kernel]
    simp
  have e2 : (" " : Str).cps.toList = [32] := by decide +kernel
  have e3 : ("~" : Str).cps.toList = [126] := by decide +kernel
  have h2 : ∀ a b : Nat, (!decide ([a] < [b])) = decide (b ≤ a) := fun a b => by
    rw [lt_one, Bool.eq_iff_iff]; simp
  unfold chOk
  by_cases h : c = 10
  · subst h
    simp -implicitDefEqProofs [F_is_character, fb_is_character, env0, e1]
  · have hb : (c == 10) = false := beq_false_of_ne h
    by_cases h3 : 32 ≤ c
    · simp -implicitDefEqProofs [F_is_character, fb_is_character, env0, e1, hb, e2, e3, h2, h3]
      done
    · simp -implicitDefEqProofs [F_is_character, fb_is_character, env0, e1, hb, e2, e3, h2, h3]
      done
end Tp
end
section
set_option Elab.async false
set_option linter.all false
set_option maxRecDepth 100000
set_option maxHeartbeats 8000000
namespace Tp
open PySem L2 Dl Tp.Tx
def ilt (c : Nat) : Bool := decide (97 ≤ c) && decide (c ≤ 122)
def lookL : List Nat → Sum Nat Str
  | [] => .inr "open"
  | c :: _ => if chOk c = true then .inl c else .inr "character"
def eLt : List Nat := [38, 108, 116, 59]
def eGt : List Nat := [38, 103, 116, 59]
def eAm : List Nat := [38, 97, 109, 112, 59]
def entL (l : List Nat) : Option (Nat × Nat) := if l.take 4 = eLt then some (60, 4) else if l.take 4 = eGt then some (62, 4) else if l.take 5 = eAm then some (38, 5) else none
def signL (l : List Nat) : Sum (Nat × Nat) Str := match lookL l with
  | .inr r => .inr r
  | .inl c => if c = 62 then .inr "sign" else if c ≠ 38 then .inl (c, 1) else match entL l with
    | some q => .inl q
    | none => .inr "sign"
/-- the signs of a text behind the first one: up to the next < -/
def strG : Nat → List Nat → Nat → List Nat → Sum (List Nat × Nat) (Nat × Str)
  | 0, _, b, _ => .inr (b, "fuel")
  | f + 1, l, b, ls => match lookL l with
    | .inr r => .inr (b, r)
    | .inl c => if c = 60 then .inl (ls, b) else match signL l with
      | .inr r => .inr (b, r)
      | .inl (x, k) => if ls.length = 200 then .inr (b, "long") else strG f (l.drop k) (b + k) (ls ++ [x])
theorem strG_s (f : Nat) (l : List Nat) (b : Nat) (ls : List Nat) : strG (f + 1) l b ls = (match lookL l with
    | .inr r => .inr (b, r)
    | .inl c => if c = 60 then .inl (ls, b) else match signL l with
      | .inr r => .inr (b, r)
      | .inl (x, k) => if ls.length = 200 then .inr (b, "long") else strG f (l.drop k) (b + k) (ls ++ [x])) := rfl
def nodeL (p : Nat) (d n : Nat) : Option (Nat × Str) := if 60 < d then some (p, "deep") else if 5000 < n + 1 then some (p, "many") else none
/-- a text: what it is, where it ends, how many nodes there are -/
def strL2 (l : List Nat) (a n k : Nat) : Sum (List Nat × Nat × Nat) (Nat × Str) := match signL l with
  | .inr r => .inr (a, r)
  | .inl (x, j) => match nodeL a (k + 1) n with
    | some e => .inr e
    | none => match strG (l.length + 1) (l.drop j) (a + j) [x] with
      | .inr e => .inr e
      | .inl (ls, b) => .inl (ls, b, n + 1)
/-- a name: it, where it ends -/
def nameL (l : List Nat) (a : Nat) : Sum (List Nat × Nat) (Nat × Str) := match lookL l with
  | .inr r => .inr (a, r)
  | .inl c => if ilt c = true then (if (l.takeWhile ilt).length ≤ 12 then .inl (l.takeWhile ilt, a + (l.takeWhile ilt).length) else .inr (a, "name")) else .inr (a, "name")
/-- one sign that must be there -/
def tagL (l : List Nat) (a k : Nat) : Sum Bool (Nat × Str) := match lookL l with
  | .inr r => .inr (a, r)
  | .inl c => .inl (decide (c = k))
theorem entL_k {l : List Nat} {x k : Nat} (h : entL l = some (x, k)) : 1 ≤ k ∧ k ≤ l.length := by
  have len : ∀ (m : Nat) (e : List Nat), e.length = m → l.take m = e → m ≤ l.length := fun m e he h => by
    have := congrArg List.length h
    rw [List.length_take] at this
    omega
  unfold entL at h
  split at h
  · rename_i h1
    obtain ⟨-, rfl⟩ := Prod.mk.inj (Option.some.inj h)
    exact ⟨by omega, len 4 _ rfl h1⟩
  · split at h
    · rename_i h1
      obtain ⟨-, rfl⟩ := Prod.mk.inj (Option.some.inj h)
      exact ⟨by omega, len 4 _ rfl h1⟩
    · split at h
      · rename_i h1
        obtain ⟨-, rfl⟩ := Prod.mk.inj (Option.some.inj h)
        exact ⟨by omega, len 5 _ rfl h1⟩
      · cases h
theorem signL_k {l : List Nat} {x k : Nat} (h : signL l = .inl (x, k)) : 1 ≤ k ∧ k ≤ l.length := by
  unfold signL at h
  cases hl : lookL l with
  | inr r => rw [hl] at h; cases h
  | inl c =>
    rw [hl] at h
    dsimp only at h
    split at h
    · cases h
    · split at h
      · cases h
        cases l with
        | nil => cases hl
        | cons y ys => simp
      · split at h
        · rename_i q hq
          cases h
          exact entL_k hq
        · cases h
/-- where the signs end -/
theorem strG_inl : ∀ {f : Nat} {l : List Nat} {b : Nat} {ls ls' : List Nat} {b' : Nat}, strG f l b ls = .inl (ls', b') → ls.length ≤ 200 → ls.length ≤ ls'.length ∧ ls'.length ≤ 200 ∧ b ≤ b' ∧ b' - b ≤ l.length ∧ lookL (l.drop (b' - b)) = .inl 60
  | 0, _, _, _, _, _, h, _ => by cases h
  | f + 1, l, b, ls, ls', b', h, hl => by
    rw [strG_s] at h
    cases q : lookL l with
    | inr r => rw [q] at h; cases h
    | inl c =>
      rw [q] at h
      dsimp only at h
      by_cases h1 : c = 60
      · rw [if_pos h1] at h
        cases h
        rw [Nat.sub_self, List.drop_zero, q, h1]
        exact ⟨Nat.le_refl _, hl, Nat.le_refl _, Nat.zero_le _, rfl⟩
      · rw [if_neg h1] at h
        cases q2 : signL l with
        | inr r => rw [q2] at h; cases h
        | inl p =>
          obtain ⟨x, k⟩ := p
          rw [q2] at h
          dsimp only at h
          by_cases h2 : ls.length = 200
          · rw [if_pos h2] at h; cases h
          · rw [if_neg h2] at h
            obtain ⟨k1, k2⟩ := signL_k q2
            obtain ⟨a1, a2, a3, a4, a5⟩ := strG_inl h (by rw [List.length_append]; show ls.length + 1 ≤ 200; omega)
            rw [List.length_append] at a1
            have a1 : ls.length + 1 ≤ ls'.length := a1
            rw [List.length_drop] at a4
            rw [List.drop_drop, show k + (b' - (b + k)) = b' - b by omega] at a5
            exact ⟨by omega, a2, by omega, by omega, a5⟩
def nm (w : List Nat) : Str := ⟨w.toArray⟩
inductive PtR where
  | txt (ls : List Nat) | emp (w : List Nat) | opn (w : List Nat) | cls
def beginL (l : List Nat) (a p n k : Nat) : Sum (PtR × Nat × Nat) (Nat × Str) := match nodeL p (k + 1) n with
  | some e => .inr e
  | none => match nameL l a with
    | .inr e => .inr e
    | .inl (w, b) => match tagL (l.drop w.length) b 47 with
      | .inr e => .inr e
      | .inl true => (match tagL (l.drop (w.length + 1)) (b + 1) 62 with
        | .inr e => .inr e
        | .inl true => .inl (.emp w, b + 2, n + 1)
        | .inl false => .inr (b + 1, "tag"))
      | .inl false => (match tagL (l.drop w.length) b 62 with
        | .inr e => .inr e
        | .inl true => .inl (.opn w, b + 1, n + 1)
        | .inl false => .inr (b, "tag"))
def endL (l : List Nat) (a n : Nat) (top : Str) : Sum (PtR × Nat × Nat) (Nat × Str) := match nameL l a with
  | .inr e => .inr e
  | .inl (w, b) => if nm w ≠ top then .inr (a, "end") else match tagL (l.drop w.length) b 62 with
    | .inr e => .inr e
    | .inl true => .inl (.cls, b + 1, n)
    | .inl false => .inr (b, "tag")
def isSl (l : List Nat) : Bool := match l with | c :: _ => decide (c = 47) | [] => false
def partL (l : List Nat) (a n : Nat) (st : List (Str × List D)) : Sum (PtR × Nat × Nat) (Nat × Str) := match tagL l a 60 with
  | .inr e => .inr e
  | .inl false => (match strL2 l a n st.length with
    | .inr e => .inr e
    | .inl (ls, b, n') => .inl (.txt ls, b, n'))
  | .inl true => (match st with
    | [] => beginL (l.drop 1) (a + 1) a n st.length
    | (top, _) :: _ => if isSl (l.drop 1) = true then endL (l.drop 2) (a + 2) n top else beginL (l.drop 1) (a + 1) a n st.length)
/-- what a part gives: the tree that has ended, the open elements -/
def stepT (r : PtR) (st : List (Str × List D)) : Option D × List (Str × List D) := match r, st with
  | .txt ls, st => (some (.str (nm ls)), st)
  | .emp w, st => (some (.tup [.str (nm w), .lst []]), st)
  | .opn w, st => (none, (nm w, []) :: st)
  | .cls, (w, ds) :: st => (some (.tup [.str w, .lst ds]), st)
  | .cls, [] => (none, [])
/-- the tree goes to the last open element; a tree that has ended with none open is the document -/
def putT : Option D × List (Str × List D) → Sum D (List (Str × List D))
  | (none, st) => .inr st
  | (some d, []) => .inl d
  | (some d, (w, ds) :: st) => .inr ((w, ds ++ [d]) :: st)
def docG : Nat → List Nat → Nat → Nat → List (Str × List D) → Sum (D × Nat × Nat) (Nat × Str)
  | 0, _, a, _, _ => .inr (a, "fuel")
  | f + 1, l, a, n, st => match partL l a n st with
    | .inr e => .inr e
    | .inl (r, b, n') => match putT (stepT r st) with
      | .inl d => .inl (d, b, n')
      | .inr st' => docG f (l.drop (b - a)) b n' st'
theorem docG_s (f : Nat) (l : List Nat) (a n : Nat) (st : List (Str × List D)) : docG (f + 1) l a n st = (match partL l a n st with
    | .inr e => .inr e
    | .inl (r, b, n') => match putT (stepT r st) with
      | .inl d => .inl (d, b, n')
      | .inr st' => docG f (l.drop (b - a)) b n' st') := rfl
def readL (l : List Nat) : Sum D (Nat × Str) := match tagL l 0 60 with
  | .inr e => .inr e
  | .inl false => .inr (0, "element")
  | .inl true => match docG (l.length + 1) l 0 0 [] with
    | .inr e => .inr e
    | .inl (d, b, _) => match l.drop b with
      | [] => .inl d
      | _ => match lookL (l.drop b) with
        | .inr r => .inr (b, r)
        | .inl _ => .inr (b, "more")
theorem lookL_pos {l : List Nat} {c : Nat} (h : lookL l = .inl c) : ∃ r, l = c :: r ∧ chOk c = true := by
  unfold lookL at h
  split at h
  · cases h
  · split at h
    · rename_i hc
      cases h; exact ⟨_, rfl, hc⟩
    · cases h
theorem tagL_true {l : List Nat} {a k : Nat} (h : tagL l a k = .inl true) : ∃ r, l = k :: r := by
  unfold tagL at h
  split at h
  · cases h
  · rename_i c hc
    injection h with h
    have h := of_decide_eq_true h
    subst h
    obtain ⟨r, hr, _⟩ := lookL_pos hc
    exact ⟨r, hr⟩
theorem nameL_inl {l w : List Nat} {a b : Nat} (h : nameL l a = .inl (w, b)) : w = l.takeWhile ilt ∧ b = a + w.length ∧ w.length ≤ l.length ∧ 1 ≤ w.length ∧ w.length ≤ 12 := by
  unfold nameL at h
  split at h
  · cases h
  · rename_i c hc
    split at h
    · rename_i hi
      split at h
      · rename_i h12
        cases h
        obtain ⟨r, rfl, _⟩ := lookL_pos hc
        refine ⟨rfl, rfl, (List.takeWhile_sublist _).length_le, ?_, h12⟩
        rw [List.takeWhile_cons, if_pos hi, List.length_cons]
        omega
      · cases h
    · cases h
theorem strL2_b {l ls : List Nat} {a n k b n' : Nat} (h : strL2 l a n k = .inl (ls, b, n')) : a < b ∧ b ≤ a + l.length := by
  unfold strL2 at h
  split at h
  · cases h
  · rename_i x j hs
    split at h
    · cases h
    · split at h
      · cases h
      · rename_i ls' b' hg
        cases h
        obtain ⟨j1, j2⟩ := signL_k hs
        obtain ⟨-, -, h3, h4, -⟩ := strG_inl hg (by simp)
        rw [List.length_drop] at h4
        omega
theorem len_of {l r : List Nat} {c k : Nat} (h : l.drop k = c :: r) : k + 1 ≤ l.length := by
  have := congrArg List.length h
  rw [List.length_drop, List.length_cons] at this
  omega
theorem beginL_b {l : List Nat} {a p n k b n' : Nat} {r : PtR} (h : beginL l a p n k = .inl (r, b, n')) : a < b ∧ b ≤ a + l.length := by
  unfold beginL at h
  split at h
  · cases h
  · split at h
    · cases h
    · rename_i w b0 hn
      obtain ⟨-, eb, -, h1, -⟩ := nameL_inl hn
      split at h
      · cases h
      · split at h
        · cases h
        · rename_i h62
          cases h
          obtain ⟨r, hr⟩ := tagL_true h62
          have := len_of hr
          omega
        · cases h
      · split at h
        · cases h
        · rename_i h62
          cases h
          obtain ⟨r, hr⟩ := tagL_true h62
          have := len_of hr
          omega
        · cases h
theorem endL_b {l : List Nat} {a n b n' : Nat} {top : Str} {r : PtR} (h : endL l a n top = .inl (r, b, n')) : a < b ∧ b ≤ a + l.length := by
  unfold endL at h
  split at h
  · cases h
  · rename_i w b0 hn
    obtain ⟨-, eb, -, h1, -⟩ := nameL_inl hn
    split at h
    · cases h
    · split at h
      · cases h
      · rename_i h62
        cases h
        obtain ⟨r, hr⟩ := tagL_true h62
        have := len_of hr
        omega
      · cases h
theorem partL_b {l : List Nat} {a n b n' : Nat} {st : List (Str × List D)} {r : PtR} (h : partL l a n st = .inl (r, b, n')) : a < b ∧ b ≤ a + l.length := by
  unfold partL at h
  split at h
  · cases h
  · split at h
    · cases h
    · rename_i hs
      cases h
      exact strL2_b hs
  · rename_i ht
    obtain ⟨r0, hr⟩ := tagL_true ht
    subst hr
    split at h
    · have := beginL_b h
      rw [List.length_drop] at this
      rw [List.length_cons] at this ⊢
      omega
    · split at h
      · have := endL_b h
        rename_i hs
        rw [List.length_drop] at this
        rw [List.length_cons] at this ⊢
        have h2 : 1 ≤ r0.length := by
          cases r0 with
          | nil => simp [isSl] at hs
          | cons _ _ => simp
        omega
      · have := beginL_b h
        rw [List.length_drop] at this
        rw [List.length_cons] at this ⊢
        omega
end Tp
end
section
set_option Elab.async false
set_option linter.all false
set_option maxRecDepth 100000
set_option maxHeartbeats 8000000
namespace Tp
open PySem L2 Dl Tp.Tx
def escC (c : Nat) : List Nat := if c = 60 then eLt else if c = 62 then eGt else if c = 38 then eAm else [c]
def esc : List Nat → List Nat
  | [] => []
  | c :: r => escC c ++ esc r
mutual
def Tree.wr (b : Bool) : Tree → List Nat
  | .txt s => esc (ch s)
  | .el n cs => if (cs.isEmpty && !b) = true then 60 :: (ch n ++ [47, 62]) else 60 :: (ch n ++ 62 :: (Tree.wrs b cs ++ 60 :: 47 :: (ch n ++ [62])))
def Tree.wrs (b : Bool) : List Tree → List Nat
  | [] => []
  | t :: ts => t.wr b ++ Tree.wrs b ts
end
theorem Tree.wr_txt {b : Bool} {s : Str} : (Tree.txt s).wr b = esc (ch s) := by rw [Tree.wr]
theorem Tree.wr_el {b : Bool} {n : Str} {cs : List Tree} : (Tree.el n cs).wr b = if (cs.isEmpty && !b) = true then 60 :: (ch n ++ [47, 62]) else 60 :: (ch n ++ 62 :: (Tree.wrs b cs ++ 60 :: 47 :: (ch n ++ [62]))) := by rw [Tree.wr]
theorem Tree.wrs_nil {b : Bool} : Tree.wrs b [] = [] := by rw [Tree.wrs]
theorem Tree.wrs_cons {b : Bool} {t : Tree} {ts : List Tree} : Tree.wrs b (t :: ts) = t.wr b ++ Tree.wrs b ts := by rw [Tree.wrs]
theorem lookL_ok {c : Nat} {r : List Nat} (h : chOk c = true) : lookL (c :: r) = .inl c := by
  show (if chOk c = true then _ else _) = _
  rw [if_pos h]
theorem escC_len (c : Nat) : 1 ≤ (escC c).length := by
  unfold escC
  split
  · decide
  · split
    · decide
    · split
      · decide
      · exact Nat.le_refl 1
theorem escC_plain {c : Nat} (h1 : c ≠ 60) (h2 : c ≠ 62) (h3 : c ≠ 38) : escC c = [c] := by
  unfold escC
  rw [if_neg h1, if_neg h2, if_neg h3]
theorem ent_and {l : List Nat} {q : Nat × Nat} (h : entL (38 :: l) = some q) : signL (38 :: l) = .inl q := by
  unfold signL
  rw [lookL_ok (by decide)]
  simp only
  rw [if_neg (by decide), if_neg (by decide), h]
theorem esc_look {c : Nat} {R : List Nat} (h : chOk c = true) : ∃ x, lookL (escC c ++ R) = .inl x ∧ x ≠ 60 ∧ signL (escC c ++ R) = .inl (c, (escC c).length) := by
  by_cases h1 : c = 60
  · subst h1
    exact ⟨38, rfl, by decide, ent_and (q := (60, 4)) (by simp [entL, eLt])⟩
  · by_cases h2 : c = 62
    · subst h2
      exact ⟨38, rfl, by decide, ent_and (q := (62, 4)) (by simp [entL, eLt, eGt])⟩
    · by_cases h3 : c = 38
      · subst h3
        exact ⟨38, rfl, by decide, ent_and (q := (38, 5)) (by simp [entL, eLt, eGt, eAm])⟩
      · rw [escC_plain h1 h2 h3]
        have hl : lookL ([c] ++ R) = .inl c := lookL_ok h
        refine ⟨c, hl, h1, ?_⟩
        unfold signL
        rw [hl]
        simp only
        rw [if_neg h2, if_pos h3]
        rfl
theorem strG_esc : ∀ (cs : List Nat) {f b : Nat} {ls R : List Nat}, (∀ c ∈ cs, chOk c = true) → (esc cs).length < f → ls.length + cs.length ≤ 200 → strG f (esc cs ++ 60 :: R) b ls = .inl (ls ++ cs, b + (esc cs).length)
  | [], f, b, ls, R, _, hf, _ => by
    obtain ⟨f, rfl⟩ : ∃ g, f = g + 1 := ⟨f - 1, by have : 0 < f := hf; omega⟩
    show strG (f + 1) (60 :: R) b ls = _
    rw [strG_s, lookL_ok (by decide)]
    simp only
    rw [if_pos trivial, List.append_nil]
    rfl
  | c :: cs, f, b, ls, R, hc, hf, hl => by
    have hf : (escC c ++ esc cs).length < f := hf
    rw [List.length_append] at hf
    have hl : ls.length + (cs.length + 1) ≤ 200 := hl
    have h1 := escC_len c
    obtain ⟨f, rfl⟩ : ∃ g, f = g + 1 := ⟨f - 1, by omega⟩
    obtain ⟨x, k1, k2, k3⟩ := esc_look (R := esc cs ++ 60 :: R) (hc c (List.mem_cons_self ..))
    show strG (f + 1) ((escC c ++ esc cs) ++ 60 :: R) b ls = _
    rw [List.append_assoc, strG_s, k1]
    simp only
    rw [if_neg k2, k3]
    simp only
    rw [if_neg (by omega), List.drop_left, strG_esc cs (fun y hy => hc y (List.mem_cons_of_mem _ hy)) (by omega) (by rw [List.length_append]; show ls.length + 1 + cs.length ≤ 200; omega)]
    show _ = Sum.inl (ls ++ c :: cs, b + (escC c ++ esc cs).length)
    rw [List.append_assoc, List.length_append, Nat.add_assoc]
    rfl
theorem strL2_esc {c : Nat} {cs : List Nat} {R : List Nat} {a n k : Nat} (hc : ∀ y ∈ c :: cs, chOk y = true) (hl : (c :: cs).length ≤ 200) (hn : nodeL a (k + 1) n = none) : strL2 (esc (c :: cs) ++ 60 :: R) a n k = .inl (c :: cs, a + (esc (c :: cs)).length, n + 1) := by
  obtain ⟨x, k1, k2, k3⟩ := esc_look (R := esc cs ++ 60 :: R) (hc c (List.mem_cons_self ..))
  have e : esc (c :: cs) ++ 60 :: R = escC c ++ (esc cs ++ 60 :: R) := by show (escC c ++ esc cs) ++ 60 :: R = _; rw [List.append_assoc]
  have hl : cs.length + 1 ≤ 200 := hl
  unfold strL2
  rw [e, k3]
  simp only
  rw [hn]
  simp only
  rw [List.drop_left, strG_esc cs (fun y hy => hc y (List.mem_cons_of_mem _ hy)) (by simp; omega) (by show 1 + cs.length ≤ 200; omega)]
  show Sum.inl ([c] ++ cs, a + (escC c).length + (esc cs).length, n + 1) = Sum.inl (c :: cs, a + (escC c ++ esc cs).length, n + 1)
  rw [List.length_append, Nat.add_assoc]
  rfl
theorem ilt_ok {c : Nat} (h : ilt c = true) : chOk c = true := by
  unfold ilt at h
  unfold chOk
  simp at h ⊢
  omega
theorem take_name {w R : List Nat} (hw : ∀ c ∈ w, ilt c = true) (hR : ∀ c r, R = c :: r → ilt c = false) : (w ++ R).takeWhile ilt = w := by
  induction w with
  | nil =>
    cases R with
    | nil => rfl
    | cons c r => rw [List.nil_append, List.takeWhile_cons, hR c r rfl]; rfl
  | cons c w ih =>
    rw [List.cons_append, List.takeWhile_cons, hw c (List.mem_cons_self ..), if_pos rfl, ih fun y hy => hw y (List.mem_cons_of_mem _ hy)]
theorem nameL_w {w R : List Nat} {a : Nat} (hw : ∀ c ∈ w, ilt c = true) (h1 : 1 ≤ w.length) (h2 : w.length ≤ 12) (hR : ∀ c r, R = c :: r → ilt c = false) : nameL (w ++ R) a = .inl (w, a + w.length) := by
  have ht := take_name hw hR
  cases w with
  | nil => simp at h1
  | cons c w =>
    have hc := hw c (List.mem_cons_self ..)
    unfold nameL
    rw [show lookL (c :: w ++ R) = .inl c from lookL_ok (ilt_ok hc)]
    simp only
    rw [if_pos hc, ht, if_pos h2]
theorem tagL_is {c k : Nat} {r : List Nat} {a : Nat} (h : chOk c = true) : tagL (c :: r) a k = .inl (decide (c = k)) := by
  unfold tagL
  rw [lookL_ok h]
theorem nm_ch (s : Str) : nm (ch s) = s := ch_inj (by unfold nm; rw [ch_mk])
theorem docG_fuel : ∀ (m : Nat) {f g : Nat} {l : List Nat} {a n : Nat} {st : List (Str × List D)}, l.length ≤ m → l.length < f → l.length < g → docG f l a n st = docG g l a n st
  | m, 0, _, _, _, _, _, _, h, _ => by omega
  | m, _, 0, _, _, _, _, _, _, h => by omega
  | 0, f + 1, g + 1, l, a, n, st, hm, _, _ => by
    rw [docG_s, docG_s]
    cases q : partL l a n st with
    | inr e => rfl
    | inl e =>
      obtain ⟨r, b, n'⟩ := e
      have := partL_b q
      omega
  | m + 1, f + 1, g + 1, l, a, n, st, hm, hf, hg => by
    rw [docG_s, docG_s]
    cases q : partL l a n st with
    | inr e => rfl
    | inl e =>
      obtain ⟨r, b, n'⟩ := e
      obtain ⟨h1, h2⟩ := partL_b q
      dsimp only
      cases putT (stepT r st) with
      | inl d => rfl
      | inr st' =>
        have hl : (l.drop (b - a)).length = l.length - (b - a) := List.length_drop
        exact docG_fuel m (by omega) (by omega) (by omega)
def docF (l : List Nat) (a n : Nat) (st : List (Str × List D)) : Sum (D × Nat × Nat) (Nat × Str) := docG (l.length + 1) l a n st
theorem docF_eq (l : List Nat) (a n : Nat) (st : List (Str × List D)) : docF l a n st = (match partL l a n st with
    | .inr e => .inr e
    | .inl (r, b, n') => match putT (stepT r st) with
      | .inl d => .inl (d, b, n')
      | .inr st' => docF (l.drop (b - a)) b n' st') := by
  unfold docF
  rw [docG_s]
  cases q : partL l a n st with
  | inr e => rfl
  | inl e =>
    obtain ⟨r, b, n'⟩ := e
    obtain ⟨h1, h2⟩ := partL_b q
    dsimp only
    cases putT (stepT r st) with
    | inl d => rfl
    | inr st' =>
      have hl : (l.drop (b - a)).length = l.length - (b - a) := List.length_drop
      exact docG_fuel l.length (by omega) (by omega) (by omega)
theorem docF_step {l R : List Nat} {a n b n' : Nat} {st : List (Str × List D)} {r : PtR} (h : partL l a n st = .inl (r, b, n')) (hR : l.drop (b - a) = R) : docF l a n st = (match putT (stepT r st) with | .inl d => .inl (d, b, n') | .inr st' => docF R b n' st') := by
  rw [docF_eq, h, ← hR]
theorem beginL_w {w X : List Nat} {a p n k : Nat} (hw : ∀ c ∈ w, ilt c = true) (h1 : 1 ≤ w.length) (h2 : w.length ≤ 12) (hn : nodeL p (k + 1) n = none) : beginL (w ++ 47 :: 62 :: X) a p n k = .inl (.emp w, a + w.length + 2, n + 1) ∧ beginL (w ++ 62 :: X) a p n k = .inl (.opn w, a + w.length + 1, n + 1) := by
  constructor
  · unfold beginL
    rw [hn, nameL_w hw h1 h2 (fun c r e => by cases e; decide)]
    simp only
    rw [List.drop_left, tagL_is (by decide), show (w ++ 47 :: 62 :: X).drop (w.length + 1) = 62 :: X by rw [← List.drop_drop, List.drop_left]; rfl]
    simp only [decide_true]
    rw [tagL_is (by decide)]
    rfl
  · unfold beginL
    rw [hn, nameL_w hw h1 h2 (fun c r e => by cases e; decide)]
    simp only
    rw [List.drop_left, tagL_is (by decide), tagL_is (by decide)]
    rfl
theorem endL_w {w X : List Nat} {a n : Nat} (hw : ∀ c ∈ w, ilt c = true) (h1 : 1 ≤ w.length) (h2 : w.length ≤ 12) : endL (w ++ 62 :: X) a n (nm w) = .inl (.cls, a + w.length + 1, n) := by
  unfold endL
  rw [nameL_w hw h1 h2 (fun c r e => by cases e; decide)]
  simp only
  rw [if_neg (by simp), List.drop_left, tagL_is (by decide)]
  rfl
theorem nameOk_ch {s : Str} (h : nameOk s = true) : (∀ c ∈ ch s, ilt c = true) ∧ 1 ≤ (ch s).length ∧ (ch s).length ≤ 12 := by
  unfold nameOk at h
  rw [Bool.and_eq_true, Bool.and_eq_true, decide_eq_true_iff, decide_eq_true_iff] at h
  rw [ch_len]
  exact ⟨fun c hc => List.all_eq_true.mp h.2 c hc, h.1.1, h.1.2⟩
theorem textOk_ch {s : Str} (h : textOk s = true) : (∀ c ∈ ch s, chOk c = true) ∧ 1 ≤ (ch s).length ∧ (ch s).length ≤ 200 := by
  unfold textOk at h
  rw [Bool.and_eq_true, Bool.and_eq_true, decide_eq_true_iff, decide_eq_true_iff] at h
  rw [ch_len]
  exact ⟨fun c hc => List.all_eq_true.mp h.2 c hc, h.1.1, h.1.2⟩
theorem nodeL_none {p d n : Nat} (h1 : d ≤ 60) (h2 : n + 1 ≤ 5000) : nodeL p d n = none := by
  unfold nodeL
  rw [if_neg (by omega), if_neg (by omega)]
theorem part_begin {w X : List Nat} {a n : Nat} {st : List (Str × List D)} (hw : ∀ c ∈ w, ilt c = true) (h1 : 1 ≤ w.length) : partL (60 :: (w ++ X)) a n st = beginL (w ++ X) (a + 1) a n st.length := by
  unfold partL
  rw [tagL_is (by decide)]
  simp only [decide_true]
  cases st with
  | nil => rfl
  | cons x st =>
    obtain ⟨top, ds⟩ := x
    cases w with
    | nil => simp at h1
    | cons c w =>
      have hc := hw c (List.mem_cons_self ..)
      have hne : ¬ c = 47 := by intro e; subst e; revert hc; decide
      have hs : isSl ((60 :: (c :: w ++ X)).drop 1) = false := decide_eq_false hne
      simp only
      rw [hs]
      rfl
theorem part_end {w X : List Nat} {a n : Nat} {ds : List D} {st : List (Str × List D)} (hw : ∀ c ∈ w, ilt c = true) (h1 : 1 ≤ w.length) (h2 : w.length ≤ 12) : partL (60 :: 47 :: (w ++ 62 :: X)) a n ((nm w, ds) :: st) = .inl (.cls, a + 2 + w.length + 1, n) := by
  unfold partL
  rw [tagL_is (by decide)]
  simp only [decide_true]
  show (if isSl (47 :: (w ++ 62 :: X)) = true then endL (w ++ 62 :: X) (a + 2) n (nm w) else _) = _
  rw [if_pos (by rfl)]
  exact endL_w hw h1 h2
theorem part_txt {s : Str} {R : List Nat} {a n : Nat} {st : List (Str × List D)} (hs : textOk s = true) (hd : st.length + 1 ≤ 60) (hn : n + 1 ≤ 5000) : partL (esc (ch s) ++ 60 :: R) a n st = .inl (.txt (ch s), a + (esc (ch s)).length, n + 1) := by
  obtain ⟨h1, h2, h3⟩ := textOk_ch hs
  cases q : ch s with
  | nil => rw [q] at h2; simp at h2
  | cons c cs =>
    rw [q] at h1 h3
    obtain ⟨x, k1, k2, k3⟩ := esc_look (R := esc cs ++ 60 :: R) (h1 c (List.mem_cons_self ..))
    have e : esc (c :: cs) ++ 60 :: R = escC c ++ (esc cs ++ 60 :: R) := by show (escC c ++ esc cs) ++ 60 :: R = _; rw [List.append_assoc]
    have ht : tagL (esc (c :: cs) ++ 60 :: R) a 60 = .inl false := by
      unfold tagL
      rw [e, k1]
      simp [k2]
    unfold partL
    rw [ht]
    simp only
    rw [strL2_esc h1 h3 (nodeL_none hd hn)]
theorem putT_cons {d : D} {w : Str} {ds : List D} {st : List (Str × List D)} : putT (some d, (w, ds) :: st) = .inr ((w, ds ++ [d]) :: st) := rfl
theorem Tree.dp_pos (t : Tree) : 1 ≤ t.dp := by
  cases t with
  | txt s => rw [Tree.dp_txt]; exact Nat.le_refl _
  | el n cs => rw [Tree.dp_el]; omega
theorem Tree.wr_el_head {b : Bool} {t : Tree} (h : t.isT = false) : ∃ r, t.wr b = 60 :: r := by
  cases t with
  | txt s => cases h
  | el n cs => rw [Tree.wr_el]; split <;> exact ⟨_, rfl⟩
mutual
theorem wr_parse (b : Bool) : ∀ (t : Tree) (R : List Nat) (a n : Nat) (st : List (Str × List D)), t.ok = true → (t.isT = true → ∃ R', R = 60 :: R') → st.length + t.dp ≤ 60 → n + t.sz ≤ 5000 →
    docF (t.wr b ++ R) a n st = (match putT (some t.d, st) with | .inl d => .inl (d, a + (t.wr b).length, n + t.sz) | .inr st' => docF R (a + (t.wr b).length) (n + t.sz) st')
  | .txt s, R, a, n, st, hok, hR, hdp, hsz => by
    obtain ⟨R', rfl⟩ := hR rfl
    rw [Tree.ok_txt] at hok
    rw [Tree.dp_txt] at hdp
    rw [Tree.sz_txt] at hsz ⊢
    rw [Tree.wr_txt, Tree.d_txt]
    rw [docF_step (part_txt hok hdp hsz) (R := 60 :: R') (by rw [Nat.add_sub_cancel_left, List.drop_left])]
    show (match putT (some (D.str (nm (ch s))), st) with | .inl d => _ | .inr st' => _) = _
    rw [nm_ch]
  | .el w cs, R, a, n, st, hok, hR, hdp, hsz => by
    rw [Tree.ok_el, Bool.and_eq_true, Bool.and_eq_true] at hok
    obtain ⟨⟨hw, hap⟩, hoks⟩ := hok
    obtain ⟨w1, w2, w3⟩ := nameOk_ch hw
    rw [Tree.dp_el] at hdp
    rw [Tree.sz_el] at hsz ⊢
    rw [Tree.d_el]
    have hn := nodeL_none (p := a) (d := st.length + 1) (n := n) (by omega) (by omega)
    by_cases hq : (cs.isEmpty && !b) = true
    · rw [Tree.wr_el, if_pos hq]
      rw [Bool.and_eq_true] at hq
      have hcs : cs = [] := List.isEmpty_iff.mp hq.1
      subst hcs
      have hp := part_begin (X := 47 :: 62 :: R) (a := a) (n := n) (st := st) w1 w2
      rw [(beginL_w w1 w2 w3 hn).1] at hp
      have e : (60 :: (ch w ++ [47, 62])) ++ R = 60 :: (ch w ++ 47 :: 62 :: R) := by simp
      have hlen : (60 :: (ch w ++ [47, 62])).length = 1 + (ch w).length + 2 := by simp; omega
      rw [e, docF_step hp (R := R) (by
        rw [show a + 1 + (ch w).length + 2 - a = 1 + ((ch w).length + 2) by omega, ← List.drop_drop, ← List.drop_drop]
        show ((ch w ++ 47 :: 62 :: R).drop (ch w).length).drop 2 = R
        rw [List.drop_left]; rfl), hlen, Tree.szs_nil]
      show (match putT (some (D.tup [.str (nm (ch w)), .lst []]), st) with | .inl d => _ | .inr st' => _) = _
      rw [nm_ch, show a + 1 + (ch w).length + 2 = a + (1 + (ch w).length + 2) by omega, Nat.add_zero]
      rfl
    · rw [Tree.wr_el, if_neg hq]
      have hp := part_begin (X := 62 :: (Tree.wrs b cs ++ 60 :: 47 :: (ch w ++ 62 :: R))) (a := a) (n := n) (st := st) w1 w2
      rw [(beginL_w w1 w2 w3 hn).2] at hp
      have e : (60 :: (ch w ++ 62 :: (Tree.wrs b cs ++ 60 :: 47 :: (ch w ++ [62])))) ++ R = 60 :: (ch w ++ 62 :: (Tree.wrs b cs ++ 60 :: 47 :: (ch w ++ 62 :: R))) := by simp
      have hlen : (60 :: (ch w ++ 62 :: (Tree.wrs b cs ++ 60 :: 47 :: (ch w ++ [62])))).length = 1 + (ch w).length + 1 + (Tree.wrs b cs).length + 2 + (ch w).length + 1 := by simp; omega
      rw [e, docF_step hp (R := Tree.wrs b cs ++ 60 :: 47 :: (ch w ++ 62 :: R)) (by
        rw [show a + 1 + (ch w).length + 1 - a = 1 + ((ch w).length + 1) by omega, ← List.drop_drop, ← List.drop_drop]
        show ((ch w ++ 62 :: (Tree.wrs b cs ++ 60 :: 47 :: (ch w ++ 62 :: R))).drop (ch w).length).drop 1 = _
        rw [List.drop_left]; rfl), hlen]
      show docF (Tree.wrs b cs ++ 60 :: 47 :: (ch w ++ 62 :: R)) (a + 1 + (ch w).length + 1) (n + 1) ((nm (ch w), []) :: st) = _
      rw [nm_ch, wrs_parse b cs (47 :: (ch w ++ 62 :: R)) (a + 1 + (ch w).length + 1) (n + 1) w [] st hoks hap (by omega) (by omega)]
      have he := part_end (X := R) (a := a + 1 + (ch w).length + 1 + (Tree.wrs b cs).length) (n := n + 1 + Tree.szs cs) (ds := [] ++ cs.map Tree.d) (st := st) w1 w2 w3
      rw [nm_ch] at he
      rw [docF_step he (R := R) (by
        rw [show a + 1 + (ch w).length + 1 + (Tree.wrs b cs).length + 2 + (ch w).length + 1 - (a + 1 + (ch w).length + 1 + (Tree.wrs b cs).length) = 2 + ((ch w).length + 1) by omega, ← List.drop_drop, ← List.drop_drop]
        show ((ch w ++ 62 :: R).drop (ch w).length).drop 1 = R
        rw [List.drop_left]; rfl)]
      show (match putT (some (D.tup [.str w, .lst ([] ++ cs.map Tree.d)]), st) with | .inl d => _ | .inr st' => _) = _
      rw [List.nil_append, show a + 1 + (ch w).length + 1 + (Tree.wrs b cs).length + 2 + (ch w).length + 1 = a + (1 + (ch w).length + 1 + (Tree.wrs b cs).length + 2 + (ch w).length + 1) by omega, show n + 1 + Tree.szs cs = n + (1 + Tree.szs cs) by omega]
theorem wrs_parse (b : Bool) : ∀ (ts : List Tree) (R : List Nat) (a n : Nat) (w : Str) (ds : List D) (st : List (Str × List D)), Tree.oks ts = true → apart ts = true → st.length + 1 + Tree.dps ts ≤ 60 → n + Tree.szs ts ≤ 5000 →
    docF (Tree.wrs b ts ++ 60 :: R) a n ((w, ds) :: st) = docF (60 :: R) (a + (Tree.wrs b ts).length) (n + Tree.szs ts) ((w, ds ++ ts.map Tree.d) :: st)
  | [], R, a, n, w, ds, st, _, _, _, _ => by
    rw [Tree.wrs_nil, Tree.szs_nil, List.map_nil, List.append_nil]
    rfl
  | t :: ts, R, a, n, w, ds, st, hok, hap, hdp, hsz => by
    rw [Tree.oks_cons, Bool.and_eq_true] at hok
    rw [Tree.dps_cons] at hdp
    rw [Tree.szs_cons] at hsz ⊢
    rw [Tree.wrs_cons, List.append_assoc]
    have hap2 : apart ts = true := by
      cases ts with
      | nil => rfl
      | cons u us =>
        have : (!(t.isT && u.isT) && apart (u :: us)) = true := hap
        rw [Bool.and_eq_true] at this
        exact this.2
    rw [wr_parse b t (Tree.wrs b ts ++ 60 :: R) a n ((w, ds) :: st) hok.1 (fun hT => by
      cases ts with
      | nil => exact ⟨R, by rw [Tree.wrs_nil]; rfl⟩
      | cons u us =>
        have h2 : (!(t.isT && u.isT) && apart (u :: us)) = true := hap
        rw [hT, Bool.and_eq_true] at h2
        have hu : u.isT = false := by simpa using h2.1
        obtain ⟨r, hr⟩ := Tree.wr_el_head (b := b) hu
        exact ⟨_, by rw [Tree.wrs_cons, hr]; rfl⟩) (by show st.length + 1 + t.dp ≤ 60; omega) (by omega)]
    rw [putT_cons]
    show docF (Tree.wrs b ts ++ 60 :: R) _ _ _ = _
    rw [wrs_parse b ts R (a + (t.wr b).length) (n + t.sz) w (ds ++ [t.d]) st hok.2 hap2 (by omega) (by omega)]
    rw [List.length_append, List.map_cons, List.append_assoc, show a + (t.wr b).length + (Tree.wrs b ts).length = a + ((t.wr b).length + (Tree.wrs b ts).length) by omega, show n + t.sz + Tree.szs ts = n + (t.sz + Tree.szs ts) by omega]
    rfl
end
/-- a document's text is read as the document -/
theorem readL_wr (b : Bool) (t : Tree) (h : t.ok = true) (hT : t.isT = false) (hd : t.dp ≤ 60) (hs : t.sz ≤ 5000) : readL (t.wr b) = .inl t.d := by
  obtain ⟨r, hr⟩ := Tree.wr_el_head (b := b) hT
  have hp := wr_parse b t [] 0 0 [] h (fun z => by rw [hT] at z; cases z) (by simpa using hd) (by omega)
  rw [List.append_nil] at hp
  have hp : docG ((t.wr b).length + 1) (t.wr b) 0 0 [] = .inl (t.d, 0 + (t.wr b).length, 0 + t.sz) := hp
  unfold readL
  rw [show tagL (t.wr b) 0 60 = .inl true by rw [hr, tagL_is (by decide)]; rfl]
  simp only
  rw [hp]
  simp only
  rw [Nat.zero_add, List.drop_length]
end Tp
end
section
set_option Elab.async false
set_option linter.all false
set_option maxRecDepth 100000
set_option maxHeartbeats 8000000
namespace Tp
open PySem L2 Dl
@[simp] abbrev Eit (t : D) (ws : List Tree) (here : Option W := none) : Dl.Env := E_is_tree (x_tree := some (.d t)) (x_waiting := some (.loc 0)) (x_here := here) (c0 := some (.lst (ws.map Tree.d)))
end Tp
end
section
set_option Elab.async false
set_option linter.all false
set_option maxRecDepth 100000
set_option maxHeartbeats 8000000
namespace Tp
open PySem L2 Dl
def wm : List (Tree × Nat) → Nat
  | [] => 0
  | (t, e) :: r => max (t.dp + e) (wm r)
def enW (p : Tree × Nat) : D := .tup [p.1.d, .int ((p.2 : Int) + 1)]
@[simp] abbrev Edw (t : D) (dm : Nat) (ws : List (Tree × Nat)) (here depth child : Option W := none) : Dl.Env := E_depth_within (x_tree := some (.d t)) (x_deepest := some (.d (.int dm))) (x_waiting := some (.loc 0)) (x_here := here) (x_depth := depth) (x_child := child) (c0 := some (.lst (ws.map enW)))
theorem Tree.pres_app (a b : List Tree) : Tree.pres (a ++ b) = Tree.pres a ++ Tree.pres b := by rw [Tree.pres_map, Tree.pres_map, Tree.pres_map]; simp
theorem Tree.pres_cons (t : Tree) (b : List Tree) : Tree.pres (t :: b) = t.pre ++ Tree.pres b := by simp [Tree.pres]
theorem Tree.pre_txt (s : Str) : (Tree.txt s).pre = [.txt s] := by simp [Tree.pre]
theorem Tree.pre_el (n : Str) (cs : List Tree) : (Tree.el n cs).pre = .el n cs :: Tree.pres cs := by simp [Tree.pre]
@[simp] abbrev Eno (t : D) (fs ws : List Tree) (here : Option W := none) : Dl.Env := E_nodes_of (x_tree := some (.d t)) (x_found := some (.loc 0)) (x_waiting := some (.loc 1)) (x_here := here) (c0 := some (.lst (fs.map Tree.d))) (c1 := some (.lst (ws.map Tree.d)))
def Tree.fit (t : Tree) : Bool := decide (t.sz ≤ 5000) && decide (t.dp ≤ 60)
/-- a document -/
def Tree.doc (t : Tree) : Bool := !t.isT && (t.ok && t.fit)
end Tp
end
section
set_option Elab.async false
set_option linter.all false
set_option maxRecDepth 100000
set_option maxHeartbeats 8000000
namespace Tp
open PySem L2 Dl
/-- a deck of numbers, the next one last -/
def dk (ds : List Int) : Cell := .lst (ds.map .int)
def dkD (ds : List Int) : D := .lst (ds.map .int)
@[simp] theorem mapCell_dkw {g : W → Option W} {ds : List Int} : mapCell g (dk ds) = some (dk ds) := rfl
@[simp] theorem refs_dkw {n : Nat} {ds : List Int} : Cell.refs n (dk ds) = false := rfl
@[simp] theorem subst_dkw {n : Nat} {x : D} {ds : List Int} : Cell.subst n x (dk ds) = dk ds := rfl
@[simp] theorem toD_dkw {ds : List Int} : Cell.toD (dk ds) = some (dkD ds) := rfl
/-- the next number by its remainder -/
def tv (ds : List Int) (n : Int) : Int := match ds.reverse with
  | [] => 0
  | x :: _ => x.fmod n
def tn (ds : List Int) : List Int := ds.dropLast
theorem tv_lo (ds : List Int) {n : Int} (h : 0 < n) : 0 ≤ tv ds n := by
  unfold tv
  split
  · exact Int.le_refl _
  · exact Int.fmod_nonneg_of_pos _ h
theorem tv_hi (ds : List Int) {n : Int} (h : 0 < n) : tv ds n < n := by
  unfold tv
  split
  · exact h
  · exact Int.fmod_lt_of_pos _ h
theorem take_ok (C : Cs) (ds : List Int) {n : Int} (h : 0 < n) : F_law_take C [.loc 0, .d (.int n)] [dk ds] = .ok (.d (.int (tv ds n))) [dk (tn ds)] := by
  have h1 : n ≠ 0 := by omega
  unfold tv tn dk
  rcases List.eq_nil_or_concat ds with rfl | ⟨r, x, rfl⟩
  · simp -implicitDefEqProofs [F_law_take, fb_law_take, env0]
  · rw [List.concat_eq_append]
    have hp : ¬ ((r.length : Int) + 1 = 0) := by omega
    have hb : ((r.length : Int) + 1 == 0) = false := beq_false_of_ne hp
    simp -implicitDefEqProofs [F_law_take, fb_law_take, env0, hb, h1]
@[simp] abbrev Edr (ns : List Int) (ds : List Int) (cell number first k seed : Option W := none) : Dl.Env := E_law_draws (x_script := some (.d (.rd (ns.map .int)))) (x_draws_here := some (.loc 1)) (x_cell := cell) (x_number := number) (x_first := first) (x_k := k) (x_seed := seed) (c1 := some (dk ds))
theorem draws_l2 (C : Cs) (ns ds : List Int) (hl : ds.length < 100000) (c n : Int) (f : Option W) :
    ∃ ds' m, fb_law_draws_l2 C (Edr ns ds (cell := some (.d (.int c))) (number := some (.d (.int n))) (first := f)) = .nx (Edr ns ds' (cell := some (.d (.int c))) (number := some (.d (.int m))) (first := f)) ∧ ds'.length ≤ ds.length + 60 := by
  unfold fb_law_draws_l2
  obtain ⟨⟨d1, m⟩, h1, h2⟩ := for_i (it := iRg1 (eC (.int 60))) (g := tgName 5) (fg := [5]) (body := fb_law_draws_l2b C) (items := rangeL 0 60) (chk := fun _ => True) (S := List Int × Int)
    (e0 := Edr ns ds (cell := some (.d (.int c))) (number := some (.d (.int n))) (first := f))
    (fun s => Edr ns s.1 (cell := some (.d (.int c))) (number := some (.d (.int s.2))) (first := f)) (fun i s => s.1.length ≤ ds.length + i) (ds, n) (by simp -implicitDefEqProofs [Edr, E_law_draws]) (Nat.le_refl _) (fun i d ⟨s1, s2⟩ hd hi => ⟨trivial, by
      obtain ⟨hi2, rfl⟩ := rangeL_at hd
      dsimp only at hi ⊢
      have hdv : CDivN s2 997 := ⟨by decide, by decide⟩
      have hs : s1.length < 16777216 := by omega
      by_cases hp : 0 < s2
      · refine ⟨(s1 ++ [s2.fmod 997], s2.fdiv 997), ?_, by simp; omega⟩
        simp -implicitDefEqProofs [Edr, E_law_draws, fb_law_draws_l2b, dk, hp, hdv, sizeL, hs]
      · refine ⟨(s1, s2), ?_, by show s1.length ≤ _; omega⟩
        simp -implicitDefEqProofs [Edr, E_law_draws, fb_law_draws_l2b, dk, hp]⟩) (fun _ _ => trivial)
  rw [rangeL_len] at h2
  exact ⟨d1, m, h1, h2⟩
theorem draws_l1 (C : Cs) (ns : List Int) (hn : ns.length ≤ 63) : ∃ ds, fb_law_draws_l1 C (Edr ns []) = .nx (Edr ns ds) ∧ ds.length ≤ 62 * ns.length := by
  unfold fb_law_draws_l1
  obtain ⟨d1, h1, h2⟩ := for_i (it := iL (eVar 0)) (g := tgName 2) (fg := [2, 3, 4, 5]) (body := fb_law_draws_l1b C) (items := ns.map .int) (chk := fun _ => True) (S := List Int) (e0 := Edr ns [])
    (fun s => Edr ns s) (fun i s => s.length ≤ 62 * i) [] (by simp -implicitDefEqProofs [Edr, E_law_draws]) (by simp) (fun i d s hd hi => ⟨trivial, by
      obtain ⟨hi2, rfl⟩ := map_at hd
      generalize (ns[i]'hi2) = c
      have hs : s.length < 16777216 := by omega
      have hs2 : s.length + 1 < 16777216 := by omega
      have hp : CPow 10 18 := by decide
      have m1 : ∀ i : Int, CMul i 48271 := fun i => cmulR _ _ (by decide)
      have m2 : ∀ i : Int, CMul i 69621 := fun i => cmulR _ _ (by decide)
      have d7 : ∀ i : Int, CDivN i 7 := fun i => ⟨by decide, by decide⟩
      generalize ha : (if c < 0 then -c else c) = a
      by_cases hb : a < 1000000000000000000
      · obtain ⟨ds', m, e1, e2⟩ := draws_l2 C ns (s ++ [((((a * 48271 + 11).fmod 2147483647) * 69621 + a).fmod 2147483629)] ++ [((a * 48271 + 11).fmod 2147483647 + a.fdiv 7).fmod 1000003]) (by simp; omega) c 0 (some (.d (.int ((a * 48271 + 11).fmod 2147483647))))
        simp -implicitDefEqProofs [Edr, E_law_draws, dk] at e1
        refine ⟨ds', ?_, by simp at e2; omega⟩
        simp -implicitDefEqProofs [Edr, E_law_draws, fb_law_draws_l1b, dk, ha, hb, hp, m1, m2, d7, sizeL, hs, hs2, e1]
      · obtain ⟨ds', m, e1, e2⟩ := draws_l2 C ns s (by omega) c a none
        simp -implicitDefEqProofs [Edr, E_law_draws, dk] at e1
        refine ⟨ds', ?_, by omega⟩
        simp -implicitDefEqProofs [Edr, E_law_draws, fb_law_draws_l1b, dk, ha, hb, hp, m1, m2, d7, e1]⟩) (fun _ _ => trivial)
  rw [List.length_map] at h2
  exact ⟨d1, h1, h2⟩
theorem draws_l3 (C : Cs) (ns ds : List Int) (hl : ds.length < 100000) (z : Int) : ∃ ds' m, fb_law_draws_l3 C (Edr ns ds (seed := some (.d (.int z)))) = .nx (Edr ns ds' (seed := some (.d (.int m)))) ∧ ds'.length = ds.length + 240 := by
  unfold fb_law_draws_l3
  obtain ⟨⟨d1, m⟩, h1, h2⟩ := for_i (it := iRg1 (eC (.int 240))) (g := tgName 5) (fg := [5]) (body := fb_law_draws_l3b C) (items := rangeL 0 240) (chk := fun _ => True) (S := List Int × Int) (e0 := Edr ns ds (seed := some (.d (.int z))))
    (fun s => Edr ns s.1 (seed := some (.d (.int s.2)))) (fun i s => s.1.length = ds.length + i) (ds, z) (by simp -implicitDefEqProofs [Edr, E_law_draws]) rfl (fun i d ⟨s1, s2⟩ hd hi => ⟨trivial, by
      obtain ⟨hi2, rfl⟩ := rangeL_at hd
      dsimp only at hi ⊢
      have m1 : ∀ i : Int, CMul i 48271 := fun i => cmulR _ _ (by decide)
      have d5 : ∀ i : Int, CDivN i 5 := fun i => ⟨by decide, by decide⟩
      have hs : s1.length < 16777216 := by omega
      refine ⟨(s1 ++ [((s2 * 48271 + 69621).fmod 2147483647).fdiv 5], (s2 * 48271 + 69621).fmod 2147483647), ?_, by simp; omega⟩
      simp -implicitDefEqProofs [Edr, E_law_draws, fb_law_draws_l3b, dk, m1, d5, sizeL, hs]⟩) (fun _ _ => trivial)
  rw [rangeL_len] at h2
  exact ⟨d1, m, h1, h2⟩
theorem draws_ok (C : Cs) (ns : List Int) (hn : ns.length ≤ 63) : ∃ ds, F_law_draws C [.d (.rd (ns.map .int))] [] = .ok (.loc 0) [dk ds] := by
  obtain ⟨d1, e1, l1⟩ := draws_l1 C ns hn
  obtain ⟨d2, m, e2, l2⟩ := draws_l3 C ns d1 (by omega) (match ns with | [] => 1 | x :: _ => 1 + (if x < 0 then -x else x))
  refine ⟨d2.reverse, ?_⟩
  simp -implicitDefEqProofs [Edr, E_law_draws, dk] at e1 e2
  cases ns with
  | nil =>
    simp -implicitDefEqProofs at e1 e2
    simp -implicitDefEqProofs [F_law_draws, fb_law_draws, env0, sizeL, dk, e1, e2]
  | cons x r =>
    have hp : (0 : Int) < (r.length : Int) + 1 := by omega
    have hx : atI (D.int x :: r.map D.int) 0 = some (.int x) := atI_get (i := 0) rfl
    simp -implicitDefEqProofs at e1 e2
    simp -implicitDefEqProofs [F_law_draws, fb_law_draws, env0, sizeL, dk, e1, e2, hp, hx]
end Tp
end
section
set_option Elab.async false
set_option linter.all false
set_option maxRecDepth 100000
set_option maxHeartbeats 8000000
namespace Tp
open PySem L2 Dl
@[simp] theorem ixDD_str {z : Str} {i : Int} (h : z.length ≤ 16777216) : ixDD (.str z) i = match atI z.cps.toList i with | some c => some (.str ⟨#[c]⟩) | none => none := by
  show (if z.length ≤ sizeLine then _ else _) = _
  exact if_pos (by rw [sizeL]; exact h)
/-- a number below a bound, as a place -/
theorem tv_nat (ds : List Int) {n : Nat} (h : 0 < n) : ∃ j : Nat, j < n ∧ tv ds (n : Int) = (j : Int) := by
  have h1 := tv_lo ds (n := (n : Int)) (by omega)
  have h2 := tv_hi ds (n := (n : Int)) (by omega)
  exact ⟨(tv ds n).toNat, by omega, by omega⟩
theorem len_add (x : Str) (c : Nat) : (x ++ (⟨#[c]⟩ : Str)).length = x.length + 1 := by rw [len_app]; rfl
theorem sgs_len : ("ab <>&;lt\n~/" : Str).length = 12 := by decide +kernel
theorem sgs_ch : ("ab <>&;lt\n~/" : Str).cps.toList = [97, 98, 32, 60, 62, 38, 59, 108, 116, 10, 126, 47] := by decide +kernel
theorem sgs_ok : ∀ c ∈ [97, 98, 32, 60, 62, 38, 59, 108, 116, 10, 126, 47], chOk c = true := by decide
@[simp] abbrev Els (most : W) (s : Str) (ds : List Int) (k : Option W := none) : Dl.Env := E_law_string_k16 (x_draws_here := some (.loc 0)) (x_most := some most) (x_signs := some (.d (.str "ab <>&;lt\n~/"))) (x_string_here := some (.d (.str s))) (x_k := k) (c0 := some (dk ds))
theorem string_ok (C : Cs) (ds : List Int) {m : Nat} (hm : 0 < m) (hM : m ≤ 150) : ∃ s ds', F_law_string_k16 C [.loc 0, .d (.int m)] [dk ds] = .ok (.d (.str s)) [dk ds'] ∧ textOk s = true ∧ s.length ≤ m := by
  obtain ⟨j, hj, hv⟩ := tv_nat ds hm
  have ht := take_ok C ds (n := (m : Int)) (by omega)
  rw [hv] at ht
  have hz : -4611686018427387904 ≤ (1 : Int) + j ∧ (1 : Int) + j < 4611686018427387904 := by omega
  have hnat : ((1 : Int) + j).toNat = j + 1 := by omega
  obtain ⟨⟨d1, s⟩, h1, h2, h3⟩ : ∃ S : List Int × Str, fb_law_string_k16_l1 C (Els (.d (.int m)) (⟨#[]⟩ : Str) ds) = .nx (Els (.d (.int m)) S.2 S.1) ∧ S.2.length = j + 1 ∧ (ch S.2).all chOk = true := by
    unfold fb_law_string_k16_l1
    have := for_i (it := iRg1 (eOp addD (eC (.int 1)) (eCall 2 (F_law_take C) [0] [] [] [(eVar 0), (eVar 1)]))) (g := tgName 4) (fg := [4]) (body := fb_law_string_k16_l1b C) (items := rangeL 0 (j + 1)) (chk := fun _ => True) (S := List Int × Str) (e0 := Els (.d (.int m)) (⟨#[]⟩ : Str) ds)
      (fun S => Els (.d (.int m)) S.2 S.1) (fun i S => S.2.length = i ∧ (ch S.2).all chOk = true) (tn ds, ⟨#[]⟩) (by simp -implicitDefEqProofs [Els, E_law_string_k16, ht, hz, hnat]) ⟨rfl, rfl⟩ (fun i d ⟨e, s⟩ hd ⟨i1, i2⟩ => ⟨trivial, by
        obtain ⟨hi2, rfl⟩ := rangeL_at hd
        dsimp only at i1 i2 ⊢
        have ht2 := take_ok C e (n := 12) (by omega)
        obtain ⟨q, hq, hqv⟩ := tv_nat e (n := 12) (by omega)
        have hqv : tv e 12 = (q : Int) := hqv
        rw [hqv] at ht2
        have ha : ∃ c, atI ("ab <>&;lt\n~/" : Str).cps.toList (q : Int) = some c ∧ chOk c = true := by
          rw [sgs_ch]
          have : q < ([97, 98, 32, 60, 62, 38, 59, 108, 116, 10, 126, 47] : List Nat).length := hq
          refine ⟨_, atI_nat (List.getElem?_eq_getElem this), sgs_ok _ (List.getElem_mem this)⟩
        obtain ⟨c, hc, hok⟩ := ha
        have hl := len_add s c
        have hs : s.length + 1 ≤ 16777216 := by omega
        have hs1 : s.length + (⟨#[c]⟩ : Str).length ≤ 16777216 := hs
        refine ⟨(tn e, s ++ ⟨#[c]⟩), ?_, ?_, ?_⟩
        · simp -implicitDefEqProofs [Els, E_law_string_k16, fb_law_string_k16_l1b, sgs_len, ht2, hc, addD, sizeL, hs1]
        · show (s ++ ⟨#[c]⟩ : Str).length = i + 1
          rw [hl, i1]
        · show (ch (s ++ ⟨#[c]⟩ : Str)).all chOk = true
          rw [ch_app, List.all_append, i2]
          show (true && (chOk c && true)) = true
          rw [hok]; rfl⟩) (fun _ _ => trivial)
    rw [rangeL_len] at this
    exact this
  dsimp only at h2 h3
  refine ⟨s, d1, ?_, ?_, by omega⟩
  · have e0 : (⟨#[]⟩ : Str) = ("" : Str) := by decide +kernel
    rw [e0] at h1
    simp -implicitDefEqProofs [Els, E_law_string_k16] at h1
    simp -implicitDefEqProofs [F_law_string_k16, fb_law_string_k16, env0, h1]
  · unfold textOk
    rw [h3, h2, decide_eq_true (by omega), decide_eq_true (by omega)]
    rfl
def lastT (cs : List Tree) : Bool := match cs.reverse with
  | [] => false
  | t :: _ => t.isT
theorem lastT_snoc (r : List Tree) (h : Tree) : lastT (r ++ [h]) = h.isT := by unfold lastT; simp
theorem apart_snoc : ∀ (cs : List Tree) (t : Tree), apart (cs ++ [t]) = (apart cs && !(lastT cs && t.isT))
  | [], t => rfl
  | [a], t => by
    show (!(a.isT && t.isT) && true) = (true && !(a.isT && t.isT))
    simp
  | a :: b :: r, t => by
    have ih := apart_snoc (b :: r) t
    have e : lastT (a :: b :: r) = lastT (b :: r) := by
      rcases List.eq_nil_or_concat (b :: r) with h | ⟨x, y, h⟩
      · cases h
      · rw [h, List.concat_eq_append, show a :: (x ++ [y]) = (a :: x) ++ [y] from rfl, lastT_snoc, lastT_snoc]
    show (!(a.isT && b.isT) && apart ((b :: r) ++ [t])) = _
    rw [ih, e]
    show _ = ((!(a.isT && b.isT) && apart (b :: r)) && _)
    rw [Bool.and_assoc]
def bT : Nat → Nat
  | 0 => 2
  | k + 1 => 1 + 3 * bT k
mutual
def Tree.de : Tree → Nat
  | .txt _ => 0
  | .el _ cs => Tree.des cs + 1
def Tree.des : List Tree → Nat
  | [] => 0
  | t :: ts => max t.de (Tree.des ts)
end
theorem Tree.de_el {n : Str} {cs : List Tree} : (Tree.el n cs).de = Tree.des cs + 1 := by rw [Tree.de]
theorem Tree.de_txt {s : Str} : (Tree.txt s).de = 0 := by rw [Tree.de]
theorem Tree.des_nil : Tree.des [] = 0 := by rw [Tree.des]
theorem Tree.des_cons {t : Tree} {ts : List Tree} : Tree.des (t :: ts) = max t.de (Tree.des ts) := by rw [Tree.des]
theorem Tree.des_app : ∀ a b : List Tree, Tree.des (a ++ b) = max (Tree.des a) (Tree.des b)
  | [], b => by rw [Tree.des_nil]; simp
  | t :: ts, b => by rw [List.cons_append, Tree.des_cons, Tree.des_cons, Tree.des_app]; omega
/-- the names are among some -/
def nmIn (nms : List Str) (l : List Tree) : Prop := ∀ x ∈ l, ∀ n cs, x = .el n cs → n ∈ nms
theorem nmIn_app {nms : List Str} {a b : List Tree} (ha : nmIn nms a) (hb : nmIn nms b) : nmIn nms (a ++ b) := fun x hx => (List.mem_append.mp hx).elim (ha x) (hb x)
/-- a drawn tree of depth k -/
structure TOk (nms : List Str) (k : Nat) (t : Tree) : Prop where
  nm : nmIn nms t.pre
  el : t.isT = false
  ok : t.ok = true
  sz : t.sz ≤ bT k
  dp : t.dp ≤ k + 2
  de : t.de ≤ k + 1
  tl : ∀ x ∈ t.pre, ∀ s, x = .txt s → s.length ≤ 5
structure CsOk (nms : List Str) (k i : Nat) (cs : List Tree) : Prop where
  nm : nmIn nms (Tree.pres cs)
  len : cs.length ≤ i
  ok : Tree.oks cs = true
  ap : apart cs = true
  sz : Tree.szs cs ≤ i * (match k with | 0 => 1 | k + 1 => bT k)
  dp : Tree.dps cs ≤ k + 1
  de : Tree.des cs ≤ k
  tl : ∀ x ∈ Tree.pres cs, ∀ s, x = .txt s → s.length ≤ 5
theorem Tree.dps_app : ∀ a b : List Tree, Tree.dps (a ++ b) = max (Tree.dps a) (Tree.dps b)
  | [], b => by rw [Tree.dps_nil]; simp
  | t :: ts, b => by rw [List.cons_append, Tree.dps_cons, Tree.dps_cons, Tree.dps_app]; omega
theorem bT_pos : ∀ k, 1 ≤ bT k
  | 0 => by decide
  | k + 1 => by show 1 ≤ 1 + 3 * bT k; omega
theorem CsOk.txt {nms : List Str} {k i : Nat} {cs : List Tree} (h : CsOk nms k i cs) {s : Str} (hs : textOk s = true) (hl : lastT cs = false) (h5 : s.length ≤ 5) : CsOk nms k (i + 1) (cs ++ [.txt s]) where
  nm := by
    rw [Tree.pres_app]
    refine nmIn_app h.nm fun x hx n cs e => ?_
    rw [Tree.pres_cons, Tree.pre_txt, Tree.pres] at hx
    rw [List.mem_singleton.mp hx] at e
    cases e
  len := by rw [List.length_append]; have := h.len; simp; omega
  ok := by rw [Tree.oks_app, h.ok, Tree.oks_cons, Tree.oks_nil, Tree.ok_txt, hs]; rfl
  ap := by rw [apart_snoc, h.ap, hl]; rfl
  sz := by
    rw [Tree.szs_app, Tree.szs_cons, Tree.szs_nil, Tree.sz_txt, Nat.succ_mul]
    have := h.sz
    have : 1 ≤ (match k with | 0 => 1 | k + 1 => bT k) := by
      cases k with
      | zero => exact Nat.le_refl _
      | succ k => exact bT_pos k
    omega
  dp := by rw [Tree.dps_app, Tree.dps_cons, Tree.dps_nil, Tree.dp_txt]; have := h.dp; omega
  de := by rw [Tree.des_app, Tree.des_cons, Tree.des_nil, Tree.de_txt]; have := h.de; omega
  tl := fun x hx s' e => by
    rw [Tree.pres_app] at hx
    rcases List.mem_append.mp hx with h1 | h1
    · exact h.tl x h1 s' e
    · rw [Tree.pres_cons, Tree.pre_txt, Tree.pres] at h1
      rw [List.mem_singleton.mp h1] at e
      cases e
      exact h5
theorem CsOk.el {nms : List Str} {k i : Nat} {cs : List Tree} (h : CsOk nms (k + 1) i cs) {t : Tree} (ht : TOk nms k t) : CsOk nms (k + 1) (i + 1) (cs ++ [t]) where
  nm := by
    rw [Tree.pres_app]
    refine nmIn_app h.nm ?_
    rw [Tree.pres_cons, Tree.pres, List.append_nil]
    exact ht.nm
  len := by rw [List.length_append]; have := h.len; simp; omega
  ok := by rw [Tree.oks_app, h.ok, Tree.oks_cons, Tree.oks_nil, ht.ok]; rfl
  ap := by rw [apart_snoc, h.ap, ht.el, Bool.and_false]; rfl
  sz := by
    rw [Tree.szs_app, Tree.szs_cons, Tree.szs_nil, Nat.succ_mul]
    have h1 : Tree.szs cs ≤ i * bT k := h.sz
    have h2 := ht.sz
    show _ ≤ i * bT k + bT k
    omega
  dp := by rw [Tree.dps_app, Tree.dps_cons, Tree.dps_nil]; have := h.dp; have := ht.dp; omega
  de := by rw [Tree.des_app, Tree.des_cons, Tree.des_nil]; have := h.de; have := ht.de; omega
  tl := fun x hx s' e => by
    rw [Tree.pres_app] at hx
    rcases List.mem_append.mp hx with h1 | h1
    · exact h.tl x h1 s' e
    · rw [Tree.pres_cons, Tree.pres, List.append_nil] at h1
      exact ht.tl x h1 s' e
theorem CsOk.more {nms : List Str} {k i : Nat} {cs : List Tree} (h : CsOk nms k i cs) : CsOk nms k (i + 1) cs := ⟨h.nm, by have := h.len; omega, h.ok, h.ap, by rw [Nat.succ_mul]; have := h.sz; omega, h.dp, h.de, h.tl⟩
@[simp] abbrev Elt (k : Nat) (nms : List Str) (many : W) (cs : List Tree) (ds : List Int) (k_ beside : Option W := none) : Dl.Env := E_law_tree (x_draws_here := some (.loc 0)) (x_depth := some (.d (.int k))) (x_names_here := some (.d (.lst (nms.map .str)))) (x_children := some (.loc 1)) (x_many := some many) (x_k := k_) (x_beside := beside) (c0 := some (dk ds)) (c1 := some (.lst (cs.map Tree.d)))
theorem beside_ok (k : Nat) (nms : List Str) (many : W) (cs : List Tree) (ds : List Int) (k_ : Option W) : (eAnd (eOp (blG gtB) (eCB kLen [(eVar 3)]) (eC (.int 0))) (eIsi "str" (eIx (eVar 3) (eOp subD (eCB kLen [(eVar 3)]) (eC (.int 1)))))) (Elt k nms many cs ds (k_ := k_)) = .ok (.d (.bl (lastT cs))) (Elt k nms many cs ds (k_ := k_)) := by
  rcases List.eq_nil_or_concat cs with rfl | ⟨r, h, rfl⟩
  · simp -implicitDefEqProofs [Elt, E_law_tree, lastT]
  · rw [List.concat_eq_append, lastT_snoc]
    have hpos : (0 : Int) < ((r.length : Nat) : Int) + 1 := by omega
    have hat : atI (r.map Tree.d ++ [h.d]) (r.length : Int) = some h.d := by
      exact atI_get (by rw [List.getElem?_append_right (by simp)]; simp)
    cases h with
    | txt s =>
      rw [Tree.d_txt] at hat
      simp -implicitDefEqProofs [Elt, E_law_tree, hpos, hat, Tree.isT]
    | el n c =>
      rw [Tree.d_el] at hat
      simp -implicitDefEqProofs [Elt, E_law_tree, hpos, hat, Tree.isT]
end Tp
end
section
set_option Elab.async false
set_option linter.all false
set_option maxRecDepth 100000
set_option maxHeartbeats 8000000
namespace Dl
open PySem L2
def mcL (r : Rs W) (C : Addr) (mn : Str) (P : Nat) (F : Fd) (fs : List Ev) : Rs W := r.bind fun w e1 => if (insD C mn e1 w && wl e1 w) = true then (evA fs e1).bind fun ws e2 => (if (w :: ws).length = P then runL F (w :: ws) e2 else .fail) else .fail
def mcL2 (b : Bool) (w : W) (r : Rs (List W)) (P : Nat) (F : Fd) : Rs W := if b = true then r.bind fun ws e2 => (if (w :: ws).length = P then runL F (w :: ws) e2 else .fail) else .fail
section
variable {e : Env} {w : W} {ws : List W} {fs : List Ev} {g : Ev} {x : Xn} {C : Addr} {mn : Str} {P : Nat} {F : Fd}
@[simp] theorem eMethL_ev : eMethL C mn P F g fs e = mcL (g e) C mn P F fs := rfl
@[simp] theorem mcL_ok : mcL (.ok w e) C mn P F fs = mcL2 (insD C mn e w && wl e w) w (evA fs e) P F := rfl
@[simp] theorem mcL_exn : mcL (.exn x e) C mn P F fs = .exn x e := rfl
@[simp] theorem mcL2_ok : mcL2 true w (.ok ws e) P F = if (w :: ws).length = P then runL F (w :: ws) e else .fail := rfl
@[simp] theorem mcL2_exn : mcL2 true w (.exn x e) P F = .exn x e := rfl
@[simp] theorem eLd_ev {g : Nat → Ev} : eLd g e = g (lead e.M) e := rfl
@[simp] theorem whT_exn {body : Sv} {fg : List Nat} : whT (.exn x e) body fg = .exn x e := rfl
@[simp] theorem isStr_str {s : Str} : isStr e (.d (.str s)) = true := rfl
@[simp] theorem k1S_ev {k : D → D → Option D} {a b : D} : k1S k (.d a) [.d b] e = okO (k a b) e := rfl
@[simp] theorem rfindD_ev {a b : Str} : rfindD (.str a) (.str b) = some (.int (Txt.rfind a b)) := rfl
@[simp] theorem countD_ev {a b : Str} : countD (.str a) (.str b) = some (.int (Txt.count a b)) := rfl
@[simp] theorem goG_nil {gs : List Tg} {body : Sv} {fg : List Nat} {e : Env} : goG gs body fg [] e = .nx e := rfl
def goK (gs : List Tg) (body : Sv) (fg : List Nat) (rs : List (List Str)) : SR → SR
  | .nx e2 => goG gs body fg rs (e2.clr fg)
  | .ct e2 => goG gs body fg rs (e2.clr fg)
  | .bk e2 => .nx e2
  | r => r
def goO (gs : List Tg) (body : Sv) (fg : List Nat) (rs : List (List Str)) : Option Env → SR
  | none => .fail
  | some e1 => goK gs body fg rs (body e1)
@[simp] theorem goG_cons {gs : List Tg} {body : Sv} {fg : List Nat} {r : List Str} {rs : List (List Str)} {e : Env} : goG gs body fg (r :: rs) e = goO gs body fg rs (tgL gs (r.map D.str) e) := by
  show (match tgL gs (r.map D.str) e with
    | none => SR.fail
    | some e1 => match body e1 with
      | .nx e2 => goG gs body fg rs (e2.clr fg)
      | .ct e2 => goG gs body fg rs (e2.clr fg)
      | .bk e2 => .nx e2
      | r => r) = _
  unfold goO goK
  rfl
@[simp] theorem goO_some {gs : List Tg} {body : Sv} {fg : List Nat} {rs : List (List Str)} {e : Env} : goO gs body fg rs (some e) = goK gs body fg rs (body e) := rfl
@[simp] theorem goK_nx {gs : List Tg} {body : Sv} {fg : List Nat} {rs : List (List Str)} {e : Env} : goK gs body fg rs (.nx e) = goG gs body fg rs (e.clr fg) := rfl
@[simp] theorem goK_rt {gs : List Tg} {body : Sv} {fg : List Nat} {rs : List (List Str)} {e : Env} {w : W} : goK gs body fg rs (.rt w e) = .rt w e := rfl
def nxD (i : Nat) : SR → SR
  | .nx e1 => (match frzD i e1 with | some e2 => .nx e2 | none => .fail)
  | r => r
@[simp] theorem sThenD_ev {i : Nat} {f : Sv} : sThenD i f e = nxD i (f e) := by
  unfold sThenD nxD
  cases f e <;> rfl
end
end Dl
namespace Tp
open PySem L2 Dl Tp.Tx
abbrev rdO (C : Cs) (z : Str) (a n : Nat) : Cell := .obj C.DocumentReader [("text", .d (.str z)), ("at", .d (.int a)), ("node_count", .d (.int n)), ("opened", .loc 1)]
def rdR (rs : List Cell) (x : Option Cell) : List (Option Cell) := rs.map some ++ (List.replicate (128 - rs.length) none ++ [x])
structure RsOk (rs : List Cell) : Prop where
  lo : 1 ≤ rs.length
  hi : rs.length ≤ 125
  inn : rs.all (Cell.inn (rs.length + 1)) = true
theorem rep_none (k : Nat) (hk : 0 < k) (t : List (Option Cell)) : leadC (List.replicate k none ++ t) = [] := by
  cases k with
  | zero => omega
  | succ k => rfl
theorem rdR_lead {rs : List Cell} (h : RsOk rs) (x : Option Cell) : leadC (rdR rs x) = rs := lead_app (rep_none _ (by have := h.hi; omega) _)
theorem leadR {rs : List Cell} (h : RsOk rs) (c : Cell) (x : Option Cell) : leadC (some c :: rdR rs x) = c :: rs := by
  show c :: leadC (rdR rs x) = _
  rw [rdR_lead h]
theorem dropR {rs : List Cell} (c : Cell) (x : Option Cell) : (some c :: rdR rs x).drop (rs.length + 1) = List.replicate (128 - rs.length) none ++ [x] := by
  rw [List.drop_succ_cons]
  unfold rdR
  rw [List.drop_append, List.length_map, List.drop_eq_nil_of_le (by rw [List.length_map]; omega), Nat.sub_self]
  rfl
theorem env0R {N : Nat} {ws : List W} {c : Cell} {rs : List Cell} (h : RsOk rs) : env0 N 130 ws (c :: rs) = ⟨ws.map some ++ List.replicate (N - ws.length) none, some c :: rdR rs none, rs.length + 1⟩ := by
  unfold env0 rdR
  have e : 130 - (c :: rs).length = 128 - rs.length + 1 := by rw [List.length_cons]; have := h.hi; omega
  rw [e, List.replicate_succ']
  rfl
theorem takeC_map (cs : List Cell) (t : List (Option Cell)) : takeC cs.length (cs.map some ++ t) = some cs := by
  induction cs with
  | nil => rfl
  | cons c cs ih =>
    show takeC (cs.length + 1) (some c :: (cs.map some ++ t)) = _
    unfold takeC
    rw [ih]
def EndR (rs : List Cell) (q : CR) : SR → Prop
  | .rt w e => ∃ c x, q = .ok w (c :: rs) ∧ e.M = some c :: rdR rs x
  | .nx e => ∃ c x, q = .ok (.d .non) (c :: rs) ∧ e.M = some c :: rdR rs x
  | .exn y e => ∃ c x, q = .exn y (c :: rs) ∧ e.M = some c :: rdR rs x
  | _ => False
theorem rt_end {rs : List Cell} {q : CR} {w : W} {sl : List (Option W)} {c : Cell} {x : Option Cell} {np : Nat} (h : q = .ok w (c :: rs)) : EndR rs q (.rt w ⟨sl, some c :: rdR rs x, np⟩) := ⟨c, x, h, rfl⟩
theorem nx_end {rs : List Cell} {q : CR} {sl : List (Option W)} {c : Cell} {x : Option Cell} {np : Nat} (h : q = .ok (.d .non) (c :: rs)) : EndR rs q (.nx ⟨sl, some c :: rdR rs x, np⟩) := ⟨c, x, h, rfl⟩
theorem exn_end {rs : List Cell} {q : CR} {y : Xn} {sl : List (Option W)} {c : Cell} {x : Option Cell} {np : Nat} (h : q = .exn y (c :: rs)) : EndR rs q (.exn y ⟨sl, some c :: rdR rs x, np⟩) := ⟨c, x, h, rfl⟩
theorem rdR_inj {rs : List Cell} {c c' : Cell} {x x' : Option Cell} (h : some c :: rdR rs x = some c' :: rdR rs x') : c = c' := by
  injection h with h1 h2
  exact Option.some.inj h1
@[simp] theorem EndR_rt {rs : List Cell} {q : CR} {w : W} {sl : List (Option W)} {c : Cell} {x : Option Cell} {np : Nat} : EndR rs q (.rt w ⟨sl, some c :: rdR rs x, np⟩) ↔ q = .ok w (c :: rs) :=
  ⟨fun ⟨c', x', h, e⟩ => by rw [h, rdR_inj e], rt_end⟩
@[simp] theorem EndR_nx {rs : List Cell} {q : CR} {sl : List (Option W)} {c : Cell} {x : Option Cell} {np : Nat} : EndR rs q (.nx ⟨sl, some c :: rdR rs x, np⟩) ↔ q = .ok (.d .non) (c :: rs) :=
  ⟨fun ⟨c', x', h, e⟩ => by rw [h, rdR_inj e], nx_end⟩
@[simp] theorem EndR_exn {rs : List Cell} {q : CR} {y : Xn} {sl : List (Option W)} {c : Cell} {x : Option Cell} {np : Nat} : EndR rs q (.exn y ⟨sl, some c :: rdR rs x, np⟩) ↔ q = .exn y (c :: rs) :=
  ⟨fun ⟨c', x', h, e⟩ => by rw [h, rdR_inj e], exn_end⟩
theorem takeR {rs : List Cell} (c : Cell) (x : Option Cell) (n : Nat) (hn : n = rs.length + 1) : takeC n (some c :: rdR rs x) = some (c :: rs) := by
  subst hn
  exact takeC_map (c :: rs) _
theorem mkR {N : Nat} {f : Sv} {ws : List W} {c : Cell} {rs : List Cell} {q : CR} (h : RsOk rs) (hf : EndR rs q (f ⟨ws.map some ++ List.replicate (N - ws.length) none, some c :: rdR rs none, rs.length + 1⟩)) : mkF N 130 0 f ws (c :: rs) = q := by
  unfold mkF
  rw [env0R h]
  cases hr : f ⟨ws.map some ++ List.replicate (N - ws.length) none, some c :: rdR rs none, rs.length + 1⟩ with
  | rt w e =>
    rw [hr] at hf
    obtain ⟨c', x, e1, e2⟩ := hf
    simp only
    rw [e2, takeR c' x _ (by simp), e1]
  | nx e =>
    rw [hr] at hf
    obtain ⟨c', x, e1, e2⟩ := hf
    simp only
    rw [e2, takeR c' x _ (by simp), e1]
  | exn y e =>
    rw [hr] at hf
    obtain ⟨c', x, e1, e2⟩ := hf
    simp only
    rw [e2, takeR c' x _ (by simp), e1]
  | bk e => rw [hr] at hf; exact hf.elim
  | ct e => rw [hr] at hf; exact hf.elim
  | fail => rw [hr] at hf; exact hf.elim
section
variable {C : Cs} {F : Fd} {ws : List W} {sl : List (Option W)} {np : Nat} {z : Str} {a n a' n' : Nat} {rs : List Cell} {x : Option Cell} {w : W}
theorem inn_rdO (h : RsOk rs) : Cell.inn (rs.length + 1) (rdO C z a n) = true := by
  have := h.lo
  show (([("text", .d (.str z)), ("at", .d (.int a)), ("node_count", .d (.int n)), ("opened", .loc 1)] : List (Str × W)).all fun f => locIn (rs.length + 1) f.2) = true
  simp [locIn]
  omega
theorem runL_ok (h : RsOk rs) (hF : F ws (rdO C z a n :: rs) = .ok w (rdO C z a' n' :: rs)) (hws : ws.all (locIn 2) = true) (hw : locIn 2 w = true) :
    runL F ws ⟨sl, some (rdO C z a n) :: rdR rs x, np⟩ = .ok w ⟨sl, some (rdO C z a' n') :: rdR rs x, np⟩ := by
  have lo := h.lo
  have up : ∀ y : W, locIn 2 y = true → locIn (rs.length + 1) y = true := fun y hy => by
    cases y with
    | d x => rfl
    | loc k =>
      have := of_decide_eq_true (show decide (k < 2) = true from hy)
      exact decide_eq_true (by omega)
  have h1 : ws.all (locIn (rs.length + 1)) = true := List.all_eq_true.mpr fun y hy => up y (List.all_eq_true.mp hws y hy)
  have h2 : ∀ a n, (rdO C z a n :: rs).all (Cell.inn (rs.length + 1)) = true := fun a n => by rw [List.all_cons, inn_rdO h, h.inn]; rfl
  unfold runL
  simp only [leadR h, List.length_cons]
  rw [h2 a n, h1, hF]
  simp only [List.length_cons]
  rw [h2 a' n', up w hw, dropR]
  simp [rdR]
theorem runL_exn {y : Xn} (h : RsOk rs) (hF : F ws (rdO C z a n :: rs) = .exn y (rdO C z a' n' :: rs)) (hws : ws.all (locIn 2) = true) :
    runL F ws ⟨sl, some (rdO C z a n) :: rdR rs x, np⟩ = .exn y ⟨sl, some (rdO C z a' n') :: rdR rs x, np⟩ := by
  have lo := h.lo
  have up : ∀ y : W, locIn 2 y = true → locIn (rs.length + 1) y = true := fun y hy => by
    cases y with
    | d x => rfl
    | loc k =>
      have := of_decide_eq_true (show decide (k < 2) = true from hy)
      exact decide_eq_true (by omega)
  have h1 : ws.all (locIn (rs.length + 1)) = true := List.all_eq_true.mpr fun y hy => up y (List.all_eq_true.mp hws y hy)
  have h2 : ∀ a n, (rdO C z a n :: rs).all (Cell.inn (rs.length + 1)) = true := fun a n => by rw [List.all_cons, inn_rdO h, h.inn]; rfl
  unfold runL
  simp only [leadR h, List.length_cons]
  rw [h2 a n, h1, hF]
  simp only [List.length_cons]
  rw [h2 a' n', dropR]
  simp [rdR]
end
def lineI (z : Str) (p : Nat) : Int := Txt.count (cutS z none (some (p : Int))) "\n" + 1
def colI (z : Str) (p : Nat) : Int := (p : Int) - (Txt.rfind (cutS z none (some (p : Int))) "\n" + 1) + 1
def xt (C : Cs) (z : Str) (p : Nat) (r : Str) : Xn := ⟨C.TextError, some [("reason", .str r), ("column", .int (colI z p)), ("line", .int (lineI z p))]⟩
section
variable (C : Cs) (z : Str) (hz : z.length ≤ 200000) {rs : List Cell} (h : RsOk rs) (a n : Nat)
include hz h
theorem rfail_ok (p : Nat) (r : Str) : F_DocumentReader_fail C [.loc 0, .d (.int p), .d (.str r)] (rdO C z a n :: rs) = .exn (xt C z p r) (rdO C z a n :: rs) := by
  unfold F_DocumentReader_fail
  refine mkR h ?_
  have hz2 : z.length ≤ 16777216 := by omega
  simp -implicitDefEqProofs [fb_DocumentReader_fail, xt, lineI, colI, lookup_if, hz2]
/-- the reader's fail, called -/
theorem fail_run (sl : List (Option W)) (x : Option Cell) (np p : Nat) (r : Str) : runL (F_DocumentReader_fail C) [.loc 0, .d (.int p), .d (.str r)] ⟨sl, some (rdO C z a n) :: rdR rs x, np⟩ = .exn (xt C z p r) ⟨sl, some (rdO C z a n) :: rdR rs x, np⟩ :=
  runL_exn h (rfail_ok C z hz h a n p r) rfl
/-- what look tells -/
def lookR (z : Str) (a : Nat) : Sum Nat Str := match (ch z).drop a with
  | [] => .inr "open"
  | c :: _ => if chOk c = true then .inl c else .inr "character"
def lookQ (C : Cs) (z : Str) (a n : Nat) (rs : List Cell) : Sum Nat Str → CR
  | .inl c => .ok (.d (.str ⟨#[c]⟩)) (rdO C z a n :: rs)
  | .inr r => .exn (xt C z a r) (rdO C z a n :: rs)
theorem look_ok (ha : a ≤ z.length) : F_DocumentReader_look C [.loc 0] (rdO C z a n :: rs) = lookQ C z a n rs (lookR z a) := by
  unfold F_DocumentReader_look
  refine mkR h ?_
  have hz2 : z.length ≤ 16777216 := by omega
  have hf := fail_run C z hz h a n
  unfold lookR
  cases hd : (ch z).drop a with
  | nil =>
    have hge := drop_ge hd
    have hq : ((z.length : Int) ≤ a) := by omega
    simp -implicitDefEqProofs [fb_DocumentReader_look, lookQ, lookup_if, hasNo_if, sizeL, hz2, hq, hf]
  | cons c r =>
    have hlt := drop_lt hd
    have hq : ¬ ((z.length : Int) ≤ a) := by omega
    have hat := atI_nat (drop_at hd)
    have hat : atI z.cps.toList (a : Int) = some c := hat
    have hc := is_character_ok C c
    cases hk : chOk c with
    | true =>
      rw [hk] at hc
      simp -implicitDefEqProofs [fb_DocumentReader_look, lookQ, lookup_if, hasNo_if, sizeL, hz2, hq, hf, hat, hc, hk]
    | false =>
      rw [hk] at hc
      simp -implicitDefEqProofs [fb_DocumentReader_look, lookQ, lookup_if, hasNo_if, sizeL, hz2, hq, hf, hat, hc, hk]
/-- the reader's look, called -/
theorem look_run (ha : a ≤ z.length) (sl : List (Option W)) (x : Option Cell) (np : Nat) : runL (F_DocumentReader_look C) [.loc 0] ⟨sl, some (rdO C z a n) :: rdR rs x, np⟩ = (match lookR z a with
    | .inl c => .ok (.d (.str ⟨#[c]⟩)) ⟨sl, some (rdO C z a n) :: rdR rs x, np⟩
    | .inr r => .exn (xt C z a r) ⟨sl, some (rdO C z a n) :: rdR rs x, np⟩) := by
  have e := look_ok C z hz h a n ha
  cases q : lookR z a with
  | inl c => rw [q] at e; exact runL_ok h e rfl rfl
  | inr r => rw [q] at e; exact runL_exn h e rfl
def takeQ (C : Cs) (z : Str) (a n : Nat) (rs : List Cell) (k : Nat) : Sum Nat Str → CR
  | .inl c => if c = k then .ok (.d (.bl true)) (rdO C z (a + 1) n :: rs) else .ok (.d (.bl false)) (rdO C z a n :: rs)
  | .inr r => .exn (xt C z a r) (rdO C z a n :: rs)
omit hz h in
theorem one_one (c k : Nat) : ((⟨#[c]⟩ : Str) == ⟨#[k]⟩) = decide (c = k) := by
  rw [Bool.eq_iff_iff, beq_iff_eq, decide_eq_true_iff]
  simp
theorem takeif_ok (ha : a ≤ z.length) (k : Nat) : F_DocumentReader_take_if C [.loc 0, .d (.str ⟨#[k]⟩)] (rdO C z a n :: rs) = takeQ C z a n rs k (lookR z a) := by
  unfold F_DocumentReader_take_if
  refine mkR h ?_
  have hl := look_run C z hz h a n ha
  cases q : lookR z a with
  | inr r =>
    simp only [q] at hl
    simp -implicitDefEqProofs [fb_DocumentReader_take_if, takeQ, lookup_if, hasNo_if, hl]
  | inl c =>
    simp only [q] at hl
    by_cases hc : c = k
    · have hb : ((⟨#[c]⟩ : Str) == ⟨#[k]⟩) = true := by rw [one_one, decide_eq_true hc]
      simp -implicitDefEqProofs [fb_DocumentReader_take_if, takeQ, lookup_if, hasNo_if, hl, hb, hc]
    · have hb : ((⟨#[c]⟩ : Str) == ⟨#[k]⟩) = false := by rw [one_one, decide_eq_false hc]
      simp -implicitDefEqProofs [fb_DocumentReader_take_if, takeQ, lookup_if, hasNo_if, hl, hb, hc]
theorem take_run (ha : a ≤ z.length) (k : Nat) (sl : List (Option W)) (x : Option Cell) (np : Nat) : runL (F_DocumentReader_take_if C) [.loc 0, .d (.str ⟨#[k]⟩)] ⟨sl, some (rdO C z a n) :: rdR rs x, np⟩ = (match lookR z a with
    | .inl c => if c = k then .ok (.d (.bl true)) ⟨sl, some (rdO C z (a + 1 : Nat) n) :: rdR rs x, np⟩ else .ok (.d (.bl false)) ⟨sl, some (rdO C z a n) :: rdR rs x, np⟩
    | .inr r => .exn (xt C z a r) ⟨sl, some (rdO C z a n) :: rdR rs x, np⟩) := by
  have e := takeif_ok C z hz h a n ha k
  cases q : lookR z a with
  | inl c =>
    rw [q] at e
    unfold takeQ at e
    dsimp only at e ⊢
    by_cases hc : c = k
    · rw [if_pos hc] at e ⊢; exact runL_ok h e rfl rfl
    · rw [if_neg hc] at e ⊢; exact runL_ok h e rfl rfl
  | inr r => rw [q] at e; exact runL_exn h e rfl
def isLt (c : Nat) : Bool := decide (97 ≤ c) && decide (c ≤ 122)
def nameW (z : Str) (a : Nat) : Str := ⟨(((ch z).drop a).takeWhile isLt).toArray⟩
def nameQ (C : Cs) (z : Str) (a n : Nat) (rs : List Cell) : Sum Nat Str → CR
  | .inl c => if isLt c = true then (if tw isLt z a ≤ 12 then .ok (.d (.str (nameW z a))) (rdO C z (a + tw isLt z a) n :: rs) else .exn (xt C z a "name") (rdO C z (a + tw isLt z a) n :: rs)) else .exn (xt C z a "name") (rdO C z a n :: rs)
  | .inr r => .exn (xt C z a r) (rdO C z a n :: rs)
omit hz h in
theorem lt_in (c : Nat) : strIn ⟨#[c]⟩ "abcdefghijklmnopqrstuvwxyz" = isLt c := letter_in c
theorem name_w1 (a0 : Nat) (np : Nat) : fb_DocumentReader_name_w1 C (E_DocumentReader_name (x_self := some (.loc 0)) (x_start := some (.d (.int a0))) (c0 := some (rdO C z a n)) (rest := rdR rs none) (np := np)) = .nx (E_DocumentReader_name (x_self := some (.loc 0)) (x_start := some (.d (.int a0))) (c0 := some (rdO C z (a + tw isLt z a : Nat) n)) (rest := rdR rs none) (np := np)) := by
  have hz2 : z.length ≤ 16777216 := by omega
  unfold fb_DocumentReader_name_w1
  refine while_i (S := Nat) (fun b => E_DocumentReader_name (x_self := some (.loc 0)) (x_start := some (.d (.int a0))) (c0 := some (rdO C z b n)) (rest := rdR rs none) (np := np)) (fun b => b + tw isLt z b = a + tw isLt z a) (fun b => tw isLt z b)
    (fun r => r = .nx (E_DocumentReader_name (x_self := some (.loc 0)) (x_start := some (.d (.int a0))) (c0 := some (rdO C z (a + tw isLt z a : Nat) n)) (rest := rdR rs none) (np := np))) a rfl (by have := tw_le isLt z a; show tw isLt z a < 1000000; omega) ?_
  intro b hb
  cases hd : (ch z).drop b with
  | nil =>
    right; left
    rw [tw_nil hd] at hb
    have hge := drop_ge hd
    have hq : ¬ ((b : Int) < z.length) := by omega
    refine ⟨_, ?_, rfl⟩
    simp -implicitDefEqProofs [hasNo_if, lookup_if, sizeL, hz2, hq]
    omega
  | cons c r =>
    have hlt := drop_lt hd
    have hq : ((b : Int) < z.length) := by omega
    have hat := atI_nat (drop_at hd)
    have hat : atI z.cps.toList (b : Int) = some c := hat
    have hi := lt_in c
    cases hp : isLt c with
    | true =>
      left
      have t1 := tw_t hd hp
      refine ⟨b + 1, ?_, by omega, by omega⟩
      simp -implicitDefEqProofs [hasNo_if, lookup_if, inB, hi, hp, fb_DocumentReader_name_w1b, sizeL, hz2, hq, hat]
    | false =>
      right; left
      rw [tw_f hd hp] at hb
      refine ⟨_, ?_, rfl⟩
      simp -implicitDefEqProofs [hasNo_if, lookup_if, inB, hi, hp, sizeL, hz2, hq, hat]
      omega
theorem name_ok (ha : a ≤ z.length) : F_DocumentReader_name C [.loc 0] (rdO C z a n :: rs) = nameQ C z a n rs (lookR z a) := by
  unfold F_DocumentReader_name
  refine mkR h ?_
  have hz2 : z.length ≤ 16777216 := by omega
  have hl := look_run C z hz h a n ha
  have hf := fail_run C z hz h
  cases q : lookR z a with
  | inr r =>
    simp only [q] at hl
    simp -implicitDefEqProofs [fb_DocumentReader_name, nameQ, lookup_if, hasNo_if, hl]
  | inl c =>
    simp only [q] at hl
    have hi := lt_in c
    cases hp : isLt c with
    | false => simp -implicitDefEqProofs [fb_DocumentReader_name, nameQ, lookup_if, hasNo_if, inB, notInB, hl, hi, hp, hf]
    | true =>
      have hw := name_w1 C z hz h a n a (rs.length + 1)
      simp -implicitDefEqProofs at hw
      have hcut : cutS z (some (a : Int)) (some ((a : Int) + (tw isLt z a : Nat))) = nameW z a := by
        have e := tw_cut isLt z a
        rw [Int.natCast_add] at e
        exact e
      have hsub : ((a : Int) + (tw isLt z a : Nat) - a) = (tw isLt z a : Nat) := by omega
      have hf2 := hf (a + tw isLt z a) n
      by_cases h12 : tw isLt z a ≤ 12
      · have h13 : ¬ ((12 : Int) < (tw isLt z a : Nat)) := by omega
        simp -implicitDefEqProofs [fb_DocumentReader_name, nameQ, lookup_if, hasNo_if, inB, notInB, hl, hi, hp, hw, hsub, h12, h13, hz2, hcut]
      · have h13 : ((12 : Int) < (tw isLt z a : Nat)) := by omega
        simp -implicitDefEqProofs [fb_DocumentReader_name, nameQ, lookup_if, hasNo_if, inB, notInB, hl, hi, hp, hw, hsub, h12, h13, hz2, hf2]
theorem name_run (ha : a ≤ z.length) (sl : List (Option W)) (x : Option Cell) (np : Nat) : runL (F_DocumentReader_name C) [.loc 0] ⟨sl, some (rdO C z a n) :: rdR rs x, np⟩ = (match lookR z a with
    | .inl c => if isLt c = true then (if tw isLt z a ≤ 12 then .ok (.d (.str (nameW z a))) ⟨sl, some (rdO C z (a + tw isLt z a : Nat) n) :: rdR rs x, np⟩ else .exn (xt C z a "name") ⟨sl, some (rdO C z (a + tw isLt z a : Nat) n) :: rdR rs x, np⟩) else .exn (xt C z a "name") ⟨sl, some (rdO C z a n) :: rdR rs x, np⟩
    | .inr r => .exn (xt C z a r) ⟨sl, some (rdO C z a n) :: rdR rs x, np⟩) := by
  have e := name_ok C z hz h a n ha
  cases q : lookR z a with
  | inl c =>
    rw [q] at e
    unfold nameQ at e
    dsimp only at e ⊢
    by_cases hc : isLt c = true
    · rw [if_pos hc] at e ⊢
      by_cases h12 : tw isLt z a ≤ 12
      · rw [if_pos h12] at e ⊢; exact runL_ok h e rfl rfl
      · rw [if_neg h12] at e ⊢; exact runL_exn h e rfl
    · rw [if_neg hc] at e ⊢; exact runL_exn h e rfl
  | inr r => rw [q] at e; exact runL_exn h e rfl
def nodeQ (C : Cs) (z : Str) (a n : Nat) (rs : List Cell) (p : Nat) (d : Int) : CR :=
  if 60 < d then .exn (xt C z p "deep") (rdO C z a n :: rs) else if 5000 < n + 1 then .exn (xt C z p "many") (rdO C z a (n + 1) :: rs) else .ok (.d .non) (rdO C z a (n + 1) :: rs)
theorem node_ok (p : Nat) (d : Int) : F_DocumentReader_new_node C [.loc 0, .d (.int p), .d (.int d)] (rdO C z a n :: rs) = nodeQ C z a n rs p d := by
  unfold F_DocumentReader_new_node
  refine mkR h ?_
  have hf := fail_run C z hz h a
  have hf2 : ∀ (sl : List (Option W)) (x : Option Cell) (np p : Nat) (r : Str), runL (F_DocumentReader_fail C) [.loc 0, .d (.int p), .d (.str r)] ⟨sl, some (.obj C.DocumentReader [("text", .d (.str z)), ("at", .d (.int a)), ("node_count", .d (.int ((n : Int) + 1))), ("opened", .loc 1)]) :: rdR rs x, np⟩ = .exn (xt C z p r) ⟨sl, some (rdO C z a (n + 1)) :: rdR rs x, np⟩ := hf (n + 1)
  unfold nodeQ
  by_cases h1 : 60 < d
  · simp -implicitDefEqProofs [fb_DocumentReader_new_node, lookup_if, hasNo_if, h1, hf]
  · by_cases h2 : 5000 < n + 1
    · have h3 : (5000 : Int) < (n : Int) + 1 := by omega
      simp -implicitDefEqProofs [fb_DocumentReader_new_node, lookup_if, hasNo_if, h1, h2, h3, hf2]
    · have h3 : ¬ (5000 : Int) < (n : Int) + 1 := by omega
      simp -implicitDefEqProofs [fb_DocumentReader_new_node, lookup_if, hasNo_if, h1, h2, h3]
theorem node_run (p : Nat) (d : Int) (sl : List (Option W)) (x : Option Cell) (np : Nat) : runL (F_DocumentReader_new_node C) [.loc 0, .d (.int p), .d (.int d)] ⟨sl, some (rdO C z a n) :: rdR rs x, np⟩ =
    if 60 < d then .exn (xt C z p "deep") ⟨sl, some (rdO C z a n) :: rdR rs x, np⟩ else if 5000 < n + 1 then .exn (xt C z p "many") ⟨sl, some (rdO C z a (n + 1 : Nat)) :: rdR rs x, np⟩ else .ok (.d .non) ⟨sl, some (rdO C z a (n + 1 : Nat)) :: rdR rs x, np⟩ := by
  have e := node_ok C z hz h a n p d
  unfold nodeQ at e
  by_cases h1 : 60 < d
  · rw [if_pos h1] at e ⊢; exact runL_exn h e rfl
  · rw [if_neg h1] at e ⊢
    by_cases h2 : 5000 < n + 1
    · rw [if_pos h2] at e ⊢; exact runL_exn h e rfl
    · rw [if_neg h2] at e ⊢; exact runL_ok h e rfl rfl
omit hz h in
def hasP (z : Str) (a : Nat) (w : Str) : Bool := cutS z (some (a : Int)) (some ((a : Int) + (w.length : Nat))) == w
def entR (z : Str) (a : Nat) : Option (Nat × Nat) := if hasP z a "&lt;" = true then some (60, 4) else if hasP z a "&gt;" = true then some (62, 4) else if hasP z a "&amp;" = true then some (38, 5) else none
def signR (z : Str) (a : Nat) : Sum (Nat × Nat) Str := match lookR z a with
  | .inr r => .inr r
  | .inl c => if c = 62 then .inr "sign" else if c ≠ 38 then .inl (c, 1) else match entR z a with
    | some q => .inl q
    | none => .inr "sign"
def signQ (C : Cs) (z : Str) (a n : Nat) (rs : List Cell) : Sum (Nat × Nat) Str → CR
  | .inl (c, k) => .ok (.d (.str ⟨#[c]⟩)) (rdO C z (a + k) n :: rs)
  | .inr r => .exn (xt C z a r) (rdO C z a n :: rs)
theorem sign_ok (ha : a ≤ z.length) : F_DocumentReader_sign C [.loc 0] (rdO C z a n :: rs) = signQ C z a n rs (signR z a) := by
  unfold F_DocumentReader_sign
  refine mkR h ?_
  have hz2 : z.length ≤ 16777216 := by omega
  have hl := look_run C z hz h a n ha
  have hf := fail_run C z hz h a n
  have l1 : (("&lt;" : Str).length) = 4 := by decide +kernel
  have l2 : (("&gt;" : Str).length) = 4 := by decide +kernel
  have l3 : (("&amp;" : Str).length) = 5 := by decide +kernel
  have g1 : (">" : Str) = ⟨#[62]⟩ := by decide +kernel
  have g2 : ("&" : Str) = ⟨#[38]⟩ := by decide +kernel
  have g3 : ("<" : Str) = ⟨#[60]⟩ := by decide +kernel
  unfold signR
  cases q : lookR z a with
  | inr r =>
    simp only [q] at hl
    simp -implicitDefEqProofs [fb_DocumentReader_sign, signQ, lookup_if, hasNo_if, hl]
  | inl c =>
    simp only [q] at hl
    have hb1 : ((⟨#[c]⟩ : Str) == ">") = decide (c = 62) := by rw [g1, one_one]
    have hb2 : ((⟨#[c]⟩ : Str) == "&") = decide (c = 38) := by rw [g2, one_one]
    by_cases h1 : c = 62
    · rw [decide_eq_true h1] at hb1
      subst h1
      simp -implicitDefEqProofs [fb_DocumentReader_sign, signQ, lookup_if, hasNo_if, hl, g1, hf]
    · rw [decide_eq_false h1] at hb1
      by_cases h2 : c = 38
      · rw [decide_eq_true h2] at hb2
        have hp1 : (cutS z (some (a : Int)) (some ((a : Int) + 4)) == "&lt;") = hasP z a "&lt;" := by unfold hasP; rw [l1]; rfl
        have hp2 : (cutS z (some (a : Int)) (some ((a : Int) + 4)) == "&gt;") = hasP z a "&gt;" := by unfold hasP; rw [l2]; rfl
        have hp3 : (cutS z (some (a : Int)) (some ((a : Int) + 5)) == "&amp;") = hasP z a "&amp;" := by unfold hasP; rw [l3]; rfl
        subst h2
        unfold entR
        cases e1 : hasP z a "&lt;" with
        | true =>
          rw [e1] at hp1
          simp -implicitDefEqProofs [fb_DocumentReader_sign, fb_DocumentReader_sign_l1, fb_DocumentReader_sign_l1b, sForG, signQ, lookup_if, hasNo_if, hl, hb1, hb2, hf, hz2, sizeL, l1, hp1, g3]
        | false =>
          rw [e1] at hp1
          cases e2 : hasP z a "&gt;" with
          | true =>
            rw [e2] at hp2
            simp -implicitDefEqProofs [fb_DocumentReader_sign, fb_DocumentReader_sign_l1, fb_DocumentReader_sign_l1b, sForG, signQ, lookup_if, hasNo_if, hl, hb1, hb2, hf, hz2, sizeL, l1, l2, hp1, hp2, g1]
          | false =>
            rw [e2] at hp2
            cases e3 : hasP z a "&amp;" with
            | true =>
              rw [e3] at hp3
              simp -implicitDefEqProofs [fb_DocumentReader_sign, fb_DocumentReader_sign_l1, fb_DocumentReader_sign_l1b, sForG, signQ, lookup_if, hasNo_if, hl, hb1, hb2, hf, hz2, sizeL, l1, l2, l3, hp1, hp2, hp3, g2]
            | false =>
              rw [e3] at hp3
              simp -implicitDefEqProofs [fb_DocumentReader_sign, fb_DocumentReader_sign_l1, fb_DocumentReader_sign_l1b, sForG, signQ, lookup_if, hasNo_if, hl, hb1, hb2, hf, hz2, sizeL, l1, l2, l3, hp1, hp2, hp3]
      · rw [decide_eq_false h2] at hb2
        have hat : atI z.cps.toList (a : Int) = some c := by
          unfold lookR at q
          cases hd : (ch z).drop a with
          | nil => rw [hd] at q; cases q
          | cons c' r =>
            rw [hd] at q
            dsimp only at q
            split at q
            · cases q; exact atI_nat (drop_at hd)
            · cases q
        have hs : ((a : Int) + 1 - 1) = a := by omega
        simp -implicitDefEqProofs [fb_DocumentReader_sign, signQ, lookup_if, hasNo_if, hl, hb1, hb2, h1, h2, hs, hat, hz2]
end
end Tp
end
section
set_option Elab.async false
set_option linter.all false
set_option maxRecDepth 100000
set_option maxHeartbeats 8000000
namespace Tp
open PySem L2 Dl Tp.Tx
def nl (l : List Nat) : Nat := l.count 10
/-- the signs behind the last newline -/
def lc (l : List Nat) : Nat := (l.reverse.takeWhile fun c => c != 10).length
theorem cnt_count : ∀ l : List Nat, PyProof.Rows.cnt 10 l = (nl l : Nat)
  | [] => rfl
  | c :: l => by
    rw [PyProof.Rows.cnt_cons, cnt_count l]
    unfold nl
    rw [List.count_cons]
    by_cases h : c = 10
    · simp [h]; omega
    · simp [h]
theorem cut_to (z : Str) (p : Nat) : ch (cutS z none (some (p : Int))) = (ch z).take p := by
  rw [cutS_cut, ch_mk, cutL_to]
theorem nl_str : ("\n" : Str) = ⟨#[10]⟩ := by decide +kernel
theorem lineI_eq (z : Str) (p : Nat) : lineI z p = (nl ((ch z).take p) : Nat) + 1 := by
  unfold lineI
  rw [nl_str, show Txt.count (cutS z none (some (p : Int))) ⟨#[10]⟩ = PyProof.Rows.cnt 10 (cutS z none (some (p : Int))).cps.toList from PyProof.Rows.count_is _ _]
  have e : (cutS z none (some (p : Int))).cps.toList = (ch z).take p := cut_to z p
  rw [e, cnt_count]
theorem lc_free {l : List Nat} (h : 10 ∉ l) : lc l = l.length := by
  unfold lc
  have : l.reverse.takeWhile (fun c => c != 10) = l.reverse := by
    have key : ∀ m : List Nat, 10 ∉ m → m.takeWhile (fun c => c != 10) = m := by
      intro m
      induction m with
      | nil => intro _; rfl
      | cons c m ih =>
        intro hm
        have hc : c ≠ 10 := fun e => hm (by rw [e]; exact List.mem_cons_self ..)
        have hb : (c != 10) = true := by simp [hc]
        rw [List.takeWhile_cons, hb, if_pos rfl, ih fun z => hm (List.mem_cons_of_mem _ z)]
    exact key _ (by simpa using h)
  rw [this, List.length_reverse]
theorem lc_app {a b : List Nat} (h : 10 ∉ b) : lc (a ++ 10 :: b) = b.length := by
  unfold lc
  have key : ∀ m r : List Nat, 10 ∉ m → ((m ++ 10 :: r).takeWhile (fun c => c != 10)).length = m.length := by
    intro m r
    induction m with
    | nil => intro _; rfl
    | cons c m ih =>
      intro hm
      have hc : c ≠ 10 := fun e => hm (by rw [e]; exact List.mem_cons_self ..)
      have hb : (c != 10) = true := by simp [hc]
      rw [List.cons_append, List.takeWhile_cons, hb, if_pos rfl, List.length_cons, ih fun z => hm (List.mem_cons_of_mem _ z), List.length_cons]
  have e : (a ++ 10 :: b).reverse = b.reverse ++ 10 :: a.reverse := by simp
  rw [e, key _ _ (by simpa using h), List.length_reverse]
theorem colI_eq {z : Str} {p : Nat} (hp : p ≤ z.length) : colI z p = (lc ((ch z).take p) : Nat) + 1 := by
  unfold colI
  have e : (cutS z none (some (p : Int))).cps.toList = (ch z).take p := cut_to z p
  have hl : (cutS z none (some (p : Int))).length = p := by rw [← ch_len, cut_to, List.length_take, ch_len]; omega
  have hlt : ((ch z).take p).length = p := by rw [List.length_take, ch_len]; omega
  generalize cutS z none (some (p : Int)) = x at e hl
  rw [nl_str]
  have at_ : ∀ i, PySem.StrLaws.At x ⟨#[10]⟩ x.length i ↔ ((ch z).take p)[i]? = some 10 := fun i => by
    rw [← e]; exact PySem.StrLaws.subAt_one x 10 i
  generalize (ch z).take p = l at hlt at_
  rcases PyProof.Rows.rfind_whole x ⟨#[10]⟩ with ⟨h1, h2⟩ | ⟨i, h1, h2, h3⟩
  · rw [h1]
    have hn : 10 ∉ l := fun hm => by
      obtain ⟨j, hj⟩ := List.getElem?_of_mem hm
      exact h2 j ((at_ j).mpr hj)
    rw [lc_free hn, hlt]
    omega
  · rw [h1]
    have hi := (at_ i).mp h2
    have hil : i < l.length := (List.getElem?_eq_some_iff.mp hi).1
    have hsp : l = l.take i ++ 10 :: l.drop (i + 1) := by
      conv => lhs; rw [← List.take_append_drop i l]
      rw [List.drop_eq_getElem_cons hil, (List.getElem?_eq_some_iff.mp hi).2]
    have hn : 10 ∉ l.drop (i + 1) := fun hm => by
      obtain ⟨j, hj⟩ := List.getElem?_of_mem hm
      rw [List.getElem?_drop] at hj
      exact h3 (i + 1 + j) (by omega) ((at_ _).mpr hj)
    rw [hsp, lc_app hn, List.length_drop]
    omega
end Tp
end
section
set_option Elab.async false
set_option linter.all false
set_option maxRecDepth 100000
set_option maxHeartbeats 8000000
namespace Tp
open PySem L2 Dl Tp.Tx
theorem lookR_eq (z : Str) (a : Nat) : lookR z a = lookL ((ch z).drop a) := by
  unfold lookR lookL
  cases (ch z).drop a <;> rfl
theorem hasP_eq {z w : Str} {a : Nat} : hasP z a w = decide (((ch z).drop a).take (ch w).length = ch w) := by
  unfold hasP
  rw [show ((a : Int) + (w.length : Nat)) = ((a + w.length : Nat) : Int) by omega, cutS_nat, show a + w.length - a = w.length by omega, ch_len, Bool.eq_iff_iff, beq_iff_eq, decide_eq_true_iff]
  constructor
  · intro h
    have := congrArg ch h
    rw [ch_mk] at this
    exact this
  · intro h
    apply ch_inj
    rw [ch_mk]
    exact h
theorem entR_eq (z : Str) (a : Nat) : entR z a = entL ((ch z).drop a) := by
  have c1 : ch "&lt;" = eLt := by decide +kernel
  have c2 : ch "&gt;" = eGt := by decide +kernel
  have c3 : ch "&amp;" = eAm := by decide +kernel
  unfold entR entL
  rw [hasP_eq, hasP_eq, hasP_eq, c1, c2, c3]
  all_goals (try simp only [decide_eq_true_eq])
  all_goals (try rfl)
theorem signR_eq (z : Str) (a : Nat) : signR z a = signL ((ch z).drop a) := by
  unfold signR signL
  rw [lookR_eq, entR_eq]
  all_goals (try (cases lookL ((ch z).drop a) <;> rfl))
theorem rdR_get {rs : List Cell} (h : RsOk rs) (x : Option Cell) : (rdR rs x)[128]? = some x := by
  have := h.hi
  unfold rdR
  rw [List.getElem?_append_right (by rw [List.length_map]; omega), List.length_map, List.getElem?_append_right (by rw [List.length_replicate]; exact Nat.le_refl _), List.length_replicate, Nat.sub_self]
  rfl
theorem rdR_set {rs : List Cell} (h : RsOk rs) (x y : Option Cell) : (rdR rs x).set 128 y = rdR rs y := by
  have := h.hi
  unfold rdR
  rw [List.set_append_right _ _ (by rw [List.length_map]; omega), List.length_map, List.set_append_right _ _ (by rw [List.length_replicate]; omega), List.length_replicate, Nat.sub_self]
  rfl
theorem inn_refs {n k : Nat} {c : Cell} (h : c.inn n = true) (hk : n ≤ k) : c.refs k = false := by
  have lw : ∀ w : W, locIn n w = true → isLoc k w = false := fun w hw => by
    cases w with
    | d x => rfl
    | loc j =>
      have := of_decide_eq_true (show decide (j < n) = true from hw)
      show (j == k) = false
      exact beq_false_of_ne (by omega)
  cases c with
  | obj C fs =>
    show fs.any _ = false
    rw [List.any_eq_false]
    intro f hf
    have := lw _ (List.all_eq_true.mp h f hf)
    simp [this]
  | lw us =>
    show us.any _ = false
    rw [List.any_eq_false]
    intro f hf
    have := lw _ (List.all_eq_true.mp h f hf)
    simp [this]
  | tw us =>
    show us.any _ = false
    rw [List.any_eq_false]
    intro f hf
    have := lw _ (List.all_eq_true.mp h f hf)
    simp [this]
  | _ => rfl
theorem open_at {rs : List Cell} (h : RsOk rs) {sl : List (Option W)} {c : Cell} {np k : Nat} (hs : ∀ w, some w ∈ sl → isLoc k w = false) (hc : c.refs k = false) (hk : rs.length + 1 ≤ k) (hk2 : k ≤ 129) (hnp : np ≤ k) : Env.open ⟨sl, some c :: rdR rs none, np⟩ k = true := by
  have hi := h.hi
  obtain ⟨j, rfl⟩ : ∃ j, k = j + 1 := ⟨k - 1, by omega⟩
  have hg : (some c :: rdR rs none)[j + 1]? = some none := by
    rw [List.getElem?_cons_succ]
    unfold rdR
    rw [List.getElem?_append_right (by rw [List.length_map]; omega), List.length_map]
    by_cases hj : j - rs.length < 128 - rs.length
    · rw [List.getElem?_append_left (by rw [List.length_replicate]; exact hj), List.getElem?_replicate, if_pos hj]
    · rw [List.getElem?_append_right (by rw [List.length_replicate]; omega), List.length_replicate, show j - rs.length - (128 - rs.length) = 0 by omega]
      rfl
  have hn : Env.noRef ⟨sl, some c :: rdR rs none, np⟩ (j + 1) = true := by
    unfold Env.noRef
    rw [Bool.and_eq_true]
    constructor
    · rw [List.all_eq_true]
      intro o ho
      cases o with
      | none => rfl
      | some w =>
        show (!isLoc (j + 1) w) = true
        rw [hs w ho]; rfl
    · rw [List.all_eq_true]
      intro o ho
      rcases List.mem_cons.mp ho with rfl | ho
      · show (!c.refs (j + 1)) = true
        rw [hc]; rfl
      · unfold rdR at ho
        rcases List.mem_append.mp ho with h1 | h1
        · obtain ⟨c', hc', rfl⟩ := List.mem_map.mp h1
          show (!c'.refs (j + 1)) = true
          rw [inn_refs (List.all_eq_true.mp h.inn c' hc') hk]
          rfl
        · rcases List.mem_append.mp h1 with h2 | h2
          · rw [(List.mem_replicate.mp h2).2]
          · rw [List.mem_singleton.mp h2]
  unfold Env.open
  rw [hg, hn, decide_eq_true hnp]
  rfl
def lsD (ls : List Nat) : List D := ls.map fun c => .str ⟨#[c]⟩
abbrev Est (C : Cs) (z : Str) (a0 b n : Nat) (rs : List Cell) (ls : List Nat) (np : Nat) : Dl.Env := E_DocumentReader_string (x_self := some (.loc 0)) (x_start := some (.d (.int a0))) (x_letters := some (.loc 129)) (c0 := some (rdO C z b n)) (rest := rdR rs (some (.lst (lsD ls)))) (np := np)
/-- how a loop of the reader ends -/
def EndL (C : Cs) (z : Str) (rs : List Cell) (np : Nat) (o : Sum Dl.Env (Nat × Str)) (r : SR) : Prop := match o with
  | .inl e => r = .nx e
  | .inr (p, s) => ∃ sl a' n' x, r = .exn (xt C z p s) ⟨sl, some (rdO C z a' n') :: rdR rs x, np⟩
section
variable (C : Cs) (z : Str) (hz : z.length ≤ 200000) {rs : List Cell} (h : RsOk rs) (a n : Nat)
include hz h
theorem sign_run (ha : a ≤ z.length) (sl : List (Option W)) (x : Option Cell) (np : Nat) : runL (F_DocumentReader_sign C) [.loc 0] ⟨sl, some (rdO C z a n) :: rdR rs x, np⟩ = (match signL ((ch z).drop a) with
    | .inl (c, k) => .ok (.d (.str ⟨#[c]⟩)) ⟨sl, some (rdO C z (a + k : Nat) n) :: rdR rs x, np⟩
    | .inr r => .exn (xt C z a r) ⟨sl, some (rdO C z a n) :: rdR rs x, np⟩) := by
  have e := sign_ok C z hz h a n ha
  rw [signR_eq] at e
  cases q : signL ((ch z).drop a) with
  | inl p =>
    obtain ⟨c, k⟩ := p
    rw [q] at e
    exact runL_ok h e rfl rfl
  | inr r => rw [q] at e; exact runL_exn h e rfl
theorem str_w1 (a0 b : Nat) (hb : b ≤ z.length) (ls : List Nat) (hls : 1 ≤ ls.length ∧ ls.length ≤ 200) (np f : Nat) (hf : z.length - b < f) : EndL C z rs np (match strG f ((ch z).drop b) b ls with | .inl (ls', b') => .inl (Est C z a0 b' n rs ls' np) | .inr e => .inr e) (fb_DocumentReader_string_w1 C (Est C z a0 b n rs ls np)) := by
  have hg := rdR_get h
  have hs := rdR_set h
  have hfl := fail_run C z hz h
  have h60 : ("<" : Str) = ⟨#[60]⟩ := by decide +kernel
  unfold fb_DocumentReader_string_w1
  refine while_i (S := Nat × List Nat × Nat) (fun s => Est C z a0 s.1 n rs s.2.1 np) (fun s => s.1 ≤ z.length ∧ 1 ≤ s.2.1.length ∧ s.2.1.length ≤ 200 ∧ z.length - s.1 < s.2.2 ∧ strG f ((ch z).drop b) b ls = strG s.2.2 ((ch z).drop s.1) s.1 s.2.1) (fun s => z.length - s.1)
    (fun r => EndL C z rs np (match strG f ((ch z).drop b) b ls with | .inl (ls', b') => .inl (Est C z a0 b' n rs ls' np) | .inr e => .inr e) r) (b, ls, f) ⟨hb, hls.1, hls.2, hf, rfl⟩ (by show z.length - b < 1000000; omega) ?_
  rintro ⟨d, ms, g⟩ ⟨i1, i2, i3, i4, i5⟩
  dsimp only at i1 i2 i3 i4 i5
  rw [i5]
  obtain ⟨g, rfl⟩ : ∃ g', g = g' + 1 := ⟨g - 1, by omega⟩
  have hl := look_run C z hz h d n i1
  rw [lookR_eq] at hl
  have hsg := sign_run C z hz h d n i1
  rw [strG_s]
  cases q : lookL ((ch z).drop d) with
  | inr r =>
    simp only [q] at hl
    right; right; right
    refine ⟨xt C z d r, ⟨[some (.loc 0), some (.d (.int a0)), some (.loc 129), none, none], some (rdO C z d n) :: rdR rs (some (.lst (lsD ms))), np⟩, ?_, _, _, _, _, rfl⟩
    simp -implicitDefEqProofs [hasNo_if, lookup_if, hl]
  | inl c =>
    simp only [q] at hl
    have hb1 : ((⟨#[c]⟩ : Str) == "<") = decide (c = 60) := by rw [h60, one_one]
    by_cases h1 : c = 60
    · right; left
      rw [decide_eq_true h1] at hb1
      refine ⟨Est C z a0 d n rs ms np, ?_, ?_⟩
      · simp -implicitDefEqProofs [hasNo_if, lookup_if, hl, hb1]
      · simp only [h1, if_true]
        rfl
    · rw [decide_eq_false h1] at hb1
      cases q2 : signL ((ch z).drop d) with
      | inr r =>
        simp only [q2] at hsg
        right; right; right
        refine ⟨xt C z d r, ⟨[some (.loc 0), some (.d (.int a0)), some (.loc 129), some (.d (.int d)), none], some (rdO C z d n) :: rdR rs (some (.lst (lsD ms))), np⟩, ?_, ?_⟩
        · simp -implicitDefEqProofs [hasNo_if, lookup_if, hl, hb1, fb_DocumentReader_string_w1b, hsg]
        · simp only [h1, if_false]
          exact ⟨_, _, _, _, rfl⟩
      | inl p =>
        obtain ⟨x, k⟩ := p
        simp only [q2] at hsg
        obtain ⟨k1, k2⟩ := signL_k q2
        rw [List.length_drop, ch_len] at k2
        have hln : (lsD ms).length = ms.length := by unfold lsD; rw [List.length_map]
        by_cases h2 : ms.length = 200
        · right; right; right
          have h3 : ((ms.length : Int) = 200) := by omega
          have hb2 : ((ms.length : Int) == 200) = true := by rw [beq_iff_eq]; exact h3
          have hf2 := hfl (d + k) n
          refine ⟨xt C z d "long", ⟨[some (.loc 0), some (.d (.int a0)), some (.loc 129), some (.d (.int d)), some (.d (.str ⟨#[x]⟩))], some (rdO C z (d + k) n) :: rdR rs (some (.lst (lsD ms))), np⟩, ?_, ?_⟩
          · simp -implicitDefEqProofs [hasNo_if, lookup_if, hl, hb1, fb_DocumentReader_string_w1b, hsg, hg, hln, sizeL, h2, hf2]
          · simp only [h1, h2, if_false, if_true]
            exact ⟨_, _, _, _, rfl⟩
        · left
          have hb2 : ((ms.length : Int) == 200) = false := beq_false_of_ne (by omega)
          have h4 : ms.length < 16777216 := by omega
          have h5 : ms.length ≤ 16777216 := by omega
          have hap : lsD ms ++ [.str ⟨#[x]⟩] = lsD (ms ++ [x]) := by unfold lsD; rw [List.map_append]; rfl
          refine ⟨(d + k, ms ++ [x], g), ?_, ⟨by show d + k ≤ z.length; omega, by show 1 ≤ (ms ++ [x]).length; rw [List.length_append]; omega, by show (ms ++ [x]).length ≤ 200; rw [List.length_append]; show ms.length + 1 ≤ 200; omega, by show z.length - (d + k) < g; omega, ?_⟩, by show z.length - (d + k) < z.length - d; omega⟩
          · simp -implicitDefEqProofs [hasNo_if, lookup_if, hl, hb1, fb_DocumentReader_string_w1b, hsg, hg, hs, hln, sizeL, h4, h5, hb2, hap]
          · simp only [h1, h2, if_false]
            rw [List.drop_drop]
end
end Tp
end
section
set_option Elab.async false
set_option linter.all false
set_option maxRecDepth 100000
set_option maxHeartbeats 8000000
namespace Tp
open PySem L2 Dl Tp.Tx
namespace Tx
theorem joinL_nil : ∀ ls : List (List Nat), TL.joinL [] ls = ls.flatten
  | [] => rfl
  | [p] => by simp [TL.joinL]
  | p :: q :: r => by
    show p ++ ([] ++ TL.joinL [] (q :: r)) = _
    rw [joinL_nil (q :: r)]
    simp
theorem ch_join (ws : List Str) : ch (PySem.Txt.join "" ws) = (ws.map ch).flatten := by
  rw [TL.join_eq]
  have := TL.tl_join "" ws
  rw [show TL.tl ("" : Str) = [] from rfl, joinL_nil] at this
  exact this
def ones (ls : List Nat) : List Str := ls.map fun c => ⟨#[c]⟩
theorem join_ones (ls : List Nat) : PySem.Txt.join "" (ones ls) = ⟨ls.toArray⟩ := by
  apply ch_inj
  rw [ch_join, ch_mk]
  unfold ones
  induction ls with
  | nil => rfl
  | cons c ls ih =>
    rw [List.map_cons, List.map_cons, List.flatten_cons, ih]
    rfl
theorem toStrs_lsD (ls : List Nat) : toStrs (lsD ls) = some (ones ls) := by
  unfold lsD ones
  induction ls with
  | nil => rfl
  | cons c ls ih =>
    show (toStrs (ls.map fun c => D.str ⟨#[c]⟩)).map _ = _
    rw [ih]; rfl
theorem joinOk_ones {ls : List Nat} (h : ls.length ≤ 16777216) : joinOk "" (ones ls) = true := by
  unfold joinOk
  have e : (("" : Str).length) = 0 := by decide +kernel
  have e2 : ((ones ls).map (·.length)).sum = ls.length := by
    unfold ones
    clear h
    induction ls with
    | nil => rfl
    | cons c ls ih =>
      rw [List.map_cons, List.map_cons, List.sum_cons, ih, List.length_cons]
      show 1 + ls.length = _
      omega
  rw [e, e2, decide_eq_true_iff]
  omega
end Tx
@[simp] theorem kJoin_loc {x : Str} {n : Nat} {e : Dl.Env} : kJoin (.d (.str x)) [.loc n] e = (match e.cell n with | some (.lst xs) => (match toStrs xs with | some ys => if joinOk x ys = true then .ok (.d (.str (PySem.Txt.join x ys))) e else .fail | none => .fail) | _ => .fail) := by
  show (match lstOf e (.loc n) with | some xs => _ | none => _) = _
  unfold lstOf
  dsimp only
  cases e.cell n with
  | none => rfl
  | some c => cases c <;> rfl
/-- how a method of the reader ends -/
def ResR (C : Cs) (z : Str) (rs : List Cell) (o : Sum (W × Nat × Nat) (Nat × Str)) (q : CR) : Prop := match o with
  | .inl (w, a', n') => q = .ok w (rdO C z a' n' :: rs)
  | .inr (p, s) => ∃ a' n', q = .exn (xt C z p s) (rdO C z a' n' :: rs)
section
variable (C : Cs) (z : Str) (hz : z.length ≤ 200000) {us : List W} {rt : List Cell} (h : RsOk (.lw us :: rt)) (a n : Nat)
include hz h
theorem string_ok2 (ha : a ≤ z.length) (hu : us.length ≤ 100) : ResR C z (.lw us :: rt) (match strL2 ((ch z).drop a) a n us.length with | .inl (ls, b, n') => .inl (.d (.str ⟨ls.toArray⟩), b, n') | .inr e => .inr e) (F_DocumentReader_string C [.loc 0] (rdO C z a n :: .lw us :: rt)) := by
  have hsg := sign_run C z hz h a n ha
  have hnd := node_run C z hz h
  have hg := rdR_get h
  have hs := rdR_set h
  have hop : Env.open ⟨[some (.loc 0), some (.d (.int a)), none, none, none], some (rdO C z (a + (match signL ((ch z).drop a) with | .inl (_, k) => k | .inr _ => 0)) n) :: rdR (.lw us :: rt) none, rt.length + 1 + 1⟩ 129 = true :=
    open_at h (by simp [isLoc]) (by simp [Cell.refs, isLoc]) (by have := h.hi; omega) (Nat.le_refl _) (by have := h.hi; have e : (Cell.lw us :: rt).length = rt.length + 1 := rfl; omega)
  have h0 : ∀ x, (rdR (.lw us :: rt) x)[0]? = some (some (.lw us)) := fun x => rfl
  have hnp : (Cell.lw us :: rt).length + 1 ≤ 129 := by have := h.hi; omega
  have hnp' : rt.length + 1 + 1 ≤ 129 := hnp
  have hu2 : us.length ≤ 16777216 := by omega
  have hc1 : ((us.length : Int) + 1) = ((us.length + 1 : Nat) : Int) := by omega
  unfold strL2
  cases q : signL ((ch z).drop a) with
  | inr r =>
    simp only [q] at hsg
    refine ⟨a, n, ?_⟩
    unfold F_DocumentReader_string
    refine mkR h ?_
    simp -implicitDefEqProofs [fb_DocumentReader_string, hasNo_if, lookup_if, hsg]
  | inl p =>
    obtain ⟨x, k⟩ := p
    simp only [q] at hsg
    rw [q] at hop
    dsimp only at hop
    obtain ⟨k1, k2⟩ := signL_k q
    rw [List.length_drop, ch_len] at k2
    have h2 := hnd (a + k) n a ((us.length : Int) + 1)
    unfold nodeL
    by_cases d1 : 60 < us.length + 1
    · have d2 : (60 : Int) < (us.length : Int) + 1 := by omega
      simp only [d1, if_true]
      simp only [d2, if_true] at h2
      refine ⟨a + k, n, ?_⟩
      unfold F_DocumentReader_string
      refine mkR h ?_
      simp -implicitDefEqProofs [fb_DocumentReader_string, hasNo_if, lookup_if, hsg, sizeL, -open_mk, hop, hg, hs, hnp', h0, hu2, h2]
    · have d2 : ¬ (60 : Int) < (us.length : Int) + 1 := by omega
      simp only [d1, if_false]
      simp only [d2, if_false] at h2
      by_cases n1 : 5000 < n + 1
      · simp only [n1, if_true] at h2 ⊢
        refine ⟨a + k, n + 1, ?_⟩
        unfold F_DocumentReader_string
        refine mkR h ?_
        simp -implicitDefEqProofs [fb_DocumentReader_string, hasNo_if, lookup_if, hsg, sizeL, -open_mk, hop, hg, hs, hnp', h0, hu2, h2]
      · simp only [n1, if_false] at h2 ⊢
        have hw := str_w1 C z hz h (n + 1) a (a + k) (by omega) [x] ⟨by simp, by simp⟩ (rt.length + 1 + 1) (((ch z).drop a).length + 1) (by rw [List.length_drop, ch_len]; omega)
        rw [← List.drop_drop] at hw
        have hl1 : ([.str ⟨#[x]⟩] : List D) = lsD [x] := rfl
        cases q2 : strG (((ch z).drop a).length + 1) (((ch z).drop a).drop k) (a + k) [x] with
        | inr e =>
          obtain ⟨p, s⟩ := e
          rw [q2] at hw
          obtain ⟨sl, a', n', x', hw⟩ := hw
          refine ⟨a', n', ?_⟩
          unfold F_DocumentReader_string
          refine mkR h ?_
          simp -implicitDefEqProofs [fb_DocumentReader_string, hasNo_if, lookup_if, hsg, sizeL, -open_mk, hop, hg, hs, hnp', h0, hu2, h2, hl1, hw]
        | inl e =>
          obtain ⟨ls, b⟩ := e
          rw [q2] at hw
          have hw : fb_DocumentReader_string_w1 C (Est C z a (a + k) (n + 1) (.lw us :: rt) [x] (rt.length + 1 + 1)) = .nx (Est C z a b (n + 1) (.lw us :: rt) ls (rt.length + 1 + 1)) := hw
          obtain ⟨b1, b2, _⟩ := strG_inl q2 (by simp)
          have hj := joinOk_ones (ls := ls) (by omega)
          have ht := toStrs_lsD ls
          have hjn := join_ones ls
          show F_DocumentReader_string C [.loc 0] (rdO C z a n :: .lw us :: rt) = .ok (.d (.str ⟨ls.toArray⟩)) (rdO C z b (n + 1) :: .lw us :: rt)
          unfold F_DocumentReader_string
          refine mkR h ?_
          simp -implicitDefEqProofs [fb_DocumentReader_string, hasNo_if, lookup_if, hsg, sizeL, -open_mk, hop, hg, hs, hnp', h0, hu2, h2, hl1, hw, hj, ht, hjn]
end
end Tp
end
section
set_option Elab.async false
set_option linter.all false
set_option maxRecDepth 100000
set_option maxHeartbeats 8000000
namespace Tp
open PySem L2 Dl Tp.Tx
def stk : Nat → List (Str × List D) → List Cell
  | _, [] => []
  | b, (w, ds) :: r => .lst ds :: .tw [.d (.str w), .loc b] :: stk (b + 2) r
def locs (k : Nat) : List W := (List.range k).map fun i => .loc (3 + 2 * i)
def rst (k : Nat) (st : List (Str × List D)) : List Cell := .lw (locs k) :: stk 2 st
theorem stk_len : ∀ (b : Nat) (st : List (Str × List D)), (stk b st).length = 2 * st.length
  | _, [] => rfl
  | b, (w, ds) :: r => by
    show (stk (b + 2) r).length + 1 + 1 = _
    rw [stk_len, List.length_cons]
    omega
theorem stk_app : ∀ (b : Nat) (st : List (Str × List D)) (w : Str) (ds : List D), stk b (st ++ [(w, ds)]) = stk b st ++ [.lst ds, .tw [.d (.str w), .loc (b + 2 * st.length)]]
  | _, [], _, _ => rfl
  | b, (w', ds') :: r, w, ds => by
    show _ :: _ :: stk (b + 2) (r ++ [(w, ds)]) = _
    rw [stk_app (b + 2) r w ds, List.length_cons, show b + 2 + 2 * r.length = b + 2 * (r.length + 1) by omega]
    rfl
theorem locs_len (k : Nat) : (locs k).length = k := by unfold locs; rw [List.length_map, List.length_range]
theorem locs_succ (k : Nat) : locs (k + 1) = locs k ++ [.loc (3 + 2 * k)] := by
  unfold locs
  rw [List.range_succ, List.map_append]
  rfl
theorem stk_inn : ∀ (b : Nat) (st : List (Str × List D)) (m : Nat), b + 2 * st.length ≤ m → (stk b st).all (Cell.inn m) = true
  | _, [], _, _ => rfl
  | b, (w, ds) :: r, m, h => by
    rw [List.length_cons] at h
    show (Cell.inn m (.lst ds) && (Cell.inn m (.tw [.d (.str w), .loc b]) && (stk (b + 2) r).all (Cell.inn m))) = true
    rw [stk_inn (b + 2) r m (by omega)]
    have : decide (b < m) = true := decide_eq_true (by omega)
    simp [Cell.inn, locIn]
    omega
theorem locs_inn (k m : Nat) (h : 2 * k + 2 ≤ m) : (locs k).all (locIn m) = true := by
  rw [List.all_eq_true]
  intro w hw
  obtain ⟨i, hi, rfl⟩ := List.mem_map.mp hw
  have := List.mem_range.mp hi
  show decide (3 + 2 * i < m) = true
  exact decide_eq_true (by omega)
theorem rst_len (k : Nat) (st : List (Str × List D)) : (rst k st).length = 1 + 2 * st.length := by
  unfold rst
  rw [List.length_cons, stk_len]
  omega
theorem rst_ok {k : Nat} {st : List (Str × List D)} (hk : k ≤ st.length) (hs : st.length ≤ 61) : RsOk (rst k st) where
  lo := by rw [rst_len]; omega
  hi := by rw [rst_len]; omega
  inn := by
    rw [rst_len]
    show ((locs k).all (locIn (1 + 2 * st.length + 1)) && (stk 2 st).all (Cell.inn (1 + 2 * st.length + 1))) = true
    rw [locs_inn k _ (by omega), stk_inn 2 st _ (by omega)]
    rfl
/-- a call that hands back other cells, as many -/
theorem runL_same {F : Fd} {ws : List W} {sl : List (Option W)} {np : Nat} {c c' : Cell} {rs rs' : List Cell} {x : Option Cell} {w : W} (h : RsOk rs) (h' : RsOk rs') (hl : rs'.length = rs.length) (hc : c.inn (rs.length + 1) = true) (hc' : c'.inn (rs.length + 1) = true)
    (hws : ws.all (locIn (rs.length + 1)) = true) (hw : locIn (rs.length + 1) w = true) (hF : F ws (c :: rs) = .ok w (c' :: rs')) : runL F ws ⟨sl, some c :: rdR rs x, np⟩ = .ok w ⟨sl, some c' :: rdR rs' x, np⟩ := by
  have i1 : (c :: rs).all (Cell.inn (rs.length + 1)) = true := by rw [List.all_cons, hc, h.inn]; rfl
  have i2 : (c' :: rs').all (Cell.inn (rs.length + 1)) = true := by
    have := h'.inn
    rw [hl] at this
    rw [List.all_cons, hc', this]; rfl
  unfold runL
  simp only [leadR h, List.length_cons]
  rw [i1, hws, hF]
  simp only [List.length_cons]
  rw [i2, hw, dropR]
  simp [rdR, hl]
theorem runL_grow {F : Fd} {ws : List W} {sl : List (Option W)} {np : Nat} {c c' : Cell} {rs rs' : List Cell} {w : W} (h : RsOk rs) (h' : RsOk rs') (hl : rs'.length = rs.length + 2) (hc : c.inn (rs.length + 1) = true) (hc' : c'.inn (rs'.length + 1) = true)
    (hws : ws.all (locIn (rs.length + 1)) = true) (hw : locIn (rs'.length + 1) w = true) (hsl : ∀ k, rs.length + 1 ≤ k → ∀ w, some w ∈ sl → isLoc k w = false) (hnp : np ≤ rs.length + 1) (hF : F ws (c :: rs) = .ok w (c' :: rs')) : runL F ws ⟨sl, some c :: rdR rs none, np⟩ = .ok w ⟨sl, some c' :: rdR rs' none, np⟩ := by
  have hi := h'.hi
  have i1 : (c :: rs).all (Cell.inn (rs.length + 1)) = true := by rw [List.all_cons, hc, h.inn]; rfl
  have i2 : (c' :: rs').all (Cell.inn (rs.length + 1 + 2)) = true := by
    have e := h'.inn
    rw [hl] at e hc'
    rw [List.all_cons, hc', e]; rfl
  have hw : locIn (rs.length + 1 + 2) w = true := by rw [hl] at hw; exact hw
  have o1 : Env.open ⟨sl, some c :: rdR rs none, np⟩ (rs.length + 1) = true := open_at h (hsl _ (Nat.le_refl _)) (inn_refs hc (Nat.le_refl _)) (Nat.le_refl _) (by omega) hnp
  have o2 : Env.open ⟨sl, some c :: rdR rs none, np⟩ (rs.length + 1 + 1) = true := open_at h (hsl _ (by omega)) (inn_refs hc (by omega)) (by omega) (by omega) (by omega)
  unfold runL
  simp only [leadR h, List.length_cons]
  rw [i1, hws, hF]
  simp only [List.length_cons]
  rw [i2, hw, o1, o2]
  have e2 : (some c :: rdR rs none).drop (rs.length + 1 + 2) = List.replicate (128 - rs'.length) none ++ [none] := by
    rw [show rs.length + 1 + 2 = (rs.length + 1) + 2 from rfl, ← List.drop_drop, dropR]
    rw [show 128 - rs.length = (128 - rs'.length) + 2 by omega, List.replicate_succ, List.replicate_succ]
    rfl
  rw [e2]
  have e3 : ¬ (rs'.length + 1 = rs.length + 1) := by omega
  have e4 : rs'.length + 1 = rs.length + 1 + 2 := by omega
  rw [decide_eq_false e3]
  simp [rdR, e4]
def EndG (rs : List Cell) (q : CR) : SR → Prop
  | .rt w e => ∃ c rs' x, RsOk rs' ∧ rs.length ≤ rs'.length ∧ q = .ok w (c :: rs') ∧ e.M = some c :: rdR rs' x
  | .exn y e => ∃ c rs' x, rs'.length = rs.length ∧ q = .exn y (c :: rs') ∧ e.M = some c :: rdR rs' x
  | _ => False
theorem EndG_rt {rs rs' : List Cell} {q : CR} {w : W} {sl : List (Option W)} {c : Cell} {x : Option Cell} {np : Nat} (h' : RsOk rs') (hl : rs.length ≤ rs'.length) (e : q = .ok w (c :: rs')) : EndG rs q (.rt w ⟨sl, some c :: rdR rs' x, np⟩) := ⟨c, rs', x, h', hl, e, rfl⟩
theorem EndG_exn {rs rs' : List Cell} {q : CR} {y : Xn} {sl : List (Option W)} {c : Cell} {x : Option Cell} {np : Nat} (hl : rs'.length = rs.length) (e : q = .exn y (c :: rs')) : EndG rs q (.exn y ⟨sl, some c :: rdR rs' x, np⟩) := ⟨c, rs', x, hl, e, rfl⟩
theorem mkG {N : Nat} {f : Sv} {ws : List W} {c : Cell} {rs : List Cell} {q : CR} (h : RsOk rs) (hf : EndG rs q (f ⟨ws.map some ++ List.replicate (N - ws.length) none, some c :: rdR rs none, rs.length + 1⟩)) : mkFL N 130 f ws (c :: rs) = q := by
  unfold mkFL mkF
  rw [env0R h]
  cases hr : f ⟨ws.map some ++ List.replicate (N - ws.length) none, some c :: rdR rs none, rs.length + 1⟩ with
  | rt w e =>
    rw [hr] at hf
    obtain ⟨c', rs', x, h', hl, e1, e2⟩ := hf
    simp only
    have hld : lead e.M = rs'.length + 1 := by unfold lead; rw [e2, leadR h']; rfl
    rw [hld, e2, takeR c' x _ (by rw [List.length_cons]; omega), e1]
  | nx e => rw [hr] at hf; exact hf.elim
  | exn y e =>
    rw [hr] at hf
    obtain ⟨c', rs', x, hl, e1, e2⟩ := hf
    simp only
    rw [e2, takeR c' x _ (by rw [List.length_cons]; omega), e1]
  | bk e => rw [hr] at hf; exact hf.elim
  | ct e => rw [hr] at hf; exact hf.elim
  | fail => rw [hr] at hf; exact hf.elim
/-- a cell more in the first free register -/
theorem rdR_push {rs : List Cell} (c : Cell) (h : rs.length < 128) : (rdR rs none).set rs.length (some c) = rdR (rs ++ [c]) none := by
  unfold rdR
  rw [List.set_append_right _ _ (by rw [List.length_map]; omega), List.length_map, Nat.sub_self, List.length_append]
  rw [show 128 - rs.length = (128 - (rs.length + [c].length)) + 1 by simp; omega, List.replicate_succ, List.map_append]
  simp
end Tp
end
section
set_option Elab.async false
set_option linter.all false
set_option maxRecDepth 100000
set_option maxHeartbeats 8000000
namespace Tp
open PySem L2 Dl Tp.Tx
theorem isLt_ilt : isLt = ilt := rfl
section
variable (C : Cs) (z : Str) (hz : z.length ≤ 200000) {rs : List Cell} (h : RsOk rs) (a n : Nat)
include hz h
theorem name_run2 (ha : a ≤ z.length) (sl : List (Option W)) (x : Option Cell) (np : Nat) : (match nameL ((ch z).drop a) a with
    | .inl (w, b) => runL (F_DocumentReader_name C) [.loc 0] ⟨sl, some (rdO C z a n) :: rdR rs x, np⟩ = .ok (.d (.str (nm w))) ⟨sl, some (rdO C z b n) :: rdR rs x, np⟩
    | .inr (p, s) => ∃ a', runL (F_DocumentReader_name C) [.loc 0] ⟨sl, some (rdO C z a n) :: rdR rs x, np⟩ = .exn (xt C z p s) ⟨sl, some (rdO C z a' n) :: rdR rs x, np⟩) := by
  have e := name_run C z hz h a n ha sl x np
  rw [lookR_eq] at e
  unfold nameL
  cases q : lookL ((ch z).drop a) with
  | inr r => rw [q] at e; exact ⟨a, e⟩
  | inl c =>
    rw [q] at e
    dsimp only at e ⊢
    rw [isLt_ilt] at e
    by_cases h1 : ilt c = true
    · rw [if_pos h1] at e ⊢
      have e12 : tw ilt z a = (((ch z).drop a).takeWhile ilt).length := rfl
      rw [e12] at e
      by_cases h2 : (((ch z).drop a).takeWhile ilt).length ≤ 12
      · rw [if_pos h2] at e ⊢; exact e
      · rw [if_neg h2] at e ⊢; exact ⟨_, e⟩
    · rw [if_neg h1] at e ⊢; exact ⟨a, e⟩
theorem take_run2 (ha : a ≤ z.length) (k : Nat) (sl : List (Option W)) (x : Option Cell) (np : Nat) : runL (F_DocumentReader_take_if C) [.loc 0, .d (.str ⟨#[k]⟩)] ⟨sl, some (rdO C z a n) :: rdR rs x, np⟩ = (match tagL ((ch z).drop a) a k with
    | .inl true => .ok (.d (.bl true)) ⟨sl, some (rdO C z (a + 1 : Nat) n) :: rdR rs x, np⟩
    | .inl false => .ok (.d (.bl false)) ⟨sl, some (rdO C z a n) :: rdR rs x, np⟩
    | .inr (p, s) => .exn (xt C z p s) ⟨sl, some (rdO C z a n) :: rdR rs x, np⟩) := by
  have e := take_run C z hz h a n ha k sl x np
  rw [lookR_eq] at e
  unfold tagL
  cases q : lookL ((ch z).drop a) with
  | inr r => rw [q] at e; exact e
  | inl c =>
    rw [q] at e
    dsimp only at e ⊢
    by_cases hc : c = k
    · rw [if_pos hc] at e; rw [decide_eq_true hc]; exact e
    · rw [if_neg hc] at e; rw [decide_eq_false hc]; exact e
theorem node_run2 (p k : Nat) (sl : List (Option W)) (x : Option Cell) (np : Nat) : (match nodeL p (k + 1) n with
    | none => runL (F_DocumentReader_new_node C) [.loc 0, .d (.int p), .d (.int ((k : Int) + 1))] ⟨sl, some (rdO C z a n) :: rdR rs x, np⟩ = .ok (.d .non) ⟨sl, some (rdO C z a (n + 1 : Nat)) :: rdR rs x, np⟩
    | some (p, s) => ∃ n', runL (F_DocumentReader_new_node C) [.loc 0, .d (.int p), .d (.int ((k : Int) + 1))] ⟨sl, some (rdO C z a n) :: rdR rs x, np⟩ = .exn (xt C z p s) ⟨sl, some (rdO C z a n') :: rdR rs x, np⟩) := by
  have e := node_run C z hz h a n p ((k : Int) + 1) sl x np
  unfold nodeL
  by_cases h1 : 60 < k + 1
  · have h2 : (60 : Int) < (k : Int) + 1 := by omega
    rw [if_pos h2] at e; rw [if_pos h1]; exact ⟨n, e⟩
  · have h2 : ¬ (60 : Int) < (k : Int) + 1 := by omega
    rw [if_neg h2] at e; rw [if_neg h1]
    by_cases h3 : 5000 < n + 1
    · rw [if_pos h3] at e ⊢; exact ⟨_, e⟩
    · rw [if_neg h3] at e ⊢; exact e
end
theorem nodeL_p {p d n p' : Nat} {s : Str} (h : nodeL p d n = some (p', s)) : p' = p := by
  unfold nodeL at h
  split at h
  · cases h; rfl
  · split at h
    · cases h; rfl
    · cases h
theorem nameL_b {l w : List Nat} {a b : Nat} (h : nameL l a = .inl (w, b)) : w = l.takeWhile ilt ∧ b = a + w.length ∧ w.length ≤ l.length := by
  unfold nameL at h
  split at h
  · cases h
  · split at h
    · split at h
      · cases h
        exact ⟨rfl, rfl, (List.takeWhile_sublist _).length_le⟩
      · cases h
    · cases h
theorem tagL_t {l : List Nat} {a k : Nat} (h : tagL l a k = .inl true) : ∃ r, l = k :: r := by
  unfold tagL at h
  split at h
  · cases h
  · rename_i c hc
    injection h with h
    have h := of_decide_eq_true h
    subst h
    unfold lookL at hc
    split at hc
    · cases hc
    · split at hc
      · cases hc; exact ⟨_, rfl⟩
      · cases hc
@[simp] theorem kDispW_ev {k : Nat} {ws : List W} {e : Dl.Env} : kDispW k ws e = if ws.length ≤ sizeLine then (if (ws.all fun w => !isLoc k w) = true then newC k (.lw ws) e else .fail) else .fail := rfl
@[simp] theorem kTupW_ev {k : Nat} {ws : List W} {e : Dl.Env} : kTupW k ws e = if ws.length ≤ sizeLine then (if (ws.all fun w => !isLoc k w) = true then newC k (.tw ws) e else .fail) else .fail := rfl
theorem push_rst (k : Nat) (st : List (Str × List D)) (w : Str) (hk : k = st.length) : Cell.lw (locs k ++ [.loc (2 + 2 * st.length + 1)]) :: (stk 2 st ++ [.lst [], .tw [.d (.str w), .loc (2 + 2 * st.length)]]) = rst (k + 1) (st ++ [(w, [])]) := by
  subst hk
  unfold rst
  rw [locs_succ, stk_app, show 3 + 2 * st.length = 2 + 2 * st.length + 1 by omega]
theorem push_ev (C : Cs) (z : Str) (st : List (Str × List D)) (hst : st.length ≤ 60) (a n : Nat) (p : Int) (w : Str) :
    eM isLst kAppend (eFld C.DocumentReader "opened" (eVar 0)) [eLd fun n => eCB (kTupW (n + 1)) [eVar 2, eCB (kDisp (some n)) []]] ⟨[some (.loc 0), some (.d (.int p)), some (.d (.str w))], some (rdO C z a n) :: rdR (rst st.length st) none, 1 + 2 * st.length + 1⟩ =
      .ok (.d .non) ⟨[some (.loc 0), some (.d (.int p)), some (.d (.str w))], some (rdO C z a n) :: rdR (rst (st.length + 1) (st ++ [(w, [])])) none, 1 + 2 * st.length + 1⟩ := by
  have h := rst_ok (Nat.le_refl st.length) (by omega : st.length ≤ 61)
  have hl := rst_len st.length st
  have hlead : lead (some (rdO C z a n) :: rdR (rst st.length st) none) = 2 + 2 * st.length := by
    unfold lead
    rw [leadR h, List.length_cons, hl]
    omega
  have hc : ∀ k, 2 ≤ k → Cell.refs k (rdO C z a n) = false := fun k hk => by
    have : (1 == k) = false := beq_false_of_ne (by omega)
    simp [Cell.refs, isLoc, this]
  have hsl : ∀ k, 2 ≤ k → ∀ v, some v ∈ [some (W.loc 0), some (.d (.int p)), some (.d (.str w))] → isLoc k v = false := fun k hk v hv => by
    simp at hv
    rcases hv with rfl | rfl | rfl
    · show (0 == k) = false
      exact beq_false_of_ne (by omega)
    · rfl
    · rfl
  have o1 : Env.open ⟨[some (.loc 0), some (.d (.int p)), some (.d (.str w))], some (rdO C z a n) :: rdR (rst st.length st) none, 1 + 2 * st.length + 1⟩ (2 + 2 * st.length) = true := open_at h (hsl _ (by omega)) (hc _ (by omega)) (by omega) (by omega) (by omega)
  have s1 : ∀ y : Cell, (some (rdO C z a n) :: rdR (rst st.length st) none).set (2 + 2 * st.length) (some y) = some (rdO C z a n) :: rdR (rst st.length st ++ [y]) none := fun y => by
    rw [show 2 + 2 * st.length = (rst st.length st).length + 1 by omega, List.set_cons_succ, rdR_push y (by omega)]
  have h2 : RsOk (rst st.length st ++ [.lst []]) := ⟨by simp, by rw [List.length_append, hl]; show 1 + 2 * st.length + 1 ≤ 125; omega, by
    rw [List.all_append, List.length_append]
    have e : (rst st.length st).all (Cell.inn ((rst st.length st).length + [Cell.lst []].length + 1)) = true := by
      rw [hl]
      show ((locs st.length).all (locIn _) && (stk 2 st).all (Cell.inn _)) = true
      rw [locs_inn _ _ (by show _ ≤ 1 + 2 * st.length + 1 + 1; omega), stk_inn 2 st _ (by show _ ≤ 1 + 2 * st.length + 1 + 1; omega)]
      rfl
    rw [e]; rfl⟩
  have o2 : Env.open ⟨[some (.loc 0), some (.d (.int p)), some (.d (.str w))], some (rdO C z a n) :: rdR (rst st.length st ++ [.lst []]) none, 1 + 2 * st.length + 1⟩ (2 + 2 * st.length + 1) = true := open_at h2 (hsl _ (by omega)) (hc _ (by omega)) (by rw [List.length_append, hl]; show 1 + 2 * st.length + 1 + 1 ≤ _; omega) (by omega) (by omega)
  have s2 : ∀ y : Cell, (some (rdO C z a n) :: rdR (rst st.length st ++ [.lst []]) none).set (2 + 2 * st.length + 1) (some y) = some (rdO C z a n) :: rdR (rst st.length st ++ [.lst []] ++ [y]) none := fun y => by
    have e : (rst st.length st ++ [Cell.lst []]).length = 2 + 2 * st.length := by rw [List.length_append, hl]; show 1 + 2 * st.length + 1 = _; omega
    rw [← e, List.set_cons_succ, rdR_push y (by omega)]
  have g0 : ∀ (ys : List Cell) (x : Option Cell), (rdR (rst st.length st ++ ys) x)[0]? = some (some (.lw (locs st.length))) := fun ys x => rfl
  have g1 : ∀ (x : Option Cell), (rdR (rst st.length st) x)[0]? = some (some (.lw (locs st.length))) := fun x => rfl
  have s0 : ∀ (ys : List Cell) (y : Cell), (rdR (rst st.length st ++ ys) none).set 0 (some y) = rdR (y :: (stk 2 st ++ ys)) none := fun ys y => rfl
  have hL : (locs st.length).length < 16777216 := by rw [locs_len]; omega
  have at1 : ∀ (rs ys : List Cell) (y : Cell) (x : Option Cell), (rdR (rs ++ y :: ys) x)[rs.length]? = some (some y) := fun rs ys y x => by
    unfold rdR
    rw [List.map_append, List.append_assoc, List.getElem?_append_right (by rw [List.length_map]; exact Nat.le_refl _), List.length_map, Nat.sub_self]
    rfl
  have t1 : (some (rdO C z a n) :: rdR (rst st.length st ++ [.lst []]) none)[2 + 2 * st.length]? = some (some (.lst [])) := by
    rw [show 2 + 2 * st.length = (rst st.length st).length + 1 by omega, List.getElem?_cons_succ, at1]
  have t2 : ∀ y y' : Cell, (some (rdO C z a n) :: rdR (rst st.length st ++ [y, y']) none)[2 + 2 * st.length + 1]? = some (some y') := fun y y' => by
    have e : (rst st.length st ++ [y]).length = 2 + 2 * st.length := by rw [List.length_append, hl]; show 1 + 2 * st.length + 1 = _; omega
    rw [List.getElem?_cons_succ, ← e, show rst st.length st ++ [y, y'] = (rst st.length st ++ [y]) ++ y' :: [] by simp, at1]
  have hp := push_rst st.length st w rfl
  have e2 : ∀ (y y' : Cell), rst st.length st ++ [y] ++ [y'] = rst st.length st ++ [y, y'] := fun y y' => by simp
  have hpc : ∀ m, pushC (Cell.lw (locs st.length)) (W.loc m) = some (.lw (locs st.length ++ [.loc m])) := fun m => by
    show (if (locs st.length).length < sizeLine then some (Cell.lw (locs st.length ++ [.loc m])) else none) = _
    exact if_pos (by rw [sizeL]; exact hL)
  simp -implicitDefEqProofs [-open_mk, hpc, lookup_if, hlead, o1, s1, o2, s2, g0, g1, s0, t1, t2, sizeL, hL, e2, hp, isLoc]
section
variable (C : Cs) (z : Str) (hz : z.length ≤ 200000) (st : List (Str × List D)) (hst : st.length ≤ 60) (a n : Nat)
include hz hst
omit hz hst in
/-- what the beginning of an element gives -/
def BegR (C : Cs) (z : Str) (st : List (Str × List D)) (q : CR) : Sum (PtR × Nat × Nat) (Nat × Str) → Prop
  | .inl (.emp w, b, n') => q = .ok (.d (.tup [.str (nm w), .lst []])) (rdO C z b n' :: rst st.length st)
  | .inl (.opn w, b, n') => q = .ok (.d .non) (rdO C z b n' :: rst (st.length + 1) (st ++ [(nm w, [])]))
  | .inl _ => False
  | .inr (p, s) => ∃ a' n', q = .exn (xt C z p s) (rdO C z a' n' :: rst st.length st)
theorem begin_ok (ha : a ≤ z.length) (p : Nat) (hp : p ≤ z.length) : BegR C z st (F_DocumentReader_begin C [.loc 0, .d (.int p)] (rdO C z a n :: rst st.length st)) (beginL ((ch z).drop a) a p n st.length) := by
  have h := rst_ok (Nat.le_refl st.length) (by omega : st.length ≤ 61)
  have hL := locs_len st.length
  have h0 : ∀ x, (rdR (rst st.length st) x)[0]? = some (some (.lw (locs st.length))) := fun x => rfl
  have hs2 : st.length ≤ 16777216 := by omega
  have gS : ("/" : Str) = ⟨#[47]⟩ := by decide +kernel
  have gG : (">" : Str) = ⟨#[62]⟩ := by decide +kernel
  have hn := node_run2 C z hz h a n p st.length
  unfold beginL
  cases q1 : nodeL p (st.length + 1) n with
  | some e =>
    obtain ⟨p', s⟩ := e
    have := nodeL_p q1
    subst this
    simp only [q1] at hn
    obtain ⟨n', hn⟩ := hn [some (.loc 0), some (.d (.int p')), none] none (1 + 2 * st.length + 1)
    refine ⟨a, n', ?_⟩
    unfold F_DocumentReader_begin
    refine mkG h ?_
    rw [rst_len]
    simp -implicitDefEqProofs [fb_DocumentReader_begin, hasNo_if, lookup_if, sizeL, h0, hL, hs2, hn]
    exact EndG_exn rfl rfl
  | none =>
    simp only [q1] at hn
    have hnm := name_run2 C z hz h a (n + 1) ha
    cases q2 : nameL ((ch z).drop a) a with
    | inr e =>
      obtain ⟨p', s⟩ := e
      simp only [q2] at hnm
      obtain ⟨a', hnm⟩ := hnm [some (.loc 0), some (.d (.int p)), none] none (1 + 2 * st.length + 1)
      refine ⟨a', n + 1, ?_⟩
      unfold F_DocumentReader_begin
      refine mkG h ?_
      rw [rst_len]
      simp -implicitDefEqProofs [fb_DocumentReader_begin, hasNo_if, lookup_if, sizeL, h0, hL, hs2, hn, hnm]
      exact EndG_exn rfl rfl
    | inl e =>
      obtain ⟨w, b⟩ := e
      simp only [q2] at hnm
      obtain ⟨-, eb, hw⟩ := nameL_b q2
      rw [List.length_drop, ch_len] at hw
      have hb : b ≤ z.length := by omega
      have hd : (ch z).drop b = ((ch z).drop a).drop w.length := by rw [List.drop_drop, eb]
      have t1 := take_run2 C z hz h b (n + 1) hb 47
      have t2 := take_run2 C z hz h b (n + 1) hb 62
      rw [hd] at t1 t2
      dsimp only
      cases q3 : tagL (((ch z).drop a).drop w.length) b 47 with
      | inr e =>
        obtain ⟨p', s⟩ := e
        simp only [q3] at t1
        refine ⟨b, n + 1, ?_⟩
        unfold F_DocumentReader_begin
        refine mkG h ?_
        rw [rst_len]
        simp -implicitDefEqProofs [fb_DocumentReader_begin, hasNo_if, lookup_if, sizeL, h0, hL, hs2, hn, hnm, gS, gG, t1]
        exact EndG_exn rfl rfl
      | inl k1 =>
        cases k1 with
        | true =>
          simp only [q3] at t1
          obtain ⟨r, hr⟩ := tagL_t q3
          have hb1 : b + 1 ≤ z.length := by
            have := congrArg List.length hr
            rw [← hd, List.length_drop, ch_len, List.length_cons] at this
            omega
          have hd1 : (ch z).drop (b + 1) = ((ch z).drop a).drop (w.length + 1) := by rw [List.drop_drop, eb]; rfl
          have t3 := take_run2 C z hz h (b + 1) (n + 1) hb1 62
          rw [hd1] at t3
          have hf : ∀ (sl : List (Option W)) (x : Option Cell) (np : Nat) (r : Str), runL (F_DocumentReader_fail C) [.loc 0, .d (.int ((b : Int) + 1)), .d (.str r)] ⟨sl, some (rdO C z (b + 1) (n + 1)) :: rdR (rst st.length st) x, np⟩ = .exn (xt C z (b + 1) r) ⟨sl, some (rdO C z (b + 1) (n + 1)) :: rdR (rst st.length st) x, np⟩ := fun sl x np r => fail_run C z hz h (b + 1) (n + 1) sl x np (b + 1) r
          dsimp only
          cases q4 : tagL (((ch z).drop a).drop (w.length + 1)) (b + 1) 62 with
          | inr e =>
            obtain ⟨p', s⟩ := e
            simp only [q4] at t3
            refine ⟨b + 1, n + 1, ?_⟩
            unfold F_DocumentReader_begin
            refine mkG h ?_
            rw [rst_len]
            simp -implicitDefEqProofs [fb_DocumentReader_begin, hasNo_if, lookup_if, sizeL, h0, hL, hs2, hn, hnm, gS, gG, t1, t3]
            exact EndG_exn rfl rfl
          | inl k2 =>
            cases k2 with
            | true =>
              simp only [q4] at t3
              show F_DocumentReader_begin C [.loc 0, .d (.int p)] (rdO C z a n :: rst st.length st) = _
              unfold F_DocumentReader_begin
              refine mkG h ?_
              rw [rst_len]
              simp -implicitDefEqProofs [fb_DocumentReader_begin, hasNo_if, lookup_if, sizeL, h0, hL, hs2, hn, hnm, gS, gG, t1, t3]
              exact EndG_rt h (Nat.le_refl _) rfl
            | false =>
              simp only [q4] at t3
              refine ⟨b + 1, n + 1, ?_⟩
              unfold F_DocumentReader_begin
              refine mkG h ?_
              rw [rst_len]
              simp -implicitDefEqProofs [fb_DocumentReader_begin, hasNo_if, lookup_if, sizeL, h0, hL, hs2, hn, hnm, gS, gG, t1, t3, hf]
              exact EndG_exn rfl rfl
        | false =>
          simp only [q3] at t1
          dsimp only
          cases q4 : tagL (((ch z).drop a).drop w.length) b 62 with
          | inr e =>
            obtain ⟨p', s⟩ := e
            simp only [q4] at t2
            refine ⟨b, n + 1, ?_⟩
            unfold F_DocumentReader_begin
            refine mkG h ?_
            rw [rst_len]
            simp -implicitDefEqProofs [fb_DocumentReader_begin, hasNo_if, lookup_if, sizeL, h0, hL, hs2, hn, hnm, gS, gG, t1, t2]
            exact EndG_exn rfl rfl
          | inl k2 =>
            cases k2 with
            | true =>
              simp only [q4] at t2
              have hp := push_ev C z st hst (b + 1) (n + 1) (p : Int) (nm w)
              show F_DocumentReader_begin C [.loc 0, .d (.int p)] (rdO C z a n :: rst st.length st) = _
              unfold F_DocumentReader_begin
              refine mkG h ?_
              rw [rst_len]
              simp -implicitDefEqProofs [-eM_ev, fb_DocumentReader_begin, hasNo_if, lookup_if, sizeL, h0, hL, hs2, hn, hnm, gS, gG, t1, t2, hp]
              exact EndG_rt (rst_ok (by rw [List.length_append]; exact Nat.le_refl _) (by rw [List.length_append]; show st.length + 1 ≤ 61; omega)) (by rw [rst_len, rst_len, List.length_append]; omega) rfl
            | false =>
              simp only [q4] at t2
              have hf := fail_run C z hz h b (n + 1)
              refine ⟨b, n + 1, ?_⟩
              unfold F_DocumentReader_begin
              refine mkG h ?_
              rw [rst_len]
              simp -implicitDefEqProofs [fb_DocumentReader_begin, hasNo_if, lookup_if, sizeL, h0, hL, hs2, hn, hnm, gS, gG, t1, t2, hf]
              exact EndG_exn rfl rfl
end
end Tp
end
section
set_option Elab.async false
set_option linter.all false
set_option maxRecDepth 100000
set_option maxHeartbeats 8000000
namespace Tp
open PySem L2 Dl Tp.Tx
@[simp] theorem ixC_lwv {us : List W} {i : Int} : ixC (.lw us) i = atI us i := rfl
@[simp] theorem ixC_twv {us : List W} {i : Int} : ixC (.tw us) i = atI us i := rfl
@[simp] theorem kPopW_ev {n : Nat} {e : Dl.Env} : kPopW (.loc n) [] e = (match e.cell n with
    | some (.lw xs) => match xs[xs.length - 1]? with
      | some y => .ok y (e.setC n (some (.lw xs.dropLast)))
      | none => .fail
    | _ => .fail) := rfl
theorem atI_locs (k : Nat) : atI (locs (k + 1)) (-1) = some (.loc (3 + 2 * k)) := by
  rw [Dl.atI_last, locs_len, locs_succ, Nat.add_sub_cancel]
  have e := locs_len k
  have := List.getElem?_append_right (l₁ := locs k) (l₂ := [W.loc (3 + 2 * k)]) (i := k) (by omega)
  rw [this, e, Nat.sub_self]
  rfl
theorem locs_last (k : Nat) : (locs (k + 1))[(locs (k + 1)).length - 1]? = some (.loc (3 + 2 * k)) := by rw [← Dl.atI_last]; exact atI_locs k
theorem locs_drop (k : Nat) : (locs (k + 1)).dropLast = locs k := by rw [locs_succ, List.dropLast_concat]
/-- the cells of the last open element -/
theorem rdR_app {rs ys : List Cell} {y : Cell} {x : Option Cell} : (rdR (rs ++ y :: ys) x)[rs.length]? = some (some y) := by
  unfold rdR
  rw [List.map_append, List.append_assoc, List.getElem?_append_right (by rw [List.length_map]; exact Nat.le_refl _), List.length_map, Nat.sub_self]
  rfl
theorem rst_app (j : Nat) (st : List (Str × List D)) (w : Str) (ds : List D) : rst j (st ++ [(w, ds)]) = rst j st ++ [.lst ds, .tw [.d (.str w), .loc (2 + 2 * st.length)]] := by
  unfold rst
  rw [stk_app]
  rfl
theorem top_lst (j : Nat) (st : List (Str × List D)) (w : Str) (ds : List D) (c : Cell) (x : Option Cell) : (some c :: rdR (rst j (st ++ [(w, ds)])) x)[2 + 2 * st.length]? = some (some (.lst ds)) := by
  have e : 2 + 2 * st.length = (rst j st).length + 1 := by rw [rst_len]; omega
  rw [rst_app, e, List.getElem?_cons_succ]
  exact rdR_app
theorem top_tup (j : Nat) (st : List (Str × List D)) (w : Str) (ds : List D) (c : Cell) (x : Option Cell) : (some c :: rdR (rst j (st ++ [(w, ds)])) x)[3 + 2 * st.length]? = some (some (.tw [.d (.str w), .loc (2 + 2 * st.length)])) := by
  have e : 3 + 2 * st.length = (rst j st ++ [Cell.lst ds]).length + 1 := by rw [List.length_append, rst_len]; show _ = 1 + 2 * st.length + 1 + 1; omega
  rw [rst_app, e, List.getElem?_cons_succ, show rst j st ++ [Cell.lst ds, .tw [.d (.str w), .loc (2 + 2 * st.length)]] = (rst j st ++ [.lst ds]) ++ .tw [.d (.str w), .loc (2 + 2 * st.length)] :: [] by simp]
  exact rdR_app
/-- a def that hands back as many cells -/
def EndS (rs : List Cell) (q : CR) : SR → Prop
  | .rt w e => ∃ c rs' x, rs'.length = rs.length ∧ q = .ok w (c :: rs') ∧ e.M = some c :: rdR rs' x
  | .exn y e => ∃ c rs' x, rs'.length = rs.length ∧ q = .exn y (c :: rs') ∧ e.M = some c :: rdR rs' x
  | _ => False
theorem EndS_rt {rs rs' : List Cell} {q : CR} {w : W} {sl : List (Option W)} {c : Cell} {x : Option Cell} {np : Nat} (hl : rs'.length = rs.length) (e : q = .ok w (c :: rs')) : EndS rs q (.rt w ⟨sl, some c :: rdR rs' x, np⟩) := ⟨c, rs', x, hl, e, rfl⟩
theorem EndS_exn {rs rs' : List Cell} {q : CR} {y : Xn} {sl : List (Option W)} {c : Cell} {x : Option Cell} {np : Nat} (hl : rs'.length = rs.length) (e : q = .exn y (c :: rs')) : EndS rs q (.exn y ⟨sl, some c :: rdR rs' x, np⟩) := ⟨c, rs', x, hl, e, rfl⟩
theorem mkS {N : Nat} {f : Sv} {ws : List W} {c : Cell} {rs : List Cell} {q : CR} (h : RsOk rs) (hf : EndS rs q (f ⟨ws.map some ++ List.replicate (N - ws.length) none, some c :: rdR rs none, rs.length + 1⟩)) : mkF N 130 0 f ws (c :: rs) = q := by
  unfold mkF
  rw [env0R h]
  cases hr : f ⟨ws.map some ++ List.replicate (N - ws.length) none, some c :: rdR rs none, rs.length + 1⟩ with
  | rt w e =>
    rw [hr] at hf
    obtain ⟨c', rs', x, hl, e1, e2⟩ := hf
    simp only
    rw [e2, takeR c' x _ (by simp; omega), e1]
  | nx e => rw [hr] at hf; exact hf.elim
  | exn y e =>
    rw [hr] at hf
    obtain ⟨c', rs', x, hl, e1, e2⟩ := hf
    simp only
    rw [e2, takeR c' x _ (by simp; omega), e1]
  | bk e => rw [hr] at hf; exact hf.elim
  | ct e => rw [hr] at hf; exact hf.elim
  | fail => rw [hr] at hf; exact hf.elim
theorem endL_inl {l : List Nat} {a n : Nat} {top : Str} {r : PtR} {b n' : Nat} (h : endL l a n top = .inl (r, b, n')) : (match r with | .cls => True | _ => False) := by
  unfold endL at h
  split at h
  · cases h
  · split at h
    · cases h
    · split at h
      · cases h
      · cases h; trivial
      · cases h
section
variable (C : Cs) (z : Str) (hz : z.length ≤ 200000) (st : List (Str × List D)) (hst : st.length ≤ 60) (top : Str) (ds : List D) (a n : Nat)
include hz hst
omit hz hst in
def ClsR (C : Cs) (z : Str) (st : List (Str × List D)) (top : Str) (ds : List D) (q : CR) : Sum (PtR × Nat × Nat) (Nat × Str) → Prop
  | .inl (.cls, b, n') => q = .ok (.loc (3 + 2 * st.length)) (rdO C z b n' :: rst st.length (st ++ [(top, ds)]))
  | .inl _ => False
  | .inr (p, s) => ∃ a' n', q = .exn (xt C z p s) (rdO C z a' n' :: rst (st.length + 1) (st ++ [(top, ds)]))
theorem end_ok (ha : a ≤ z.length) : ClsR C z st top ds (F_DocumentReader_end C [.loc 0] (rdO C z a n :: rst (st.length + 1) (st ++ [(top, ds)]))) (endL ((ch z).drop a) a n top) := by
  have hsl : (st ++ [(top, ds)]).length = st.length + 1 := by rw [List.length_append]; rfl
  have h : RsOk (rst (st.length + 1) (st ++ [(top, ds)])) := rst_ok (by omega) (by omega)
  have hrl := rst_len (st.length + 1) (st ++ [(top, ds)])
  have hrl2 := rst_len st.length (st ++ [(top, ds)])
  rw [hsl] at hrl hrl2
  have g0 : ∀ x, (rdR (rst (st.length + 1) (st ++ [(top, ds)])) x)[0]? = some (some (.lw (locs (st.length + 1)))) := fun x => rfl
  have s0 : ∀ us x, (rdR (rst (st.length + 1) (st ++ [(top, ds)])) x).set 0 (some (.lw us)) = rdR (.lw us :: stk 2 (st ++ [(top, ds)])) x := fun us x => rfl
  have e0 : Cell.lw (locs st.length) :: stk 2 (st ++ [(top, ds)]) = rst st.length (st ++ [(top, ds)]) := rfl
  have gt := top_tup (st.length + 1) st top ds
  have hal := atI_locs st.length
  have hll := locs_last st.length
  have hdl := locs_drop st.length
  have gG : (">" : Str) = ⟨#[62]⟩ := by decide +kernel
  have hnm := name_run2 C z hz h a n ha
  unfold endL
  cases q1 : nameL ((ch z).drop a) a with
  | inr e =>
    obtain ⟨p', s⟩ := e
    simp only [q1] at hnm
    obtain ⟨a', hnm⟩ := hnm [some (.loc 0), some (.d (.int a)), none] none (1 + 2 * (st.length + 1) + 1)
    refine ⟨a', n, ?_⟩
    unfold F_DocumentReader_end
    refine mkS h ?_
    rw [hrl]
    simp -implicitDefEqProofs [fb_DocumentReader_end, hasNo_if, lookup_if, hnm]
    exact EndS_exn rfl rfl
  | inl e =>
    obtain ⟨w, b⟩ := e
    simp only [q1] at hnm
    obtain ⟨-, eb, hw⟩ := nameL_b q1
    rw [List.length_drop, ch_len] at hw
    have hb : b ≤ z.length := by omega
    have hd : (ch z).drop b = ((ch z).drop a).drop w.length := by rw [List.drop_drop, eb]
    have t2 := take_run2 C z hz h b n hb 62
    rw [hd] at t2
    dsimp only
    by_cases hq : nm w = top
    · rw [if_neg (fun z => z hq)]
      have hbq : (nm w == top) = true := by rw [beq_iff_eq]; exact hq
      cases q4 : tagL (((ch z).drop a).drop w.length) b 62 with
      | inr e =>
        obtain ⟨p', s⟩ := e
        simp only [q4] at t2
        refine ⟨b, n, ?_⟩
        unfold F_DocumentReader_end
        refine mkS h ?_
        rw [hrl]
        simp -implicitDefEqProofs [fb_DocumentReader_end, hasNo_if, lookup_if, hnm, g0, hal, gt, hbq, gG, t2]
        exact EndS_exn rfl rfl
      | inl k2 =>
        cases k2 with
        | true =>
          simp only [q4] at t2
          show F_DocumentReader_end C [.loc 0] (rdO C z a n :: rst (st.length + 1) (st ++ [(top, ds)])) = _
          unfold F_DocumentReader_end
          refine mkS h ?_
          rw [hrl]
          simp -implicitDefEqProofs [fb_DocumentReader_end, hasNo_if, lookup_if, hnm, g0, hal, gt, hbq, gG, t2, hll, hdl, s0, e0]
          exact EndS_rt (by rw [hrl, hrl2]) rfl
        | false =>
          simp only [q4] at t2
          have hf := fail_run C z hz h b n
          refine ⟨b, n, ?_⟩
          unfold F_DocumentReader_end
          refine mkS h ?_
          rw [hrl]
          simp -implicitDefEqProofs [fb_DocumentReader_end, hasNo_if, lookup_if, hnm, g0, hal, gt, hbq, gG, t2, hf]
          exact EndS_exn rfl rfl
    · rw [if_pos hq]
      have hbq : (nm w == top) = false := beq_false_of_ne hq
      have hf := fail_run C z hz h b n
      refine ⟨b, n, ?_⟩
      unfold F_DocumentReader_end
      refine mkS h ?_
      rw [hrl]
      simp -implicitDefEqProofs [fb_DocumentReader_end, hasNo_if, lookup_if, hnm, g0, hal, gt, hbq, gG, hf]
      exact EndS_exn rfl rfl
end
end Tp
end
section
set_option Elab.async false
set_option linter.all false
set_option maxRecDepth 100000
set_option maxHeartbeats 8000000
namespace Tp
open PySem L2 Dl Tp.Tx
theorem cut_slash {z : Str} {a : Nat} : (cutS z (some (a : Int)) (some ((a : Int) + 1)) == ("/" : Str)) = isSl ((ch z).drop a) := by
  rw [show (a : Int) + 1 = ((a + 1 : Nat) : Int) by omega, cutS_nat, show a + 1 - a = 1 by omega, show ("/" : Str) = ⟨#[47]⟩ by decide +kernel]
  cases h : (ch z).drop a with
  | nil => rfl
  | cons c r =>
    show ((⟨#[c]⟩ : Str) == ⟨#[47]⟩) = decide (c = 47)
    exact one_one c 47
theorem inn_rd (C : Cs) (z : Str) (a n : Nat) {m : Nat} (h : 2 ≤ m) : Cell.inn m (rdO C z a n) = true := by
  show (([("text", .d (.str z)), ("at", .d (.int a)), ("node_count", .d (.int n)), ("opened", .loc 1)] : List (Str × W)).all fun f => locIn m f.2) = true
  simp [locIn]
  omega
def PartR (C : Cs) (z : Str) (st : List (Str × List D)) (q : CR) : Sum (PtR × Nat × Nat) (Nat × Str) → Prop
  | .inl (.txt ls, b, n') => q = .ok (.d (.str (nm ls))) (rdO C z b n' :: rst st.length st)
  | .inl (.emp w, b, n') => q = .ok (.d (.tup [.str (nm w), .lst []])) (rdO C z b n' :: rst st.length st)
  | .inl (.opn w, b, n') => st.length + 1 ≤ 60 ∧ q = .ok (.d .non) (rdO C z b n' :: rst (st.length + 1) (st ++ [(nm w, [])]))
  | .inl (.cls, b, n') => ∃ st0 top ds, st = st0 ++ [(top, ds)] ∧ q = .ok (.loc (3 + 2 * st0.length)) (rdO C z b n' :: rst st0.length st)
  | .inr (p, s) => ∃ a' n', q = .exn (xt C z p s) (rdO C z a' n' :: rst st.length st)
theorem beginL_few {l : List Nat} {a p n k b n' : Nat} {r : PtR} (h : beginL l a p n k = .inl (r, b, n')) : k + 1 ≤ 60 := by
  unfold beginL at h
  cases q : nodeL p (k + 1) n with
  | some e => rw [q] at h; cases h
  | none =>
    unfold nodeL at q
    split at q
    · cases q
    · omega
theorem beginL_r {l : List Nat} {a p n k b n' : Nat} {r : PtR} (h : beginL l a p n k = .inl (r, b, n')) : (∃ w, r = .emp w) ∨ ∃ w, r = .opn w := by
  unfold beginL at h
  split at h
  · cases h
  · split at h
    · cases h
    · split at h
      · cases h
      · split at h
        · cases h
        · cases h; exact .inl ⟨_, rfl⟩
        · cases h
      · split at h
        · cases h
        · cases h; exact .inr ⟨_, rfl⟩
        · cases h
section
variable (C : Cs) (z : Str) (hz : z.length ≤ 200000) (st : List (Str × List D)) (hst : st.length ≤ 60) (a n : Nat)
include hz hst
theorem part_ok (ha : a ≤ z.length) : PartR C z st (F_DocumentReader_part C [.loc 0] (rdO C z a n :: rst st.length st)) (partL ((ch z).drop a) a n st.reverse) := by
  have h := rst_ok (Nat.le_refl st.length) (by omega : st.length ≤ 61)
  have hrl := rst_len st.length st
  have hL := locs_len st.length
  have hz2 : z.length ≤ 16777216 := by omega
  have g0 : ∀ x, (rdR (rst st.length st) x)[0]? = some (some (.lw (locs st.length))) := fun x => rfl
  have hs2 : st.length ≤ 16777216 := by omega
  have gL : ("<" : Str) = ⟨#[60]⟩ := by decide +kernel
  have t1 := take_run2 C z hz h a n ha 60
  unfold partL
  cases q1 : tagL ((ch z).drop a) a 60 with
  | inr e =>
    obtain ⟨p', s⟩ := e
    simp only [q1] at t1
    refine ⟨a, n, ?_⟩
    unfold F_DocumentReader_part
    refine mkG h ?_
    rw [hrl]
    simp -implicitDefEqProofs [fb_DocumentReader_part, hasNo_if, lookup_if, gL, t1]
    exact EndG_exn rfl rfl
  | inl k1 =>
    cases k1 with
    | false =>
      simp only [q1] at t1
      have hs := string_ok2 C z hz (us := locs st.length) (rt := stk 2 st) h a n ha (by rw [hL]; omega)
      rw [hL] at hs
      dsimp only
      rw [List.length_reverse]
      cases q2 : strL2 ((ch z).drop a) a n st.length with
      | inr e =>
        obtain ⟨p', s⟩ := e
        rw [q2] at hs
        obtain ⟨a', n', hs⟩ := hs
        have hr := fun sl x np => runL_exn (sl := sl) (x := x) (np := np) h hs rfl
        refine ⟨a', n', ?_⟩
        unfold F_DocumentReader_part
        refine mkG h ?_
        rw [hrl]
        simp -implicitDefEqProofs [fb_DocumentReader_part, hasNo_if, lookup_if, gL, t1, hr]
        exact EndG_exn rfl rfl
      | inl e =>
        obtain ⟨ls, b, n'⟩ := e
        rw [q2] at hs
        have hs : F_DocumentReader_string C [.loc 0] (rdO C z a n :: rst st.length st) = .ok (.d (.str ⟨ls.toArray⟩)) (rdO C z b n' :: rst st.length st) := hs
        have hr := fun sl x np => runL_ok (sl := sl) (x := x) (np := np) h hs rfl rfl
        show F_DocumentReader_part C [.loc 0] (rdO C z a n :: rst st.length st) = _
        unfold F_DocumentReader_part
        refine mkG h ?_
        rw [hrl]
        simp -implicitDefEqProofs [fb_DocumentReader_part, hasNo_if, lookup_if, gL, t1, hr]
        exact EndG_rt h (Nat.le_refl _) rfl
    | true =>
      simp only [q1] at t1
      obtain ⟨r, hr⟩ := tagL_t q1
      have ha1 : a + 1 ≤ z.length := by
        have := congrArg List.length hr
        rw [List.length_drop, ch_len, List.length_cons] at this
        omega
      have hd1 : (ch z).drop (a + 1) = ((ch z).drop a).drop 1 := by rw [List.drop_drop]
      have hsl := cut_slash (z := z) (a := a + 1)
      rw [hd1] at hsl
      have hsl : (cutS z (some ((a : Int) + 1)) (some ((a : Int) + 1 + 1)) == ("/" : Str)) = isSl (((ch z).drop a).drop 1) := hsl
      -- the beginning of an element
      have BEG : (0 < st.length → isSl (((ch z).drop a).drop 1) = false) → PartR C z st (F_DocumentReader_part C [.loc 0] (rdO C z a n :: rst st.length st)) (beginL (((ch z).drop a).drop 1) (a + 1) a n st.length) := by
        intro hno
        have hb := begin_ok C z hz st hst (a + 1) n ha1 a ha
        rw [hd1] at hb
        have hsl0 : ∀ k, (rst st.length st).length + 1 ≤ k → ∀ w, some w ∈ [some (W.loc 0), some (W.d (.int (a : Int)))] → isLoc k w = false := fun k hk w hw => by
          simp at hw
          rcases hw with rfl | rfl
          · show (0 == k) = false
            exact beq_false_of_ne (by omega)
          · rfl
        cases q3 : beginL (((ch z).drop a).drop 1) (a + 1) a n st.length with
        | inr e =>
          obtain ⟨p', s⟩ := e
          rw [q3] at hb
          obtain ⟨a', n', hb⟩ := hb
          have hr := fun sl x np => runL_exn (sl := sl) (x := x) (np := np) h hb rfl
          refine ⟨a', n', ?_⟩
          unfold F_DocumentReader_part
          refine mkG h ?_
          rw [hrl]
          by_cases h0 : 0 < st.length
          · have hf := hno h0
            rw [hf] at hsl
            simp -implicitDefEqProofs [fb_DocumentReader_part, hasNo_if, lookup_if, gL, t1, g0, hL, sizeL, hs2, hz2, h0, hsl, hr]
            exact EndG_exn rfl rfl
          · simp -implicitDefEqProofs [fb_DocumentReader_part, hasNo_if, lookup_if, gL, t1, g0, hL, sizeL, hs2, hz2, h0, hr]
            exact EndG_exn rfl rfl
        | inl e =>
          obtain ⟨r, b, n'⟩ := e
          have hfew := beginL_few q3
          rcases beginL_r q3 with ⟨w, rfl⟩ | ⟨w, rfl⟩
          · rw [q3] at hb
            have hb : F_DocumentReader_begin C [.loc 0, .d (.int a)] (rdO C z (a + 1) n :: rst st.length st) = .ok (.d (.tup [.str (nm w), .lst []])) (rdO C z b n' :: rst st.length st) := hb
            have hr := fun sl x np => runL_ok (sl := sl) (x := x) (np := np) h hb rfl rfl
            show F_DocumentReader_part C [.loc 0] (rdO C z a n :: rst st.length st) = _
            unfold F_DocumentReader_part
            refine mkG h ?_
            rw [hrl]
            by_cases h0 : 0 < st.length
            · have hf := hno h0
              rw [hf] at hsl
              simp -implicitDefEqProofs [fb_DocumentReader_part, hasNo_if, lookup_if, gL, t1, g0, hL, sizeL, hs2, hz2, h0, hsl, hr]
              exact EndG_rt h (Nat.le_refl _) rfl
            · simp -implicitDefEqProofs [fb_DocumentReader_part, hasNo_if, lookup_if, gL, t1, g0, hL, sizeL, hs2, hz2, h0, hr]
              exact EndG_rt h (Nat.le_refl _) rfl
          · rw [q3] at hb
            have hb : F_DocumentReader_begin C [.loc 0, .d (.int a)] (rdO C z (a + 1) n :: rst st.length st) = .ok (.d .non) (rdO C z b n' :: rst (st.length + 1) (st ++ [(nm w, [])])) := hb
            have hl2 : (st ++ [(nm w, ([] : List D))]).length = st.length + 1 := by rw [List.length_append]; rfl
            have h' : RsOk (rst (st.length + 1) (st ++ [(nm w, [])])) := rst_ok (by omega) (by omega)
            have hrl' := rst_len (st.length + 1) (st ++ [(nm w, ([] : List D))])
            rw [hl2] at hrl'
            have hr : runL (F_DocumentReader_begin C) [.loc 0, .d (.int a)] ⟨[some (.loc 0), some (.d (.int a))], some (rdO C z (a + 1) n) :: rdR (rst st.length st) none, 1 + 2 * st.length + 1⟩ = .ok (.d .non) ⟨[some (.loc 0), some (.d (.int a))], some (rdO C z b n') :: rdR (rst (st.length + 1) (st ++ [(nm w, [])])) none, 1 + 2 * st.length + 1⟩ :=
              runL_grow h h' (by omega) (inn_rd _ _ _ _ (by omega)) (inn_rd _ _ _ _ (by omega)) (by simp [locIn]) rfl hsl0 (by omega) hb
            refine ⟨hfew, ?_⟩
            unfold F_DocumentReader_part
            refine mkG h ?_
            rw [hrl]
            by_cases h0 : 0 < st.length
            · have hf := hno h0
              rw [hf] at hsl
              simp -implicitDefEqProofs [fb_DocumentReader_part, hasNo_if, lookup_if, gL, t1, g0, hL, sizeL, hs2, hz2, h0, hsl, hr]
              exact EndG_rt h' (by omega) rfl
            · simp -implicitDefEqProofs [fb_DocumentReader_part, hasNo_if, lookup_if, gL, t1, g0, hL, sizeL, hs2, hz2, h0, hr]
              exact EndG_rt h' (by omega) rfl
      rcases List.eq_nil_or_concat st with e0 | ⟨st0, x0, e0⟩
      · have hl0 : st.length = 0 := by rw [e0]; rfl
        have B := BEG (fun hh => by omega)
        subst e0
        exact B
      · obtain ⟨top, ds⟩ := x0
        rw [List.concat_eq_append] at e0
        have er : st.reverse = (top, ds) :: st0.reverse := by rw [e0, List.reverse_append]; rfl
        have hk : st.length = st0.length + 1 := by rw [e0, List.length_append]; rfl
        rw [er]
        dsimp only
        by_cases hS : isSl (((ch z).drop a).drop 1) = true
        · rw [if_pos hS]
          rw [hS] at hsl
          have ha2 : a + 2 ≤ z.length := by
            unfold isSl at hS
            cases q : ((ch z).drop a).drop 1 with
            | nil => rw [q] at hS; cases hS
            | cons c r =>
              have := congrArg List.length q
              rw [List.length_drop, List.length_drop, ch_len, List.length_cons] at this
              omega
          have he := end_ok C z hz st0 (by omega) top ds (a + 2) n ha2
          rw [← e0, ← hk, show (ch z).drop (a + 2) = ((ch z).drop a).drop 2 by rw [List.drop_drop]] at he
          have h0 : 0 < st.length := by omega
          cases q4 : endL (((ch z).drop a).drop 2) (a + 2) n top with
          | inr e =>
            obtain ⟨p', s⟩ := e
            rw [q4] at he
            obtain ⟨a', n', he⟩ := he
            rw [← e0, ← hk] at he
            have hr : ∀ sl x np, runL (F_DocumentReader_end C) [.loc 0] ⟨sl, some (.obj C.DocumentReader [("text", .d (.str z)), ("at", .d (.int ((a : Int) + 1 + 1))), ("node_count", .d (.int n)), ("opened", .loc 1)]) :: rdR (rst st.length st) x, np⟩ = .exn (xt C z p' s) ⟨sl, some (rdO C z a' n') :: rdR (rst st.length st) x, np⟩ := fun sl x np => runL_exn (sl := sl) (x := x) (np := np) h he rfl
            refine ⟨a', n', ?_⟩
            unfold F_DocumentReader_part
            refine mkG h ?_
            rw [hrl]
            simp -implicitDefEqProofs [fb_DocumentReader_part, hasNo_if, lookup_if, gL, t1, g0, hL, sizeL, hs2, hz2, h0, hsl, hr]
            exact EndG_exn rfl rfl
          | inl e =>
            obtain ⟨r, b, n'⟩ := e
            have hcls := endL_inl q4
            cases r with
            | cls =>
              rw [q4] at he
              have he : F_DocumentReader_end C [.loc 0] (rdO C z (a + 2) n :: rst st.length st) = .ok (.loc (3 + 2 * st0.length)) (rdO C z b n' :: rst st0.length (st0 ++ [(top, ds)])) := he
              rw [← e0] at he
              have h' : RsOk (rst st0.length st) := rst_ok (by omega) (by omega)
              have hrl' := rst_len st0.length st
              have hr : ∀ sl x np, runL (F_DocumentReader_end C) [.loc 0] ⟨sl, some (.obj C.DocumentReader [("text", .d (.str z)), ("at", .d (.int ((a : Int) + 1 + 1))), ("node_count", .d (.int n)), ("opened", .loc 1)]) :: rdR (rst st.length st) x, np⟩ = .ok (.loc (3 + 2 * st0.length)) ⟨sl, some (rdO C z b n') :: rdR (rst st0.length st) x, np⟩ := fun sl x np =>
                runL_same (c := rdO C z (a + 2) n) h h' (by omega) (inn_rd _ _ _ _ (by omega)) (inn_rd _ _ _ _ (by omega)) (by simp [locIn]) (decide_eq_true (by omega)) he
              refine ⟨st0, top, ds, e0, ?_⟩
              unfold F_DocumentReader_part
              refine mkG h ?_
              rw [hrl]
              simp -implicitDefEqProofs [fb_DocumentReader_part, hasNo_if, lookup_if, gL, t1, g0, hL, sizeL, hs2, hz2, h0, hsl, hr]
              exact EndG_rt h' (by omega) rfl
            | txt ls => exact hcls.elim
            | emp w => exact hcls.elim
            | opn w => exact hcls.elim
        · rw [if_neg hS]
          have := BEG (fun _ => by simpa using hS)
          rw [show ((top, ds) :: st0.reverse).length = st.length by rw [← er, List.length_reverse]]
          exact this
end
end Tp
end
section
set_option Elab.async false
set_option linter.all false
set_option maxRecDepth 100000
set_option maxHeartbeats 8000000
namespace Tp
open PySem L2 Dl Tp.Tx
theorem subst_id {k : Nat} {x : D} {c : Cell} (h : c.refs k = false) : c.subst k x = c := by
  have sw : ∀ w : W, isLoc k w = false → substW k x w = w := fun w hw => by
    cases w with
    | d y => rfl
    | loc n =>
      have hn : ¬ n = k := by
        intro e; subst e
        simp [isLoc] at hw
      show (if n = k then W.d x else .loc n) = _
      rw [if_neg hn]
  have ml : ∀ us : List W, us.any (isLoc k) = false → us.map (substW k x) = us := fun us hu => by
    rw [List.any_eq_false] at hu
    conv => rhs; rw [← List.map_id us]
    exact List.map_congr_left fun w hw => sw w (by simpa using hu w hw)
  cases c with
  | obj C fs =>
    have h : fs.any (fun f => isLoc k f.2) = false := h
    rw [List.any_eq_false] at h
    show Cell.obj C (fs.map fun f => (f.1, substW k x f.2)) = _
    congr 1
    conv => rhs; rw [← List.map_id fs]
    exact List.map_congr_left fun f hf => by rw [sw f.2 (by simpa using h f hf)]; rfl
  | lw us => show Cell.lw (us.map (substW k x)) = _; rw [ml us h]
  | tw us => show Cell.tw (us.map (substW k x)) = _; rw [ml us h]
  | _ => rfl
theorem mapO_none {α β : Type} (f : α → β) (m : Nat) : mapO f (List.replicate m (none : Option α)) = List.replicate m none := by
  rw [mapO_eq, List.map_replicate]
  rfl
theorem mapO_cells {k : Nat} {x : D} {l : List Cell} (h : ∀ c ∈ l, c.refs k = false) : mapO (Cell.subst k x) (l.map some) = l.map some := by
  rw [mapO_eq, List.map_map]
  exact List.map_congr_left fun c hc => by
    show some (c.subst k x) = some c
    rw [subst_id (h c hc)]
theorem mapO_app {α β : Type} (f : α → β) (a b : List (Option α)) : mapO f (a ++ b) = mapO f a ++ mapO f b := by rw [mapO_eq, mapO_eq, mapO_eq, List.map_append]
theorem frz_two {A : List Cell} {w : Str} {ds : List D} {m np : Nat} (hA : A.all (Cell.inn A.length) = true) (h1 : 1 ≤ A.length) (hnp : np ≤ A.length) :
    frzD 1 ⟨[some (.loc 0), some (.loc (A.length + 1))], A.map some ++ (some (.lst ds) :: some (.tw [.d (.str w), .loc A.length]) :: List.replicate m none), np⟩ =
      some ⟨[some (.loc 0), some (.d (.tup [.str w, .lst ds]))], A.map some ++ (none :: none :: List.replicate m none), np⟩ := by
  have hr : ∀ k, A.length ≤ k → ∀ c ∈ A, c.refs k = false := fun k hk c hc => inn_refs (List.all_eq_true.mp hA c hc) hk
  have n0 : ∀ k, A.length ≤ k → substW k (.lst ds) (.loc 0) = .loc 0 := fun k hk => by
    show (if 0 = k then _ else _) = _
    rw [if_neg (by omega)]
  have get : ∀ (t : List (Option Cell)) (o : Option Cell), (A.map some ++ (o :: t))[A.length]? = some o := fun t o => by
    rw [List.getElem?_append_right (by rw [List.length_map]; exact Nat.le_refl _), List.length_map, Nat.sub_self]; rfl
  have get1 : ∀ (t : List (Option Cell)) (o o' : Option Cell), (A.map some ++ (o :: o' :: t))[A.length + 1]? = some o' := fun t o o' => by
    rw [List.getElem?_append_right (by rw [List.length_map]; omega), List.length_map, show A.length + 1 - A.length = 1 by omega]; rfl
  have st : ∀ (t : List (Option Cell)) (o y : Option Cell), (A.map some ++ (o :: t)).set A.length y = A.map some ++ (y :: t) := fun t o y => by
    rw [List.set_append_right _ _ (by rw [List.length_map]; exact Nat.le_refl _), List.length_map, Nat.sub_self]; rfl
  have st1 : ∀ (t : List (Option Cell)) (o o' y : Option Cell), (A.map some ++ (o :: o' :: t)).set (A.length + 1) y = A.map some ++ (o :: y :: t) := fun t o o' y => by
    rw [List.set_append_right _ _ (by rw [List.length_map]; omega), List.length_map, show A.length + 1 - A.length = 1 by omega]; rfl
  have f1 : Dl.frz A.length ⟨[some (.loc 0), some (.loc (A.length + 1))], A.map some ++ (some (.lst ds) :: some (.tw [.d (.str w), .loc A.length]) :: List.replicate m none), np⟩ =
      some ⟨[some (.loc 0), some (.loc (A.length + 1))], A.map some ++ (none :: some (.tw [.d (.str w), .d (.lst ds)]) :: List.replicate m none), np⟩ := by
    unfold Dl.frz
    rw [if_pos hnp]
    unfold Env.cell
    simp only [get]
    show some (Env.sub _ A.length (.lst ds)) = _
    unfold Env.sub
    have e1 : mapO (substW A.length (.lst ds)) [some (W.loc 0), some (.loc (A.length + 1))] = [some (.loc 0), some (.loc (A.length + 1))] := by
      show [some (substW A.length (.lst ds) (.loc 0)), some (if A.length + 1 = A.length then W.d (.lst ds) else .loc (A.length + 1))] = _
      rw [n0 _ (Nat.le_refl _), if_neg (by omega)]
    have e2 : mapO (Cell.subst A.length (.lst ds)) (A.map some ++ (some (.lst ds) :: some (.tw [.d (.str w), .loc A.length]) :: List.replicate m none)) = A.map some ++ (some (.lst ds) :: some (.tw [.d (.str w), .d (.lst ds)]) :: List.replicate m none) := by
      rw [mapO_app, mapO_cells (hr _ (Nat.le_refl _))]
      congr 1
      show some (Cell.lst ds) :: some (Cell.tw [.d (.str w), if A.length = A.length then .d (.lst ds) else .loc A.length]) :: mapO _ (List.replicate m none) = _
      rw [if_pos rfl, mapO_none]
    simp only [e1, e2, st]
  have f2 : Dl.frz (A.length + 1) ⟨[some (.loc 0), some (.loc (A.length + 1))], A.map some ++ (none :: some (.tw [.d (.str w), .d (.lst ds)]) :: List.replicate m none), np⟩ =
      some ⟨[some (.loc 0), some (.d (.tup [.str w, .lst ds]))], A.map some ++ (none :: none :: List.replicate m none), np⟩ := by
    unfold Dl.frz
    rw [if_pos (by show np ≤ A.length + 1; omega)]
    unfold Env.cell
    simp only [get1]
    show some (Env.sub _ (A.length + 1) (.tup [.str w, .lst ds])) = _
    unfold Env.sub
    have e1 : mapO (substW (A.length + 1) (.tup [.str w, .lst ds])) [some (W.loc 0), some (.loc (A.length + 1))] = [some (.loc 0), some (.d (.tup [.str w, .lst ds]))] := by
      show [some (if 0 = A.length + 1 then W.d (.tup [.str w, .lst ds]) else .loc 0), some (if A.length + 1 = A.length + 1 then W.d (.tup [.str w, .lst ds]) else .loc (A.length + 1))] = _
      rw [if_neg (by omega), if_pos rfl]
    have e2 : mapO (Cell.subst (A.length + 1) (.tup [.str w, .lst ds])) (A.map some ++ (none :: some (.tw [.d (.str w), .d (.lst ds)]) :: List.replicate m none)) = A.map some ++ (none :: some (.tw [.d (.str w), .d (.lst ds)]) :: List.replicate m none) := by
      rw [mapO_app, mapO_cells (hr _ (by omega))]
      congr 1
      show none :: some (Cell.tw [.d (.str w), .d (.lst ds)]) :: mapO _ (List.replicate m none) = _
      rw [mapO_none]
    simp only [e1, e2, st1]
  unfold Dl.frzD Env.slot
  show (match Dl.frz (A.length + 1 - 1) _ with | some e1 => Dl.frz (A.length + 1) e1 | none => none) = _
  rw [Nat.add_sub_cancel, f1]
  exact f2
theorem frz_top (C : Cs) (z : Str) (a n : Nat) (st : List (Str × List D)) (hst : st.length ≤ 60) (w : Str) (ds : List D) :
    frzD 1 ⟨[some (.loc 0), some (.loc (3 + 2 * st.length))], some (rdO C z a n) :: rdR (rst st.length (st ++ [(w, ds)])) none, 2⟩ =
      some ⟨[some (.loc 0), some (.d (.tup [.str w, .lst ds]))], some (rdO C z a n) :: rdR (rst st.length st) none, 2⟩ := by
  have hl : (rdO C z a n :: rst st.length st).length = 2 + 2 * st.length := by rw [List.length_cons, rst_len]; omega
  have h := rst_ok (Nat.le_refl st.length) (by omega : st.length ≤ 61)
  have hA : (rdO C z a n :: rst st.length st).all (Cell.inn (rdO C z a n :: rst st.length st).length) = true := by
    have := h.inn
    rw [rst_len] at this
    rw [hl, List.all_cons, inn_rd _ _ _ _ (by omega), show 2 + 2 * st.length = 1 + 2 * st.length + 1 by omega, this]
    rfl
  have := frz_two (A := rdO C z a n :: rst st.length st) (w := w) (ds := ds) (m := 126 - 2 * st.length) (np := 2) hA (by omega) (by omega)
  rw [hl] at this
  have e1 : some (rdO C z a n) :: rdR (rst st.length (st ++ [(w, ds)])) none = (rdO C z a n :: rst st.length st).map some ++ (some (.lst ds) :: some (.tw [.d (.str w), .loc (2 + 2 * st.length)]) :: List.replicate (126 - 2 * st.length) none) := by
    unfold rdR
    rw [rst_len, rst_app, List.map_append, List.map_cons, List.length_append, List.append_assoc, List.cons_append]
    congr 1
    congr 1
    show some _ :: some _ :: (List.replicate (128 - (1 + 2 * (st.length + 1))) none ++ [none]) = _
    rw [← List.replicate_succ', show 128 - (1 + 2 * (st.length + 1)) + 1 = 126 - 2 * st.length by omega]
  have e2 : some (rdO C z a n) :: rdR (rst st.length st) none = (rdO C z a n :: rst st.length st).map some ++ (none :: none :: List.replicate (126 - 2 * st.length) none) := by
    unfold rdR
    rw [rst_len, List.map_cons, List.cons_append]
    congr 1
    congr 1
    rw [← List.replicate_succ', ← List.replicate_succ, ← List.replicate_succ]
    congr 1
    omega
  rw [e1, e2, show 3 + 2 * st.length = 2 + 2 * st.length + 1 by omega]
  exact this
theorem frzD_d {x : D} {M : List (Option Cell)} {np : Nat} : frzD 1 ⟨[some (.loc 0), some (.d x)], M, np⟩ = some ⟨[some (.loc 0), some (.d x)], M, np⟩ := rfl
/-- a tree goes to the last open element -/
theorem app_ev (C : Cs) (z : Str) (a n : Nat) (st : List (Str × List D)) (hst : st.length ≤ 60) (w : Str) (ds : List D) (d : D) (hds : ds.length ≤ 200000) :
    eM isLst kAppend (eIx (eIx (eFld C.DocumentReader "opened" (eVar 0)) (eNeg (eC (.int 1)))) (eC (.int 1))) [eVar 1] ⟨[some (.loc 0), some (.d d)], some (rdO C z a n) :: rdR (rst (st.length + 1) (st ++ [(w, ds)])) none, 2⟩ =
      .ok (.d .non) ⟨[some (.loc 0), some (.d d)], some (rdO C z a n) :: rdR (rst (st.length + 1) (st ++ [(w, ds ++ [d])])) none, 2⟩ := by
  have g0 : ∀ x, (rdR (rst (st.length + 1) (st ++ [(w, ds)])) x)[0]? = some (some (.lw (locs (st.length + 1)))) := fun x => rfl
  have gt := top_tup (st.length + 1) st w ds
  have gl := top_lst (st.length + 1) st w ds
  have hal := atI_locs st.length
  have hpc : pushC (Cell.lst ds) (W.d d) = some (.lst (ds ++ [d])) := by
    show (if ds.length < sizeLine then some (Cell.lst (ds ++ [d])) else none) = _
    exact if_pos (by rw [sizeL]; omega)
  have hset : (some (rdO C z a n) :: rdR (rst (st.length + 1) (st ++ [(w, ds)])) none).set (2 + 2 * st.length) (some (.lst (ds ++ [d]))) = some (rdO C z a n) :: rdR (rst (st.length + 1) (st ++ [(w, ds ++ [d])])) none := by
    have e : 2 + 2 * st.length = (rst (st.length + 1) st).length + 1 := by rw [rst_len]; omega
    rw [rst_app, rst_app, e, List.set_cons_succ]
    unfold rdR
    have e3 : ∀ y : List D, (rst (st.length + 1) st ++ [Cell.lst y, .tw [.d (.str w), .loc ((rst (st.length + 1) st).length + 1)]]).map some = (rst (st.length + 1) st).map some ++ (some (.lst y) :: some (.tw [.d (.str w), .loc ((rst (st.length + 1) st).length + 1)]) :: []) := fun y => by rw [List.map_append]; rfl
    rw [e3, e3, List.append_assoc, List.set_append_right _ _ (by rw [List.length_map]; exact Nat.le_refl _), List.length_map, Nat.sub_self, List.append_assoc]
    rw [List.length_append, List.length_append]
    rfl
  simp -implicitDefEqProofs [lookup_if, g0, hal, gt, gl, hpc, hset]
end Tp
end
section
set_option Elab.async false
set_option linter.all false
set_option maxRecDepth 100000
set_option maxHeartbeats 8000000
namespace Tp
open PySem L2 Dl Tp.Tx
abbrev Edc (C : Cs) (z : Str) (a n : Nat) (st : List (Str × List D)) (dn : D) : Dl.Env := E_DocumentReader_document (x_self := some (.loc 0)) (x_done := some (.d dn)) (c0 := some (rdO C z a n)) (rest := rdR (rst st.length st) none) (np := 2)
def EndD (C : Cs) (z : Str) (o : Sum (D × Nat × Nat) (Nat × Str)) (r : SR) : Prop := match o with
  | .inl (d, b, n') => r = .nx (Edc C z b n' [] d)
  | .inr (p, s) => ∃ sl a' n' j st', j ≤ st'.length ∧ st'.length ≤ 61 ∧ r = .exn (xt C z p s) ⟨sl, some (rdO C z a' n') :: rdR (rst j st') none, 2⟩
section
variable (C : Cs) (z : Str) (hz : z.length ≤ 200000)
include hz
/-- the end of a turn: the tree d has ended -/
theorem turn_end (a n : Nat) (st : List (Str × List D)) (hst : st.length ≤ 60) (hds : ∀ x ∈ st, x.2.length ≤ 200000) (d : D) (hd : isNB d .non = some false) (hd2 : notNB d .non = some true) :
    (sIf (bAnd (bOp notNB (eVar 1) (eC .non)) (bOp gtB (eCB kLen [(eFld C.DocumentReader "opened" (eVar 0))]) (eC (.int 0)))) (sExpr (eM isLst kAppend (eIx (eIx (eFld C.DocumentReader "opened" (eVar 0)) (eNeg (eC (.int 1)))) (eC (.int 1))) [(eVar 1)])) sNil) (Edc C z a n st d) =
      .nx (match putT (some d, st.reverse) with | .inl _ => Edc C z a n [] d | .inr st' => Edc C z a n st'.reverse d) := by
  have g0 : ∀ x, (rdR (rst st.length st) x)[0]? = some (some (.lw (locs st.length))) := fun x => rfl
  have hL := locs_len st.length
  have hs2 : st.length ≤ 16777216 := by omega
  rcases List.eq_nil_or_concat st with e0 | ⟨st0, x0, e0⟩
  · subst e0
    have hL0 : (locs 0).length = 0 := rfl
    have g00 : ∀ x, (rdR (rst 0 []) x)[0]? = some (some (.lw (locs 0))) := fun x => rfl
    simp -implicitDefEqProofs [lookup_if, g00, hL0, sizeL, hd2, putT]
  · obtain ⟨top, ds⟩ := x0
    rw [List.concat_eq_append] at e0
    have er : st.reverse = (top, ds) :: st0.reverse := by rw [e0, List.reverse_append]; rfl
    have hk : st.length = st0.length + 1 := by rw [e0, List.length_append]; rfl
    have hap := app_ev C z a n st0 (by omega) top ds d (hds (top, ds) (by rw [e0]; simp))
    rw [← hk, ← e0] at hap
    have h0 : 0 < st.length := by omega
    rw [er]
    have ht : (match putT (some d, (top, ds) :: st0.reverse) with | .inl _ => Edc C z a n [] d | .inr st' => Edc C z a n st'.reverse d) = Edc C z a n (st0 ++ [(top, ds ++ [d])]) d := by
      show Edc C z a n ((top, ds ++ [d]) :: st0.reverse).reverse d = _
      rw [List.reverse_cons, List.reverse_reverse]
    rw [ht]
    have hk2 : (st0 ++ [(top, ds ++ [d])]).length = st.length := by rw [hk, List.length_append]; rfl
    simp -implicitDefEqProofs [-eM_ev, lookup_if, g0, hL, sizeL, hs2, h0, hd2, hap]
    rw [← hk]
theorem doc_w1 (a n : Nat) (st : List (Str × List D)) (dn : D) (f : Nat) (ha : a ≤ z.length) (hst : st.length ≤ 60) (hds : ∀ x ∈ st, x.2.length ≤ a) (hdn : dn = .non ∨ (isNB dn .non = some false ∧ 0 < st.length)) (hf : z.length - a < f) :
    EndD C z (docG f ((ch z).drop a) a n st.reverse) (fb_DocumentReader_document_w1 C (Edc C z a n st dn)) := by
  unfold fb_DocumentReader_document_w1
  refine while_i (S := Sum (Nat × Nat × List (Str × List D) × D × Nat) (D × Nat × Nat)) (fun s => match s with | .inl (a, n, st, dn, _) => Edc C z a n st dn | .inr (d, b, n') => Edc C z b n' [] d)
    (fun s => match s with
      | .inl (b, m, st', dn', g) => b ≤ z.length ∧ st'.length ≤ 60 ∧ (∀ x ∈ st', x.2.length ≤ b) ∧ (dn' = .non ∨ (isNB dn' .non = some false ∧ 0 < st'.length)) ∧ z.length - b < g ∧ docG f ((ch z).drop a) a n st.reverse = docG g ((ch z).drop b) b m st'.reverse
      | .inr (d, b, m) => isNB d .non = some false ∧ docG f ((ch z).drop a) a n st.reverse = .inl (d, b, m))
    (fun s => match s with | .inl (b, _) => z.length - b + 1 | .inr _ => 0)
    (fun r => EndD C z (docG f ((ch z).drop a) a n st.reverse) r) (.inl (a, n, st, dn, f)) ⟨ha, hst, hds, hdn, hf, rfl⟩ (by show z.length - a + 1 < 1000000; omega) ?_
  rintro (⟨b, m, st', dn', g⟩ | ⟨d, b, m⟩)
  · rintro ⟨i1, i2, i3, i4, i5, i6⟩
    dsimp only
    rw [i6]
    obtain ⟨g, rfl⟩ : ∃ g', g = g' + 1 := ⟨g - 1, by omega⟩
    have h := rst_ok (Nat.le_refl st'.length) (by omega : st'.length ≤ 61)
    have hrl := rst_len st'.length st'
    have g0 : ∀ x, (rdR (rst st'.length st') x)[0]? = some (some (.lw (locs st'.length))) := fun x => rfl
    have hL := locs_len st'.length
    have hs2 : st'.length ≤ 16777216 := by omega
    have hp := part_ok C z hz st' i2 b m i1
    rw [docG_s]
    -- the test
    have htest : (bOr (bOp isNB (eVar 1) (eC .non)) (bOp gtB (eCB kLen [(eFld C.DocumentReader "opened" (eVar 0))]) (eC (.int 0)))) (Edc C z b m st' dn') = .ok true (Edc C z b m st' dn') := by
      rcases i4 with rfl | ⟨j1, j2⟩
      · simp -implicitDefEqProofs []
      · simp -implicitDefEqProofs [lookup_if, j1, g0, hL, sizeL, hs2, j2]
    rw [htest]
    cases q : partL ((ch z).drop b) b m st'.reverse with
    | inr e =>
      obtain ⟨p, s⟩ := e
      rw [q] at hp
      obtain ⟨a', n', hp⟩ := hp
      have hr := fun sl x np => runL_exn (sl := sl) (x := x) (np := np) h hp rfl
      right; right; right
      refine ⟨xt C z p s, ⟨[some (.loc 0), some (.d dn')], some (rdO C z a' n') :: rdR (rst st'.length st') none, 2⟩, ?_, _, _, _, _, _, Nat.le_refl _, by omega, rfl⟩
      simp -implicitDefEqProofs [fb_DocumentReader_document_w1b, hasNo_if, lookup_if, hr, nxD]
    | inl e =>
      obtain ⟨r, b', m'⟩ := e
      obtain ⟨k1, k2⟩ := partL_b q
      rw [List.length_drop, ch_len] at k2
      have hb' : b' ≤ z.length := by omega
      have hdd : ((ch z).drop b).drop (b' - b) = (ch z).drop b' := by rw [List.drop_drop, show b + (b' - b) = b' by omega]
      rw [q] at hp
      dsimp only
      have FIN : ∀ (d2 : D) (st2 : List (Str × List D)), stepT r st'.reverse = (some d2, st2.reverse) → st2.length ≤ 60 → (∀ x ∈ st2, x.2.length ≤ b) → isNB d2 .non = some false → notNB d2 .non = some true →
          (sThenD 1 (sSet 1 (eMethL C.DocumentReader "part" 1 (F_DocumentReader_part C) (eVar 0) []))) (Edc C z b m st' dn') = .nx (Edc C z b' m' st2 d2) →
          (∃ s' : Sum (Nat × Nat × List (Str × List D) × D × Nat) (D × Nat × Nat), whT (.ok true (Edc C z b m st' dn')) (fb_DocumentReader_document_w1b C) [] = .nx (match s' with | .inl (a, n, st, dn, _) => Edc C z a n st dn | .inr (d, b, n') => Edc C z b n' [] d) ∧
            (match s' with
              | .inl (b2, m2, st2', dn2, g2) => b2 ≤ z.length ∧ st2'.length ≤ 60 ∧ (∀ x ∈ st2', x.2.length ≤ b2) ∧ (dn2 = .non ∨ (isNB dn2 .non = some false ∧ 0 < st2'.length)) ∧ z.length - b2 < g2 ∧ ((match putT (stepT r st'.reverse) with | .inl d => .inl (d, b', m') | .inr st' => docG g (((ch z).drop b).drop (b' - b)) b' m' st') : Sum (D × Nat × Nat) (Nat × Str)) = docG g2 ((ch z).drop b2) b2 m2 st2'.reverse
              | .inr (d, b2, m2) => isNB d .non = some false ∧ ((match putT (stepT r st'.reverse) with | .inl d => .inl (d, b', m') | .inr st' => docG g (((ch z).drop b).drop (b' - b)) b' m' st') : Sum (D × Nat × Nat) (Nat × Str)) = .inl (d, b2, m2)) ∧
            (match s' with | .inl (b2, _) => z.length - b2 + 1 | .inr _ => 0) < z.length - b + 1) := by
        intro d2 st2 hst2 hl2 hds2 hn1 hn2 hA
        have hB : fb_DocumentReader_document_w1b C (Edc C z b m st' dn') = .nx (match putT (some d2, st2.reverse) with | .inl _ => Edc C z b' m' [] d2 | .inr st3 => Edc C z b' m' st3.reverse d2) := by
          unfold fb_DocumentReader_document_w1b
          rw [sSeq_ev, hA]
          exact turn_end C z hz b' m' st2 hl2 (fun x hx => by have := hds2 x hx; omega) d2 hn1 hn2
        rw [hst2, hdd]
        rcases List.eq_nil_or_concat st2 with e0 | ⟨st0, x0, e0⟩
        · refine ⟨.inr (d2, b', m'), ?_, ⟨hn1, ?_⟩, by show 0 < _; omega⟩
          · rw [whT_t, hB, e0]; rfl
          · rw [e0]; rfl
        · obtain ⟨top, ds⟩ := x0
          rw [List.concat_eq_append] at e0
          have er : st2.reverse = (top, ds) :: st0.reverse := by rw [e0, List.reverse_append]; rfl
          have e4 : ((top, ds ++ [d2]) :: st0.reverse).reverse = st0 ++ [(top, ds ++ [d2])] := by rw [List.reverse_cons, List.reverse_reverse]
          have hl3 : (st0 ++ [(top, ds ++ [d2])]).length = st2.length := by rw [e0, List.length_append, List.length_append]; rfl
          refine ⟨.inl (b', m', st0 ++ [(top, ds ++ [d2])], d2, g), ?_, ⟨hb', by omega, ?_, .inr ⟨hn1, by rw [List.length_append]; show 0 < st0.length + 1; omega⟩, by omega, ?_⟩, by show z.length - b' + 1 < _; omega⟩
          · rw [whT_t, hB, er]
            show turnK [] (.nx (Edc C z b' m' ((top, ds ++ [d2]) :: st0.reverse).reverse d2)) = _
            rw [e4]; rfl
          · intro x hx
            rcases List.mem_append.mp hx with h1 | h1
            · have := hds2 x (by rw [e0]; exact List.mem_append_left _ h1)
              omega
            · rw [List.mem_singleton.mp h1]
              have := hds2 (top, ds) (by rw [e0]; simp)
              show (ds ++ [d2]).length ≤ b'
              rw [List.length_append]
              show ds.length + 1 ≤ b'
              have : ds.length ≤ b := this
              omega
          · rw [er]
            show docG g _ b' m' ((top, ds ++ [d2]) :: st0.reverse) = _
            rw [List.reverse_append]
            rfl
      cases r with
      | txt ls =>
        left
        have hp : F_DocumentReader_part C [.loc 0] (rdO C z b m :: rst st'.length st') = .ok (.d (.str (nm ls))) (rdO C z b' m' :: rst st'.length st') := hp
        have hr := fun sl x np => runL_ok (sl := sl) (x := x) (np := np) h hp rfl rfl
        exact FIN (.str (nm ls)) st' rfl i2 i3 rfl rfl (by simp -implicitDefEqProofs [hasNo_if, lookup_if, hr, nxD, frzD_d])
      | emp w =>
        left
        have hp : F_DocumentReader_part C [.loc 0] (rdO C z b m :: rst st'.length st') = .ok (.d (.tup [.str (nm w), .lst []])) (rdO C z b' m' :: rst st'.length st') := hp
        have hr := fun sl x np => runL_ok (sl := sl) (x := x) (np := np) h hp rfl rfl
        exact FIN (.tup [.str (nm w), .lst []]) st' rfl i2 i3 rfl rfl (by simp -implicitDefEqProofs [hasNo_if, lookup_if, hr, nxD, frzD_d])
      | cls =>
        left
        obtain ⟨st0, top, ds, e0, hp⟩ := hp
        have hk : st'.length = st0.length + 1 := by rw [e0, List.length_append]; rfl
        have h' : RsOk (rst st0.length st') := rst_ok (by omega) (by omega)
        have hrl' := rst_len st0.length st'
        have hr : ∀ sl x np, runL (F_DocumentReader_part C) [.loc 0] ⟨sl, some (rdO C z b m) :: rdR (rst st'.length st') x, np⟩ = .ok (.loc (3 + 2 * st0.length)) ⟨sl, some (rdO C z b' m') :: rdR (rst st0.length st') x, np⟩ := fun sl x np =>
          runL_same (c := rdO C z b m) h h' (by omega) (inn_rd _ _ _ _ (by omega)) (inn_rd _ _ _ _ (by omega)) (by simp [locIn]) (decide_eq_true (by omega)) hp
        have hz4 := frz_top C z b' m' st0 (by omega) top ds
        rw [← e0] at hz4
        exact FIN (.tup [.str top, .lst ds]) st0 (by rw [e0, List.reverse_append]; rfl) (by omega) (fun x hx => i3 x (by rw [e0]; exact List.mem_append_left _ hx)) rfl rfl (by simp -implicitDefEqProofs [hasNo_if, lookup_if, hr, nxD, hz4])
      | opn w =>
        obtain ⟨h60, hp⟩ := hp
        have hl2 : (st' ++ [(nm w, ([] : List D))]).length = st'.length + 1 := by rw [List.length_append]; rfl
        have h' : RsOk (rst (st'.length + 1) (st' ++ [(nm w, [])])) := rst_ok (by omega) (by omega)
        have hrl' := rst_len (st'.length + 1) (st' ++ [(nm w, ([] : List D))])
        rw [hl2] at hrl'
        have hr : runL (F_DocumentReader_part C) [.loc 0] ⟨[some (.loc 0), some (.d dn')], some (rdO C z b m) :: rdR (rst st'.length st') none, 2⟩ = .ok (.d .non) ⟨[some (.loc 0), some (.d dn')], some (rdO C z b' m') :: rdR (rst (st'.length + 1) (st' ++ [(nm w, [])])) none, 2⟩ :=
          runL_grow h h' (by omega) (inn_rd _ _ _ _ (by omega)) (inn_rd _ _ _ _ (by omega)) (by simp [locIn]) rfl (fun k hk v hv => by
            simp at hv
            rcases hv with rfl | rfl
            · show (0 == k) = false
              exact beq_false_of_ne (by omega)
            · rfl) (by omega) hp
        left
        refine ⟨.inl (b', m', st' ++ [(nm w, [])], .non, g), ?_, ⟨hb', by omega, ?_, .inl rfl, by omega, ?_⟩, by show z.length - b' + 1 < _; omega⟩
        · simp -implicitDefEqProofs [fb_DocumentReader_document_w1b, hasNo_if, lookup_if, hr, nxD, frzD_d]
        · intro x hx
          rcases List.mem_append.mp hx with h1 | h1
          · have := i3 x h1
            omega
          · rw [List.mem_singleton.mp h1]
            exact Nat.zero_le _
        · rw [hdd, List.reverse_append]
          rfl
  · rintro ⟨i1, i2⟩
    dsimp only
    rw [i2]
    right; left
    refine ⟨Edc C z b m [] d, ?_, rfl⟩
    have g0 : ∀ x, (rdR (rst 0 []) x)[0]? = some (some (.lw (locs 0))) := fun x => rfl
    have hL0 : (locs 0).length = 0 := rfl
    simp -implicitDefEqProofs [lookup_if, i1, g0, hL0, sizeL]
end
end Tp
end
section
set_option Elab.async false
set_option linter.all false
set_option maxRecDepth 100000
set_option maxHeartbeats 8000000
namespace Tp
open PySem L2 Dl Tp.Tx
def mxK2 (b : Bool) (w : W) (P : Nat) (F : Fd) (L Ln : List Nat) (e : Dl.Env) : Rs W := if b = true then (if [w].length = P then runX F L Ln [w] e else .fail) else .fail
def mxK (r : Rs W) (C : Addr) (mn : Str) (P : Nat) (F : Fd) (L Ln : List Nat) : Rs W := r.bind fun w e1 => if (insD C mn e1 w && wl e1 w) = true then (if [w].length = P then runX F L Ln [w] e1 else .fail) else .fail
@[simp] theorem eMethX_ev {C : Addr} {mn : Str} {P : Nat} {F : Fd} {L Ln : List Nat} {g : Ev} {e : Dl.Env} : eMethX C mn P F L Ln g e = mxK (g e) C mn P F L Ln := rfl
@[simp] theorem mxK_ok {C : Addr} {mn : Str} {P : Nat} {F : Fd} {L Ln : List Nat} {w : W} {e : Dl.Env} : mxK (.ok w e) C mn P F L Ln = mxK2 (insD C mn e w && wl e w) w P F L Ln e := rfl
@[simp] theorem mxK2_t {P : Nat} {F : Fd} {L Ln : List Nat} {w : W} {e : Dl.Env} : mxK2 true w P F L Ln e = if [w].length = P then runX F L Ln [w] e else .fail := rfl
@[simp] theorem mapCell_lwv {g : W → Option W} {us : List W} : mapCell g (.lw us) = (match mapW g us with | some us' => some (.lw us') | none => none) := rfl
@[simp] theorem mapW_nilv {g : W → Option W} : mapW g [] = some [] := rfl
def EndM (q : CR) : SR → Prop
  | .rt w e => ∃ c us t, q = .ok w [c, .lw us] ∧ e.M = some c :: some (.lw us) :: t
  | .exn y e => ∃ c us t, q = .exn y [c, .lw us] ∧ e.M = some c :: some (.lw us) :: t
  | _ => False
theorem EndM_rt {q : CR} {w : W} {sl : List (Option W)} {c : Cell} {us : List W} {r : List Cell} {x : Option Cell} {np : Nat} (e : q = .ok w [c, .lw us]) : EndM q (.rt w ⟨sl, some c :: rdR (.lw us :: r) x, np⟩) := ⟨c, us, _, e, rfl⟩
theorem EndM_exn {q : CR} {y : Xn} {sl : List (Option W)} {c : Cell} {us : List W} {r : List Cell} {x : Option Cell} {np : Nat} (e : q = .exn y [c, .lw us]) : EndM q (.exn y ⟨sl, some c :: rdR (.lw us :: r) x, np⟩) := ⟨c, us, _, e, rfl⟩
theorem mkM {N : Nat} {f : Sv} {ws : List W} {c : Cell} {q : CR} (hf : EndM q (f ⟨ws.map some ++ List.replicate (N - ws.length) none, some c :: rdR (rst 0 []) none, 2⟩)) : mkF N 130 0 f ws (c :: rst 0 []) = q := by
  have h := rst_ok (Nat.le_refl 0) (by simp : ([] : List (Str × List D)).length ≤ 61)
  unfold mkF
  rw [env0R h]
  have e0 : (rst 0 []).length + 1 = 2 := rfl
  rw [e0]
  cases hr : f ⟨ws.map some ++ List.replicate (N - ws.length) none, some c :: rdR (rst 0 []) none, 2⟩ with
  | rt w e =>
    rw [hr] at hf
    obtain ⟨c', us, t, e1, e2⟩ := hf
    simp only
    rw [e2, e1]
    rfl
  | nx e => rw [hr] at hf; exact hf.elim
  | exn y e =>
    rw [hr] at hf
    obtain ⟨c', us, t, e1, e2⟩ := hf
    simp only
    rw [e2, e1]
    rfl
  | bk e => rw [hr] at hf; exact hf.elim
  | ct e => rw [hr] at hf; exact hf.elim
  | fail => rw [hr] at hf; exact hf.elim
def DocR (C : Cs) (z : Str) (q : CR) : Sum D (Nat × Str) → Prop
  | .inl d => ∃ a n, q = .ok (.d d) [rdO C z a n, .lw []]
  | .inr (p, s) => ∃ a n us, q = .exn (xt C z p s) [rdO C z a n, .lw us]
theorem docG_b : ∀ {f : Nat} {l : List Nat} {a n : Nat} {st : List (Str × List D)} {d : D} {b m : Nat}, docG f l a n st = .inl (d, b, m) → b ≤ a + l.length
  | 0, _, _, _, _, _, _, _, h => by cases h
  | f + 1, l, a, n, st, d, b, m, h => by
    rw [docG_s] at h
    split at h
    · cases h
    · rename_i r b' n' hp
      obtain ⟨h1, h2⟩ := partL_b hp
      split at h
      · cases h; omega
      · have := docG_b h
        rw [List.length_drop] at this
        omega
section
variable (C : Cs) (z : Str) (hz : z.length ≤ 200000)
include hz
theorem document_ok : DocR C z (F_DocumentReader_document C [.loc 0] (rdO C z 0 0 :: rst 0 [])) (readL (ch z)) := by
  have h := rst_ok (Nat.le_refl 0) (by simp : ([] : List (Str × List D)).length ≤ 61)
  have hz2 : z.length ≤ 16777216 := by omega
  have gL : ("<" : Str) = ⟨#[60]⟩ := by decide +kernel
  have hl := look_run C z hz h 0 0 (Nat.zero_le _)
  rw [lookR_eq, List.drop_zero] at hl
  have hl0 : ∀ sl x np, runL (F_DocumentReader_look C) [.loc 0] ⟨sl, some (rdO C z 0 0) :: rdR (rst 0 []) x, np⟩ = _ := hl
  have hf0 : ∀ sl x np r, runL (F_DocumentReader_fail C) [.loc 0, .d (.int 0), .d (.str r)] ⟨sl, some (rdO C z 0 0) :: rdR (rst 0 []) x, np⟩ = _ := fun sl x np r => fail_run C z hz h 0 0 sl x np 0 r
  unfold readL
  cases q : lookL (ch z) with
  | inr r =>
    have qt : tagL (ch z) 0 60 = .inr (0, r) := by unfold tagL; rw [q]
    rw [qt]
    simp only [q] at hl0
    refine ⟨0, 0, [], ?_⟩
    unfold F_DocumentReader_document
    refine mkM ?_
    simp -implicitDefEqProofs [fb_DocumentReader_document, hasNo_if, lookup_if, hl0]
    exact EndM_exn rfl
  | inl c =>
    have qt : tagL (ch z) 0 60 = .inl (decide (c = 60)) := by unfold tagL; rw [q]
    rw [qt]
    simp only [q] at hl0
    have hb1 : ((⟨#[c]⟩ : Str) == ⟨#[60]⟩) = decide (c = 60) := one_one c 60
    by_cases h1 : c = 60
    · rw [decide_eq_true h1] at hb1 ⊢
      have hw := doc_w1 C z hz 0 0 [] .non ((ch z).length + 1) (Nat.zero_le _) (by simp) (by simp) (.inl rfl) (by rw [ch_len]; omega)
      rw [List.drop_zero] at hw
      have hw : EndD C z (docG ((ch z).length + 1) (ch z) 0 0 []) (fb_DocumentReader_document_w1 C ⟨[some (.loc 0), some (.d .non)], some (rdO C z 0 0) :: rdR (rst 0 []) none, 2⟩) := hw
      dsimp only
      cases q2 : docG ((ch z).length + 1) (ch z) 0 0 [] with
      | inr e =>
        obtain ⟨p, s⟩ := e
        rw [q2] at hw
        obtain ⟨sl, a', n', j, st', j1, j2, hw⟩ := hw
        refine ⟨a', n', locs j, ?_⟩
        unfold F_DocumentReader_document
        refine mkM ?_
        simp -implicitDefEqProofs [fb_DocumentReader_document, hasNo_if, lookup_if, hl0, gL, hb1, hw]
        exact EndM_exn rfl
      | inl e =>
        obtain ⟨d, b, m⟩ := e
        rw [q2] at hw
        have hw : fb_DocumentReader_document_w1 C ⟨[some (.loc 0), some (.d .non)], some (rdO C z 0 0) :: rdR (rst 0 []) none, 2⟩ = .nx ⟨[some (.loc 0), some (.d d)], some (rdO C z b m) :: rdR (rst 0 []) none, 2⟩ := hw
        have hb := docG_b q2
        rw [ch_len, Nat.zero_add] at hb
        have hlk := look_run C z hz h b m hb
        rw [lookR_eq] at hlk
        have hfb := fail_run C z hz h b m
        dsimp only
        cases q3 : (ch z).drop b with
        | nil =>
          have hge := drop_ge q3
          have hlt : ¬ ((b : Int) < z.length) := by omega
          have hlt2 : ¬ b < z.length := by omega
          refine ⟨b, m, ?_⟩
          unfold F_DocumentReader_document
          refine mkM ?_
          simp -implicitDefEqProofs [fb_DocumentReader_document, hasNo_if, lookup_if, hl0, gL, hb1, hw, sizeL, hz2, hlt, hlt2]
          exact EndM_rt rfl
        | cons c2 r2 =>
          have hlt := drop_lt q3
          have hlt2 : ((b : Int) < z.length) := by omega
          rw [q3] at hlk
          dsimp only
          cases q4 : lookL (c2 :: r2) with
          | inr r =>
            simp only [q4] at hlk
            refine ⟨b, m, [], ?_⟩
            unfold F_DocumentReader_document
            refine mkM ?_
            simp -implicitDefEqProofs [fb_DocumentReader_document, hasNo_if, lookup_if, hl0, gL, hb1, hw, sizeL, hz2, hlt, hlt2, hlk]
            exact EndM_exn rfl
          | inl c3 =>
            simp only [q4] at hlk
            refine ⟨b, m, [], ?_⟩
            unfold F_DocumentReader_document
            refine mkM ?_
            simp -implicitDefEqProofs [fb_DocumentReader_document, hasNo_if, lookup_if, hl0, gL, hb1, hw, sizeL, hz2, hlt, hlt2, hlk, hfb]
            exact EndM_exn rfl
    · rw [decide_eq_false h1] at hb1 ⊢
      refine ⟨0, 0, [], ?_⟩
      unfold F_DocumentReader_document
      refine mkM ?_
      simp -implicitDefEqProofs [fb_DocumentReader_document, hasNo_if, lookup_if, hl0, gL, hb1, hf0]
      exact EndM_exn rfl
theorem read_document_ok : F_read_document C [.d (.str z)] [] = (match readL (ch z) with | .inl d => .ok (.d d) [] | .inr (p, s) => .exn (xt C z p s) []) := by
  have hd := document_ok C z hz
  have hz2 : z.length ≤ 16777216 := by omega
  have hlt : ¬ (200000 : Int) < z.length := by omega
  have hlt2 : ¬ 200000 < z.length := by omega
  have hd0 : DocR C z (F_DocumentReader_document C [.loc 0] [.obj C.DocumentReader [("text", .d (.str z)), ("at", .d (.int 0)), ("node_count", .d (.int 0)), ("opened", .loc 1)], .lw []]) (readL (ch z)) := hd
  have hi : F_DocumentReader_init C [.loc 0, .d (.str z)] [.obj C.DocumentReader []] = .ok (.d .non) [.obj C.DocumentReader [("text", .d (.str z)), ("at", .d (.int 0)), ("node_count", .d (.int 0)), ("opened", .loc 1)], .lw []] := by
    simp -implicitDefEqProofs [F_DocumentReader_init, fb_DocumentReader_init, env0, lookup_if, sizeL]
  cases q : readL (ch z) with
  | inl d =>
    rw [q] at hd0
    obtain ⟨a, n, hd0⟩ := hd0
    have hx : ∀ sl np, runX (F_DocumentReader_document C) [0, 1] [] [.loc 0] ⟨sl, [some (.obj C.DocumentReader [("text", .d (.str z)), ("at", .d (.int 0)), ("node_count", .d (.int 0)), ("opened", .loc 1)]), some (.lw [])], np⟩ = .ok (.d d) ⟨sl, [some (rdO C z a n), some (.lw [])], np⟩ := fun sl np => by
      unfold runX
      simp -implicitDefEqProofs [nodup, cellsOf, mapW, hd0, List.idxOf_cons]
    simp -implicitDefEqProofs [F_read_document, fb_read_document, env0, lookup_if, hasNo_if, sizeL, hz2, hlt, hlt2, hi, hx]
  | inr e =>
    obtain ⟨p, s⟩ := e
    rw [q] at hd0
    obtain ⟨a, n, us, hd0⟩ := hd0
    have hx : ∀ sl np, runX (F_DocumentReader_document C) [0, 1] [] [.loc 0] ⟨sl, [some (.obj C.DocumentReader [("text", .d (.str z)), ("at", .d (.int 0)), ("node_count", .d (.int 0)), ("opened", .loc 1)]), some (.lw [])], np⟩ = .exn (xt C z p s) ⟨sl, [none, none], np⟩ := fun sl np => by
      unfold runX
      simp -implicitDefEqProofs [nodup, cellsOf, mapW, hd0, clrM, List.idxOf_cons]
    simp -implicitDefEqProofs [F_read_document, fb_read_document, env0, lookup_if, hasNo_if, sizeL, hz2, hlt, hlt2, hi, hx]
end
end Tp
end
section
set_option Elab.async false
set_option linter.all false
set_option maxRecDepth 100000
set_option maxHeartbeats 8000000
namespace Tp
open PySem L2 Dl
end Tp
end
section
set_option Elab.async false
set_option linter.all false
set_option maxRecDepth 100000
set_option maxHeartbeats 8000000
namespace Tp
open PySem L2 Dl
@[simp] abbrev E_written_text (x_string x_letter : Option W := none) (c0 : Option Cell := none) (np : Nat := 0) : Dl.Env := ⟨[x_string, x_letter], [c0], np⟩
@[simp] abbrev E_write_document (x_tree x_found x_waiting x_here x_is_end x_child : Option W := none) (c0 c1 c2 : Option Cell := none) (np : Nat := 0) : Dl.Env := ⟨[x_tree, x_found, x_waiting, x_here, x_is_end, x_child], [c0, c1, c2], np⟩
end Tp
end
section
set_option Elab.async false
set_option linter.all false
set_option maxRecDepth 100000
set_option maxHeartbeats 8000000
namespace Tp
open PySem L2 Dl
/-- names that a drawn tree may have -/
structure NmOk (nms : List Str) : Prop where
  ne : 0 < nms.length
  few : nms.length ≤ 60
  ok : ∀ w ∈ nms, nameOk w = true
theorem tree_l1 (C : Cs) (n k : Nat) (nms : List Str) (hn : NmOk nms) (M : Nat) (hM : M ≤ 3) (h0 : k = 0 → M ≤ 1) (ds : List Int)
    (ih : ∀ k', k = k' + 1 → ∀ ds, ∃ t ds', F_law_tree C n [.loc 0, .d (.int k'), .d (.lst (nms.map .str))] [dk ds] = .ok (.d t.d) [dk ds'] ∧ TOk nms k' t) :
    ∃ cs ds', fb_law_tree_l1 C (F_law_tree C n) (Elt k nms (.d (.int M)) [] ds) = .nx (Elt k nms (.d (.int M)) cs ds') ∧ CsOk nms k M cs := by
  unfold fb_law_tree_l1
  have hz : -4611686018427387904 ≤ (M : Int) ∧ (M : Int) < 4611686018427387904 := by omega
  obtain ⟨⟨d1, cs⟩, h1, h2⟩ := for_i (it := iRg1 (eVar 4)) (g := tgName 5) (fg := [5, 6]) (body := fb_law_tree_l1b C (F_law_tree C n)) (items := rangeL 0 M) (chk := fun _ => True) (S := List Int × List Tree) (e0 := Elt k nms (.d (.int M)) [] ds)
    (fun S => Elt k nms (.d (.int M)) S.2 S.1) (fun i S => CsOk nms k i S.2) (ds, []) (by simp -implicitDefEqProofs [Elt, E_law_tree, hz]) ⟨(fun x hx => by rw [Tree.pres] at hx; cases hx), Nat.le_refl _, Tree.oks_nil, rfl, by rw [Tree.szs_nil]; exact Nat.zero_le _, by rw [Tree.dps_nil]; omega, by rw [Tree.des_nil]; exact Nat.zero_le _, (fun x hx => by rw [Tree.pres] at hx; cases hx)⟩ (fun i d ⟨e, cs⟩ hd hi => ⟨trivial, by
      obtain ⟨hi2, rfl⟩ := rangeL_at hd
      dsimp only at hi ⊢
      have hb := beside_ok k nms (.d (.int M)) cs e (some (.d (.int i)))
      have hcl : cs.length < 16777216 := by have := hi.len; omega
      generalize hbe : (eAnd (eOp (blG gtB) (eCB kLen [(eVar 3)]) (eC (.int 0))) (eIsi "str" (eIx (eVar 3) (eOp subD (eCB kLen [(eVar 3)]) (eC (.int 1)))))) = be at hb
      simp -implicitDefEqProofs [Elt, E_law_tree] at hb
      have hbody : fb_law_tree_l1b C (F_law_tree C n) = (sSeq (sSet 6 be)
  (sIf (bOr (bOp eqB (eVar 1) (eC (.int 0))) (bOp eqB (eCall 2 (F_law_take C) [0] [] [] [(eVar 0), (eC (.int 3))]) (eC (.int 0)))) (sIf (bNot (bTru (eVar 6))) (sExpr (eM isLst kAppend (eVar 3) [(eCall 2 (F_law_string_k16 C) [0] [] [] [(eVar 0), (eC (.int 5))])])) sNil) (sExpr (eM isLst kAppend (eVar 3) [(eCall 3 (F_law_tree C n) [0] [] [] [(eVar 0), (eOp subD (eVar 1) (eC (.int 1))), (eVar 2)])])))) := by
        rw [← hbe]; rfl
      generalize hsb : (sIf (bNot (bTru (eVar 6))) (sExpr (eM isLst kAppend (eVar 3) [(eCall 2 (F_law_string_k16 C) [0] [] [] [(eVar 0), (eC (.int 5))])])) sNil) = sb at hbody
      have txt : ∀ e2 : List Int, ∃ S' : List Int × List Tree, sb (Elt k nms (.d (.int M)) cs e2 (k_ := some (.d (.int i))) (beside := some (.d (.bl (lastT cs))))) = .nx (Elt k nms (.d (.int M)) S'.2 S'.1 (k_ := some (.d (.int i))) (beside := some (.d (.bl (lastT cs))))) ∧ CsOk nms k (i + 1) S'.2 := fun e2 => by
        rw [← hsb]
        cases q : lastT cs with
        | true =>
          exact ⟨(e2, cs), by simp -implicitDefEqProofs [Elt, E_law_tree], hi.more⟩
        | false =>
          obtain ⟨s, e3, hs1, hs2, hs3⟩ := string_ok C e2 (m := 5) (by omega) (by omega)
          have hs1 : F_law_string_k16 C [.loc 0, .d (.int 5)] [dk e2] = .ok (.d (.str s)) [dk e3] := hs1
          refine ⟨(e3, cs ++ [.txt s]), ?_, hi.txt hs2 q hs3⟩
          simp -implicitDefEqProofs [Elt, E_law_tree, hs1, sizeL, hcl]
      rw [hbody]
      cases k with
      | zero =>
        obtain ⟨S', e1, e2⟩ := txt e
        refine ⟨S', ?_, e2⟩
        simp -implicitDefEqProofs [Elt, E_law_tree] at e1 hb
        simp -implicitDefEqProofs [Elt, E_law_tree, hb, e1]
      | succ k =>
        have ht2 := take_ok C e (n := 3) (by omega)
        simp -implicitDefEqProofs [Elt, E_law_tree] at hb
        have hk0 : ¬ ((k : Int) + 1 = 0) := by omega
        have hk1 : ((k : Int) + 1 == 0) = false := beq_false_of_ne hk0
        by_cases hq : tv e 3 = 0
        · obtain ⟨S', e1, e2⟩ := txt (tn e)
          refine ⟨S', ?_, e2⟩
          simp -implicitDefEqProofs [Elt, E_law_tree] at e1
          simp -implicitDefEqProofs [Elt, E_law_tree, hb, ht2, hk1, hq, e1]
        · have hq1 : (tv e 3 == 0) = false := beq_false_of_ne hq
          obtain ⟨t, e3, e1, e2⟩ := ih k rfl (tn e)
          refine ⟨(e3, cs ++ [t]), ?_, hi.el e2⟩
          have hsub : (k : Int) + 1 - 1 = (k : Int) := by omega
          generalize F_law_tree C n = G at *
          simp -implicitDefEqProofs [Elt, E_law_tree, hb, ht2, hk1, hq1, e1, hsub, sizeL, hcl]⟩) (fun _ _ => trivial)
  rw [rangeL_len] at h2
  exact ⟨cs, d1, h1, h2⟩
theorem tree_ok (C : Cs) (nms : List Str) (hn : NmOk nms) : ∀ (n k : Nat), k < n → ∀ ds, ∃ t ds', F_law_tree C n [.loc 0, .d (.int k), .d (.lst (nms.map .str))] [dk ds] = .ok (.d t.d) [dk ds'] ∧ TOk nms k t
  | 0, _, h => absurd h (Nat.not_lt_zero _)
  | n + 1, k, hk => fun ds => by
    have t4 := take_ok C ds (n := 4) (by omega)
    obtain ⟨m4, hm4, hv4⟩ := tv_nat ds (n := 4) (by omega)
    have hv4 : tv ds 4 = (m4 : Int) := hv4
    have t2 := take_ok C (tn ds) (n := 2) (by omega)
    obtain ⟨m2, hm2, hv2⟩ := tv_nat (tn ds) (n := 2) (by omega)
    have hv2 : tv (tn ds) 2 = (m2 : Int) := hv2
    rw [hv4] at t4
    rw [hv2] at t2
    obtain ⟨cs, d1, e1, e2⟩ := tree_l1 C n k nms hn (if k = 0 then m2 else m4) (by split <;> omega) (fun z => by rw [if_pos z]; omega) (if k = 0 then tn (tn ds) else tn ds) (fun k' hk' ds => tree_ok C nms hn n k' (by omega) ds)
    have t5 := take_ok C d1 (n := (nms.length : Int)) (by have := hn.ne; omega)
    obtain ⟨j, hj, hvj⟩ := tv_nat d1 hn.ne
    rw [hvj] at t5
    have hat : atI (nms.map D.str) (j : Int) = some (.str (nms[j]'hj)) := atI_get (by rw [List.getElem?_map, List.getElem?_eq_getElem hj]; rfl)
    have hnm := hn.ok _ (List.getElem_mem hj)
    have hmw := List.getElem_mem hj
    generalize (nms[j]'hj) = w at hat hnm hmw
    refine ⟨.el w cs, tn d1, ?_, ⟨?_, rfl, by rw [Tree.ok_el, hnm, e2.ap, e2.ok]; rfl, ?_, by rw [Tree.dp_el]; have := e2.dp; omega, by rw [Tree.de_el]; have := e2.de; omega, ?_⟩⟩
    · show mkF 7 2 1 (fb_law_tree C (F_law_tree C n)) _ _ = _
      generalize F_law_tree C n = G at *
      by_cases hk0 : k = 0
      · subst hk0
        rw [if_pos rfl, if_pos rfl] at e1
        simp -implicitDefEqProofs [Elt, E_law_tree] at e1
        simp -implicitDefEqProofs [fb_law_tree, env0, sizeL, t4, t2, e1, t5, hat]
      · rw [if_neg hk0, if_neg hk0] at e1
        have hk1 : ¬ ((k : Int) = 0) := by omega
        have hk2 : ((k : Int) == 0) = false := beq_false_of_ne hk1
        simp -implicitDefEqProofs [Elt, E_law_tree] at e1
        simp -implicitDefEqProofs [fb_law_tree, env0, sizeL, t4, hk2, e1, t5, hat]
    · intro x hx n cs' e
      rw [Tree.pre_el] at hx
      rcases List.mem_cons.mp hx with rfl | hx
      · cases e; exact hmw
      · exact e2.nm x hx n cs' e
    · rw [Tree.sz_el]
      have := e2.sz
      cases k with
      | zero =>
        rw [if_pos rfl] at this
        have h2 : m2 * 1 ≤ 1 := by omega
        show 1 + Tree.szs cs ≤ 2
        have : Tree.szs cs ≤ m2 * 1 := this
        omega
      | succ k =>
        rw [if_neg (by omega)] at this
        have h3 : Tree.szs cs ≤ m4 * bT k := this
        have h4 : m4 * bT k ≤ 3 * bT k := Nat.mul_le_mul_right _ (by omega)
        show 1 + Tree.szs cs ≤ 1 + 3 * bT k
        omega
    · intro x hx s' e
      rw [Tree.pre_el] at hx
      rcases List.mem_cons.mp hx with rfl | hx
      · cases e
      · exact e2.tl x hx s' e
theorem bT_mono : ∀ {a b : Nat}, a ≤ b → bT a ≤ bT b
  | 0, 0, _ => Nat.le_refl _
  | 0, b + 1, _ => by show 2 ≤ 1 + 3 * bT b; have := bT_pos b; omega
  | a + 1, 0, h => by omega
  | a + 1, b + 1, h => by show 1 + 3 * bT a ≤ 1 + 3 * bT b; have := bT_mono (show a ≤ b by omega); omega
theorem TOk.doc {nms : List Str} {k : Nat} {t : Tree} (h : TOk nms k t) (hk : k ≤ 4) : t.doc = true := by
  have h1 := h.sz
  have h2 := bT_mono hk
  have h3 : bT 4 = 202 := by decide
  have h4 := h.dp
  unfold Tree.doc Tree.fit
  rw [h.el, h.ok, decide_eq_true (by omega), decide_eq_true (by omega)]
  rfl
def nms4 : List Str := ["a", "b", "abcdefghijkl", "c"]
def plN : Nat → D → Prop
  | _, .non => True
  | _, .bl _ => True
  | _, .int _ => True
  | _, .str _ => True
  | n + 1, .lst xs => xs.length < 1000000000 ∧ ∀ y ∈ xs, plN n y
  | n + 1, .tup xs => xs.length < 1000000000 ∧ ∀ y ∈ xs, plN n y
  | _, _ => False
theorem plN_lst {n : Nat} {xs : List D} : plN (n + 1) (.lst xs) ↔ xs.length < 1000000000 ∧ ∀ y ∈ xs, plN n y := by rw [plN]
theorem plN_tup {n : Nat} {xs : List D} : plN (n + 1) (.tup xs) ↔ xs.length < 1000000000 ∧ ∀ y ∈ xs, plN n y := by rw [plN]
theorem same_loop (C : Cs) (G : Fd) (x : D) (xs : List D) (hat : ∀ i : Nat, ixDD x (i : Int) = atI xs i) (hl : lenD x = some (.int xs.length)) (hz : xs.length < 1000000000) (h : ∀ y ∈ xs, G [.d y, .d y] [] = .ok (.d (.bl true)) []) :
    fb_law_same_k16_l1 C G (E_law_same_k16 (x_actual := some (.d x)) (x_due := some (.d x))) = .nx (E_law_same_k16 (x_actual := some (.d x)) (x_due := some (.d x))) := by
  have hb : -4611686018427387904 ≤ (xs.length : Int) ∧ (xs.length : Int) < 4611686018427387904 := by omega
  unfold fb_law_same_k16_l1
  refine for_e (items := rangeL 0 xs.length) (chk := fun _ => True) (fun i => E_law_same_k16 (x_actual := some (.d x)) (x_due := some (.d x))) (by simp -implicitDefEqProofs [E_law_same_k16, hl, hb]) (fun i d hd => ⟨trivial, ?_⟩) trivial rfl
  obtain ⟨hi, rfl⟩ := rangeL_at hd
  have ha := hat i
  rw [atI_get (List.getElem?_eq_getElem hi)] at ha
  have hg := h _ (List.getElem_mem hi)
  simp -implicitDefEqProofs [E_law_same_k16, fb_law_same_k16_l1b, ha, hg]
theorem same16_ok (C : Cs) : ∀ (n : Nat) (x : D), plN n x → F_law_same_k16 C (n + 1) [.d x, .d x] [] = .ok (.d (.bl true)) []
  | n, x, h => by
    show mkF 3 0 0 (fb_law_same_k16 C (F_law_same_k16 C n)) _ _ = _
    cases x with
    | non => generalize F_law_same_k16 C n = G; simp -implicitDefEqProofs [fb_law_same_k16, env0]
    | bl b => generalize F_law_same_k16 C n = G; simp -implicitDefEqProofs [fb_law_same_k16, env0]
    | int i => generalize F_law_same_k16 C n = G; simp -implicitDefEqProofs [fb_law_same_k16, env0]
    | str s => generalize F_law_same_k16 C n = G; simp -implicitDefEqProofs [fb_law_same_k16, env0]
    | lst xs =>
      cases n with
      | zero => rw [plN] at h; exact h.elim; all_goals (intros; simp_all)
      | succ n =>
        obtain ⟨h1, h2⟩ := plN_lst.mp h
        have hl := same_loop C (F_law_same_k16 C (n + 1)) (.lst xs) xs (fun _ => rfl) rfl h1 fun y hy => same16_ok C n y (h2 y hy)
        generalize F_law_same_k16 C (n + 1) = G at *
        simp -implicitDefEqProofs [E_law_same_k16] at hl
        simp -implicitDefEqProofs [fb_law_same_k16, env0, hl]
    | tup xs =>
      cases n with
      | zero => rw [plN] at h; exact h.elim; all_goals (intros; simp_all)
      | succ n =>
        obtain ⟨h1, h2⟩ := plN_tup.mp h
        have hl := same_loop C (F_law_same_k16 C (n + 1)) (.tup xs) xs (fun _ => rfl) rfl h1 fun y hy => same16_ok C n y (h2 y hy)
        generalize F_law_same_k16 C (n + 1) = G at *
        simp -implicitDefEqProofs [E_law_same_k16] at hl
        simp -implicitDefEqProofs [fb_law_same_k16, env0, hl]
    | rd xs => cases n <;> (rw [plN] at h; exact h.elim; all_goals (intros; simp_all))
    | dic xs => cases n <;> (rw [plN] at h; exact h.elim; all_goals (intros; simp_all))
    | obj a xs => cases n <;> (rw [plN] at h; exact h.elim; all_goals (intros; simp_all))
    | dct xs => cases n <;> (rw [plN] at h; exact h.elim; all_goals (intros; simp_all))
    | fn a => cases n <;> (rw [plN] at h; exact h.elim; all_goals (intros; simp_all))
end Tp
end
section
set_option Elab.async false
set_option linter.all false
set_option maxRecDepth 100000
set_option maxHeartbeats 8000000
namespace Dl
open PySem L2
@[simp] theorem kJoin_lst {x : Str} {xs : List D} {e : Env} : kJoin (.d (.str x)) [.d (.lst xs)] e = (match toStrs xs with | some ys => if joinOk x ys = true then .ok (.d (.str (PySem.Txt.join x ys))) e else .fail | none => .fail) := rfl
end Dl
namespace Tp
open PySem L2 Dl Tp.Tx
def escS (c : Nat) : Str := ⟨(escC c).toArray⟩
theorem sLt : ("&lt;" : Str) = ⟨eLt.toArray⟩ := by decide +kernel
theorem sGt : ("&gt;" : Str) = ⟨eGt.toArray⟩ := by decide +kernel
theorem sAm : ("&amp;" : Str) = ⟨eAm.toArray⟩ := by decide +kernel
theorem c60 : ("<" : Str) = ⟨#[60]⟩ := by decide +kernel
theorem c62 : (">" : Str) = ⟨#[62]⟩ := by decide +kernel
theorem c38 : ("&" : Str) = ⟨#[38]⟩ := by decide +kernel
theorem esc_strs (l : List Nat) : toStrs (l.map fun c => D.str (escS c)) = some (l.map escS) := by
  induction l with
  | nil => rfl
  | cons c l ih =>
    show (toStrs (l.map fun c => D.str (escS c))).map _ = _
    rw [ih]; rfl
theorem escS_len (c : Nat) : (escS c).length ≤ 5 := by
  unfold escS escC
  split
  · decide
  · split
    · decide
    · split
      · decide
      · show 1 ≤ 5; decide
theorem esc_joinOk {l : List Nat} (h : l.length ≤ 1000000) : joinOk "" (l.map escS) = true := by
  unfold joinOk
  have e : (("" : Str).length) = 0 := by decide +kernel
  have e2 : ∀ l : List Nat, ((l.map escS).map (·.length)).sum ≤ 5 * l.length := fun l => by
    induction l with
    | nil => exact Nat.le_refl _
    | cons c l ih =>
      rw [List.map_cons, List.map_cons, List.sum_cons, List.length_cons]
      have := escS_len c
      omega
  have := e2 l
  rw [e, decide_eq_true_iff]
  omega
theorem esc_join (l : List Nat) : PySem.Txt.join "" (l.map escS) = ⟨(esc l).toArray⟩ := by
  apply ch_inj
  rw [ch_join, ch_mk, List.map_map]
  induction l with
  | nil => rfl
  | cons c l ih =>
    rw [List.map_cons, List.flatten_cons, ih]
    show ch (escS c) ++ esc l = escC c ++ esc l
    unfold escS
    rw [ch_mk]
abbrev escT (s : Str) : Str := ⟨(esc (ch s)).toArray⟩
end Tp
end
section
set_option Elab.async false
set_option linter.all false
set_option maxRecDepth 100000
set_option maxHeartbeats 8000000
namespace Tp
open PySem L2 Dl Tp.Tx
def escKv : List (Key × D) := [(Sum.inr "<", .str "&lt;"), (Sum.inr ">", .str "&gt;"), (Sum.inr "&", .str "&amp;")]
theorem get_kv (c : Nat) : get2D escKv (.str ⟨#[c]⟩) (.str ⟨#[c]⟩) = some (.str (escS c)) := by
  have k : ∀ (a b : Str), decide ((Sum.inr a : Key) = Sum.inr b) = decide (a = b) := fun a b => by simp
  have e1 : ∀ b : Nat, ((⟨#[c]⟩ : Str) = ⟨#[b]⟩) = (c = b) := fun b => by simp
  unfold get2D getD keyD escKv escS escC
  rw [c60, c62, c38, sLt, sGt, sAm]
  simp only [Option.map_some, lkp]
  by_cases h1 : c = 60
  · simp [h1]
  · by_cases h2 : c = 62
    · simp [h2]
    · by_cases h3 : c = 38
      · simp [h3]
      · simp [h1, h2, h3, Ne.symm h1, Ne.symm h2, Ne.symm h3]
theorem law_escaped_ok (C : Cs) (s : Str) (hs : s.length < 1000000) : F_law_escaped C [.d (.str s)] [] = .ok (.d (.str (escT s))) [] := by
  have hj := esc_joinOk (l := ch s) (by rw [ch_len]; omega)
  have ht := esc_strs (ch s)
  have hjn := esc_join (ch s)
  have c1 : fb_law_escaped_c1 C (E_law_escaped (x_string_here := some (.d (.str s))) (x_signs := some (.d (.dic escKv)))) = .ok (.d (.lst ((ch s).map fun c => D.str (escS c)))) (E_law_escaped (x_string_here := some (.d (.str s))) (x_signs := some (.d (.dic escKv)))) := by
    unfold fb_law_escaped_c1
    rw [comp_m (n := 1000000) (items := strL s) (chk := fun _ => True) ((ch s).map fun c => D.str (escS c)) (e1 := E_law_escaped (x_string_here := some (.d (.str s))) (x_signs := some (.d (.dic escKv)))) (by simp -implicitDefEqProofs [E_law_escaped]) (by simp [Env.open]) (by rw [strL_len]; omega) (by rw [sizeL]; omega) rfl (by rw [strL_len, List.length_map, ch_len]) (fun i d y acc hd hy ha => ⟨trivial, by
      obtain ⟨c, hc, rfl⟩ := strL_at hd
      rw [List.getElem?_map, hc] at hy
      cases hy
      have hss : acc.length < 16777216 := by omega
      have hg := get_kv c
      simp -implicitDefEqProofs [E_law_escaped, sizeL, hss, hg]⟩) (fun _ => trivial)]
    simp -implicitDefEqProofs [endL, E_law_escaped]
  have c1' : fb_law_escaped_c1 C ⟨[some (.d (.str s)), some (.d (.dic [(Sum.inr "<", .str "&lt;"), (Sum.inr ">", .str "&gt;"), (Sum.inr "&", .str "&amp;")])), none], [none], 0⟩ = _ := c1
  simp -implicitDefEqProofs [E_law_escaped, escKv] at c1'
  simp -implicitDefEqProofs [F_law_escaped, fb_law_escaped, env0, c1', ht, hj, hjn]
end Tp
end
section
set_option Elab.async false
set_option linter.all false
set_option maxRecDepth 100000
set_option maxHeartbeats 8000000
namespace Tp
open PySem L2 Dl Tp.Tx
theorem addS {x y : Str} (h : x.length + y.length ≤ 16777216) : addD (.str x) (.str y) = some (.str (x ++ y)) := by
  show (if x.length + y.length ≤ sizeLine then _ else _) = _
  rw [if_pos (by rw [sizeL]; exact h)]
abbrev wrS (b : Bool) (t : Tree) : Str := ⟨(t.wr b).toArray⟩
theorem wrS_len (b : Bool) (t : Tree) : (wrS b t).length = (t.wr b).length := by rw [← ch_len, ch_mk]
theorem esc_len : ∀ l : List Nat, (esc l).length ≤ 5 * l.length
  | [] => Nat.le_refl _
  | c :: l => by
    show (escC c ++ esc l).length ≤ _
    rw [List.length_append, List.length_cons]
    have := esc_len l
    have h5 := escS_len c
    rw [← ch_len] at h5
    unfold escS at h5
    rw [ch_mk] at h5
    omega
mutual
theorem wr_len (b : Bool) : ∀ t : Tree, t.ok = true → (t.wr b).length ≤ 1000 * t.sz
  | .txt s, h => by
    rw [Tree.ok_txt] at h
    obtain ⟨-, -, h3⟩ := textOk_ch h
    rw [Tree.wr_txt, Tree.sz_txt]
    have := esc_len (ch s)
    omega
  | .el n cs, h => by
    rw [Tree.ok_el, Bool.and_eq_true, Bool.and_eq_true] at h
    obtain ⟨-, -, h3⟩ := nameOk_ch h.1.1
    have := wrs_len b cs h.2
    rw [Tree.wr_el, Tree.sz_el]
    split
    · simp; omega
    · simp; omega
theorem wrs_len (b : Bool) : ∀ ts : List Tree, Tree.oks ts = true → (Tree.wrs b ts).length ≤ 1000 * Tree.szs ts
  | [], _ => by rw [Tree.wrs_nil]; exact Nat.zero_le _
  | t :: ts, h => by
    rw [Tree.oks_cons, Bool.and_eq_true] at h
    rw [Tree.wrs_cons, Tree.szs_cons, List.length_append]
    have := wr_len b t h.1
    have := wrs_len b ts h.2
    omega
end
theorem wrs_flat (b : Bool) : ∀ ts : List Tree, Tree.wrs b ts = (ts.map (Tree.wr b)).flatten
  | [] => by rw [Tree.wrs_nil]; rfl
  | t :: ts => by rw [Tree.wrs_cons, wrs_flat b ts]; rfl
theorem dps_memW {t : Tree} : ∀ {ts : List Tree}, t ∈ ts → t.dp ≤ Tree.dps ts
  | [], h => by cases h
  | u :: us, h => by
    rw [Tree.dps_cons]
    rcases List.mem_cons.mp h with rfl | h
    · omega
    · have := dps_memW h; omega
theorem szs_memW {t : Tree} : ∀ {ts : List Tree}, t ∈ ts → t.sz ≤ Tree.szs ts
  | [], h => by cases h
  | u :: us, h => by
    rw [Tree.szs_cons]
    rcases List.mem_cons.mp h with rfl | h
    · omega
    · have := szs_memW h; omega
theorem oks_memW {t : Tree} {ts : List Tree} (h : Tree.oks ts = true) (hm : t ∈ ts) : t.ok = true := by
  rw [Tree.oks_all] at h
  exact List.all_eq_true.mp h t hm
theorem strs_map {α : Type} (f : α → Str) (l : List α) : toStrs (l.map fun x => D.str (f x)) = some (l.map f) := by
  induction l with
  | nil => rfl
  | cons c l ih =>
    show (toStrs (l.map fun x => D.str (f x))).map _ = _
    rw [ih]; rfl
theorem joinOk_of {l : List Str} (h : ((l.map ch).flatten).length ≤ 16777216) : joinOk "" l = true := by
  unfold joinOk
  have e : (("" : Str).length) = 0 := by decide +kernel
  have e2 : ∀ l : List Str, (l.map (·.length)).sum = ((l.map ch).flatten).length := fun l => by
    induction l with
    | nil => rfl
    | cons c l ih => rw [List.map_cons, List.sum_cons, ih, List.map_cons, List.flatten_cons, List.length_append, ch_len]
  rw [e, e2, decide_eq_true_iff]
  omega
theorem s1 : ("<" : Str).length = 1 := by decide +kernel
theorem s2 : ("/>" : Str).length = 2 := by decide +kernel
theorem s3 : (">" : Str).length = 1 := by decide +kernel
theorem s4 : ("</" : Str).length = 2 := by decide +kernel
theorem k1 : ch "<" = [60] := by decide +kernel
theorem k2 : ch "/>" = [47, 62] := by decide +kernel
theorem k3 : ch ">" = [62] := by decide +kernel
theorem k4 : ch "</" = [60, 47] := by decide +kernel
theorem law_written_ok (C : Cs) (b : Bool) : ∀ (n : Nat) (t : Tree), t.dp ≤ n → t.ok = true → t.sz ≤ 5000 → F_law_written C n [.d t.d, .d (.bl b)] [] = .ok (.d (.str (wrS b t))) []
  | 0, t, h, _, _ => by have := t.dp_pos; omega
  | n + 1, .txt s, h, hok, hs => by
    rw [Tree.ok_txt] at hok
    obtain ⟨-, -, h3⟩ := textOk_ch hok
    rw [ch_len] at h3
    have he := law_escaped_ok C s (by omega)
    rw [Tree.d_txt]
    show mkF 4 1 0 (fb_law_written C (F_law_written C n)) _ _ = _
    generalize F_law_written C n = G
    have e : wrS b (.txt s) = escT s := by unfold wrS escT; rw [Tree.wr_txt]
    rw [e]
    simp -implicitDefEqProofs [fb_law_written, env0, he]
  | n + 1, .el w cs, h, hok, hs => by
    have hwl := wr_len b (.el w cs) hok
    rw [Tree.ok_el, Bool.and_eq_true, Bool.and_eq_true] at hok
    obtain ⟨-, w2, w3⟩ := nameOk_ch hok.1.1
    rw [ch_len] at w2 w3
    have hoks := hok.2
    rw [Tree.dp_el] at h
    have hcl := Tree.len_szs cs
    have hsz : 1 + Tree.szs cs ≤ 5000 := by rw [Tree.sz_el] at hs; exact hs
    have hinl := wrs_len b cs hoks
    rw [Tree.d_el]
    show mkF 4 1 0 (fb_law_written C (F_law_written C n)) _ _ = _
    by_cases hq : (cs.isEmpty && !b) = true
    · have e : wrS b (.el w cs) = ("<" : Str) ++ w ++ "/>" := by
        apply ch_inj
        rw [ch_mk, Tree.wr_el, if_pos hq, ch_app, ch_app, k1, k2]
        rfl
      rw [Bool.and_eq_true] at hq
      have hcs : cs = [] := List.isEmpty_iff.mp hq.1
      have hb : b = false := by simpa using hq.2
      subst hcs
      subst hb
      have a1 := addS (x := "<") (y := w) (by rw [s1]; omega)
      have a2 := addS (x := ("<" : Str) ++ w) (y := "/>") (by rw [len_app, s1, s2]; omega)
      generalize F_law_written C n = G
      rw [e]
      simp -implicitDefEqProofs [fb_law_written, env0, sizeL, a1, a2]
    · have c1 : fb_law_written_c1 C (F_law_written C n) (E_law_written (x_tree_here := some (.d (.tup [.str w, .lst (cs.map Tree.d)]))) (x_loose := some (.d (.bl b)))) = .ok (.d (.lst (cs.map fun t => D.str (wrS b t)))) (E_law_written (x_tree_here := some (.d (.tup [.str w, .lst (cs.map Tree.d)]))) (x_loose := some (.d (.bl b)))) := by
        unfold fb_law_written_c1
        rw [comp_m (n := 100000) (items := cs.map Tree.d) (chk := fun _ => True) (cs.map fun t => D.str (wrS b t)) (e1 := E_law_written (x_tree_here := some (.d (.tup [.str w, .lst (cs.map Tree.d)]))) (x_loose := some (.d (.bl b)))) (by generalize cs.map Tree.d = CD; simp -implicitDefEqProofs [E_law_written]) (by simp [Env.open]) (by rw [List.length_map]; omega) (by rw [sizeL]; omega) rfl (by rw [List.length_map, List.length_map]) (fun i d y acc hd hy ha => ⟨trivial, by
          have hss : acc.length < 16777216 := by omega
          obtain ⟨hi, rfl⟩ := map_at hd
          rw [List.getElem?_map, List.getElem?_eq_getElem hi] at hy
          cases hy
          have hm := List.getElem_mem hi
          have ih := law_written_ok C b n cs[i] (by have := dps_memW hm; omega) (oks_memW hoks hm) (by have := szs_memW hm; omega)
          generalize cs[i].d = td at *
          generalize cs.map Tree.d = CD at *
          generalize F_law_written C n = G at *
          simp -implicitDefEqProofs [E_law_written, sizeL, hss, ih]⟩) (fun _ => trivial)]
        simp -implicitDefEqProofs [endL, E_law_written]
      have hfl : ((cs.map fun t => wrS b t).map ch).flatten = Tree.wrs b cs := by
        rw [wrs_flat, List.map_map]
        congr 1
      have hts := strs_map (wrS b) cs
      have hj : joinOk "" (cs.map (wrS b)) = true := joinOk_of (by rw [hfl]; omega)
      have hjn : PySem.Txt.join "" (cs.map (wrS b)) = ⟨(Tree.wrs b cs).toArray⟩ := by
        apply ch_inj
        rw [ch_join, ch_mk, hfl]
      have hil : (⟨(Tree.wrs b cs).toArray⟩ : Str).length ≤ 5000000 := by
        rw [← ch_len, ch_mk]; omega
      generalize hI : (⟨(Tree.wrs b cs).toArray⟩ : Str) = I at hjn hil
      have e : wrS b (.el w cs) = ("<" : Str) ++ w ++ ">" ++ I ++ "</" ++ w ++ ">" := by
        apply ch_inj
        rw [ch_mk, Tree.wr_el, if_neg hq, ch_app, ch_app, ch_app, ch_app, ch_app, ch_app, k1, k3, k4, ← hI, ch_mk]
        simp
      have a1 := addS (x := "<") (y := w) (by rw [s1]; omega)
      have a2 := addS (x := ("<" : Str) ++ w) (y := ">") (by rw [len_app, s1, s3]; omega)
      have a3 := addS (x := ("<" : Str) ++ w ++ ">") (y := I) (by rw [len_app, len_app, s1, s3]; omega)
      have a4 := addS (x := ("<" : Str) ++ w ++ ">" ++ I) (y := "</") (by rw [len_app, len_app, len_app, s1, s3, s4]; omega)
      have a5 := addS (x := ("<" : Str) ++ w ++ ">" ++ I ++ "</") (y := w) (by rw [len_app, len_app, len_app, len_app, s1, s3, s4]; omega)
      have a6 := addS (x := ("<" : Str) ++ w ++ ">" ++ I ++ "</" ++ w) (y := ">") (by rw [len_app, len_app, len_app, len_app, len_app, s1, s3, s4]; omega)
      rw [e]
      have hl : (cs.map Tree.d).length ≤ 16777216 := by rw [List.length_map]; omega
      have hemp : cs.isEmpty = decide (cs.length = 0) := by cases cs <;> rfl
      generalize F_law_written C n = G at *
      simp -implicitDefEqProofs [E_law_written] at c1
      cases b with
      | true => 
        by_cases h0 : cs.length = 0
        · simp -implicitDefEqProofs [fb_law_written, env0, sizeL, hl, h0, c1, hts, hj, hjn, a1, a2, a3, a4, a5, a6]
        · have hne : ((cs.length : Int) == 0) = false := beq_false_of_ne (by omega)
          simp -implicitDefEqProofs [fb_law_written, env0, sizeL, hl, h0, hne, c1, hts, hj, hjn, a1, a2, a3, a4, a5, a6]
      | false =>
        have h0 : ¬ cs.length = 0 := by
          intro z
          rw [hemp, decide_eq_true z] at hq
          exact hq rfl
        have hne : ((cs.length : Int) == 0) = false := beq_false_of_ne (by omega)
        simp -implicitDefEqProofs [fb_law_written, env0, sizeL, hl, h0, hne, c1, hts, hj, hjn, a1, a2, a3, a4, a5, a6]
end Tp
end
section
set_option Elab.async false
set_option linter.all false
set_option maxRecDepth 100000
set_option maxHeartbeats 8000000
namespace Tp
open PySem L2 Dl Tp.Tx
inductive WIt where
  | tr (t : Tree) | en (w : Str)
def WIt.d : WIt → D
  | .tr t => .tup [t.d, .bl false]
  | .en w => .tup [.str w, .bl true]
def WIt.l : WIt → List Nat
  | .tr t => t.wr false
  | .en w => 60 :: 47 :: (ch w ++ [62])
def WIt.n : WIt → Nat
  | .tr t => 2 * t.sz
  | .en _ => 1
theorem s5 : ("</" : Str).length = 2 := s4
end Tp
end
section
set_option Elab.async false
set_option linter.all false
set_option maxRecDepth 100000
set_option maxHeartbeats 8000000
namespace Tp
open PySem L2 Dl Tp.Tx
mutual
theorem few_len (b : Bool) : ∀ t : Tree, t.ok = true → (∀ x ∈ t.pre, ∀ s, x = .txt s → s.length ≤ 5) → (t.wr b).length ≤ 29 * t.sz
  | .txt s, _, h => by
    have := h (.txt s) (by rw [Tree.pre_txt]; simp) s rfl
    rw [Tree.wr_txt, Tree.sz_txt]
    have := esc_len (ch s)
    rw [ch_len] at this
    omega
  | .el n cs, hok, h => by
    rw [Tree.ok_el, Bool.and_eq_true, Bool.and_eq_true] at hok
    obtain ⟨-, -, h3⟩ := nameOk_ch hok.1.1
    have := fews_len b cs hok.2 (fun x hx => h x (by rw [Tree.pre_el]; exact List.mem_cons_of_mem _ hx))
    rw [Tree.wr_el, Tree.sz_el]
    split
    · simp; omega
    · simp; omega
theorem fews_len (b : Bool) : ∀ ts : List Tree, Tree.oks ts = true → (∀ x ∈ Tree.pres ts, ∀ s, x = .txt s → s.length ≤ 5) → (Tree.wrs b ts).length ≤ 29 * Tree.szs ts
  | [], _, _ => by rw [Tree.wrs_nil]; exact Nat.zero_le _
  | t :: ts, hok, h => by
    rw [Tree.oks_cons, Bool.and_eq_true] at hok
    rw [Tree.pres_cons] at h
    have := few_len b t hok.1 (fun x hx => h x (List.mem_append_left _ hx))
    have := fews_len b ts hok.2 (fun x hx => h x (List.mem_append_right _ hx))
    rw [Tree.wrs_cons, Tree.szs_cons, List.length_append]
    omega
end
/-- a drawn document's text is short -/
theorem drawn_len (b : Bool) {nms : List Str} {k : Nat} {t : Tree} (h : TOk nms k t) (hk : k ≤ 4) : (t.wr b).length ≤ 6000 := by
  have h1 := few_len b t h.ok h.tl
  have h2 := h.sz
  have h3 := bT_mono hk
  have b4 : bT 4 = 202 := by decide
  omega
end Tp
end
section
set_option Elab.async false
set_option linter.all false
set_option maxRecDepth 100000
set_option maxHeartbeats 4000000
namespace Dl
open PySem L2
section
end
end Dl
end
section
set_option Elab.async false
set_option linter.all false
set_option maxRecDepth 100000
set_option maxHeartbeats 8000000
namespace Tp
open PySem L2 Dl Tp.Tx
def rp (k : Nat) (l : List Nat) : List Nat := (List.replicate k l).flatten
theorem read_err {l : List Nat} {r : List Nat} {e : Nat × Str} (hl : l = 60 :: r) (h : docF l 0 0 [] = .inr e) : readL l = .inr e := by
  subst hl
  unfold readL
  rw [tagL_is (by decide)]
  simp only [decide_true]
  have h : docG ((60 :: r).length + 1) (60 :: r) 0 0 [] = .inr e := h
  rw [h]
end Tp
end
section
set_option Elab.async false
set_option linter.all false
set_option maxRecDepth 100000
set_option maxHeartbeats 8000000
namespace Tp
open PySem L2 Dl Tp.Tx
theorem docF_er {l : List Nat} {a n : Nat} {st : List (Str × List D)} {e : Nat × Str} (h : partL l a n st = .inr e) : docF l a n st = .inr e := by rw [docF_eq, h]
/-- the signs back to the last < -/
def back (l : List Nat) : List Nat := l.reverse.takeWhile fun c => c != 60
theorem back_app {a b : List Nat} (h : 60 ∈ b) : back (a ++ b) = back b := by
  unfold back
  rw [List.reverse_append]
  have key : ∀ (x y : List Nat), 60 ∈ x → (x ++ y).takeWhile (fun c => c != 60) = x.takeWhile (fun c => c != 60) := by
    intro x y
    induction x with
    | nil => intro h; cases h
    | cons c x ih =>
      intro h
      rw [List.cons_append, List.takeWhile_cons, List.takeWhile_cons]
      by_cases hc : c = 60
      · subst hc; rfl
      · have hb : (c != 60) = true := by simp [hc]
        rw [hb, if_pos rfl, if_pos rfl]
        rcases List.mem_cons.mp h with e | h
        · exact absurd e.symm hc
        · rw [ih h]
  exact key _ _ (by simpa using h)
theorem esc_no {c : Nat} (hc : c = 60 ∨ c = 62) : ∀ l : List Nat, c ∉ esc l
  | [], h => by cases h
  | x :: l, h => by
    rcases List.mem_append.mp (show c ∈ escC x ++ esc l from h) with h | h
    · unfold escC at h
      split at h
      · rcases hc with rfl | rfl <;> (revert h; decide)
      · split at h
        · rcases hc with rfl | rfl <;> (revert h; decide)
        · split at h
          · rcases hc with rfl | rfl <;> (revert h; decide)
          · rename_i h1 h2 h3
            have := List.mem_singleton.mp h
            subst this
            rcases hc with e | e
            · exact h1 e
            · exact h2 e
    · exact esc_no hc l h
theorem name_no {w : List Nat} (hw : ∀ c ∈ w, ilt c = true) {c : Nat} (hc : ilt c = false) : c ∉ w := fun h => by
  have := hw c h
  rw [hc] at this
  cases this
/-- the parser stands behind a begin tag: what it has opened since -/
structure Op (nms : List Str) (t : Tree) (m : Nat) (l : List Nat) : Prop where
  op : ∃ (sw : List (Str × List D)) (dn : Nat), (∃ top ds r, sw = (top, ds) :: r ∧ top ∈ nms) ∧ sw.length ≤ t.dp ∧ dn ≤ t.sz ∧ ∀ (a n : Nat) (st : List (Str × List D)) (X : List Nat), st.length + t.dp ≤ 60 → n + t.sz ≤ 5000 → docF (l.take (m + 1) ++ X) a n st = docF X (a + (m + 1)) (n + dn) (sw ++ st)
theorem mid_get {A B : List Nat} {j : Nat} (hj : j < B.length) (C : List Nat) : (A ++ (B ++ C))[A.length + j]? = B[j]? := by
  rw [List.getElem?_append_right (by omega), Nat.add_sub_cancel_left, List.getElem?_append_left hj]
theorem mid_take {A B C : List Nat} {j : Nat} (hj : j ≤ B.length) : (A ++ (B ++ C)).take (A.length + j) = A ++ B.take j := by
  rw [List.take_append, List.take_of_length_le (by omega), Nat.add_sub_cancel_left, List.take_append, show j - B.length = 0 by omega, List.take_zero, List.append_nil]
theorem open_tag {w X : List Nat} {a n : Nat} {st : List (Str × List D)} (w1 : ∀ c ∈ w, ilt c = true) (w2 : 1 ≤ w.length) (w3 : w.length ≤ 12) (h1 : st.length + 1 ≤ 60) (h2 : n + 1 ≤ 5000) : docF (60 :: (w ++ 62 :: X)) a n st = docF X (a + (w.length + 2)) (n + 1) ((nm w, []) :: st) := by
  have hp := part_begin (X := 62 :: X) (a := a) (n := n) (st := st) w1 w2
  rw [(beginL_w w1 w2 w3 (nodeL_none h1 h2)).2] at hp
  rw [docF_step hp (R := X) (by
    rw [show a + 1 + w.length + 1 - a = 1 + (w.length + 1) by omega, ← List.drop_drop, ← List.drop_drop]
    show ((w ++ 62 :: X).drop w.length).drop 1 = X
    rw [List.drop_left]; rfl)]
  show docF X (a + 1 + w.length + 1) (n + 1) ((nm w, []) :: st) = _
  rw [show a + 1 + w.length + 1 = a + (w.length + 2) by omega]
mutual
theorem opens_at (nms : List Str) : ∀ (t : Tree) (k : Nat), t.ok = true → nmIn nms t.pre → (t.wr true)[k]? = some 62 → 47 ∉ back ((t.wr true).take k) → Op nms t k (t.wr true)
  | .txt s, k, hok, hn, hk, hb => by
    rw [Tree.wr_txt] at hk
    exact absurd (List.mem_of_getElem? hk) (esc_no (.inr rfl) _)
  | .el w cs, k, hok, hn, hk, hb => by
    rw [Tree.ok_el, Bool.and_eq_true, Bool.and_eq_true] at hok
    obtain ⟨⟨hw, hap⟩, hoks⟩ := hok
    obtain ⟨w1, w2, w3⟩ := nameOk_ch hw
    have hwm : w ∈ nms := hn (.el w cs) (by rw [Tree.pre_el]; simp) w cs rfl
    have hncs : nmIn nms (Tree.pres cs) := fun x hx => hn x (by rw [Tree.pre_el]; exact List.mem_cons_of_mem _ hx)
    rw [Tree.wr_el, if_neg (by simp)] at hk hb ⊢
    have hdp : (Tree.el w cs).dp = Tree.dps cs + 1 := Tree.dp_el
    have hsz : (Tree.el w cs).sz = 1 + Tree.szs cs := Tree.sz_el
    have hf : ∀ c ∈ [62], True := fun _ _ => trivial
    by_cases c1 : k < (ch w).length + 1
    · -- within the name
      exfalso
      cases k with
      | zero => cases hk
      | succ k =>
        rw [List.getElem?_cons_succ, List.getElem?_append_left (by omega)] at hk
        exact name_no w1 (by decide) (List.mem_of_getElem? hk)
    · by_cases c2 : k = (ch w).length + 1
      · subst c2
        refine ⟨[(w, [])], 1, ⟨w, [], [], rfl, hwm⟩, by rw [hdp]; show 1 ≤ _; omega, by omega, fun a n st X h1 h2 => ?_⟩
        have e : (60 :: (ch w ++ 62 :: (Tree.wrs true cs ++ 60 :: 47 :: (ch w ++ [62])))).take ((ch w).length + 1 + 1) = 60 :: (ch w ++ [62]) := by
          rw [List.take_succ_cons, List.take_append, List.take_of_length_le (by omega), Nat.add_sub_cancel_left]
          rfl
        rw [e, show (60 :: (ch w ++ [62])) ++ X = 60 :: (ch w ++ 62 :: X) by simp, open_tag w1 w2 w3 (by omega) (by omega), nm_ch]
        rfl
      · -- behind the begin tag
        obtain ⟨j, rfl⟩ : ∃ j, k = (ch w).length + 2 + j := ⟨k - ((ch w).length + 2), by omega⟩
        have hA : (60 :: (ch w ++ [62])).length = (ch w).length + 2 := by simp
        have eA : 60 :: (ch w ++ 62 :: (Tree.wrs true cs ++ 60 :: 47 :: (ch w ++ [62]))) = (60 :: (ch w ++ [62])) ++ (Tree.wrs true cs ++ 60 :: 47 :: (ch w ++ [62])) := by simp
        by_cases c3 : j < (Tree.wrs true cs).length
        · rw [eA, ← hA] at hk
          rw [mid_get c3] at hk
          obtain ⟨O, hin⟩ := opens_in nms cs j w [] hoks hap hncs hk (fun h60 => by
            rw [eA, ← hA, mid_take (by omega), back_app h60] at hb
            exact hb)
          obtain ⟨sw, dn, hst, hsl, hdn, hrun⟩ := O
          refine ⟨sw, dn + 1, hst, by rw [hdp]; omega, by omega, fun a n st X h1 h2 => ?_⟩
          rw [eA, ← hA, show (60 :: (ch w ++ [62])).length + j + 1 = (60 :: (ch w ++ [62])).length + (j + 1) by omega, mid_take (by omega)]
          have e2 : (60 :: (ch w ++ [62])) ++ (Tree.wrs true cs).take (j + 1) ++ X = 60 :: (ch w ++ 62 :: ((Tree.wrs true cs).take (j + 1) ++ X)) := by simp
          rw [e2, open_tag w1 w2 w3 (by omega) (by omega), nm_ch, hrun (a + ((ch w).length + 2)) (n + 1) st X (by omega) (by omega), hA]
          rw [show a + ((ch w).length + 2) + (j + 1) = a + ((ch w).length + 2 + (j + 1)) by omega, show n + 1 + dn = n + (dn + 1) by omega]
        · -- the end tag
          exfalso
          rw [eA, ← hA, List.getElem?_append_right (by omega), Nat.add_sub_cancel_left, List.getElem?_append_right (by omega)] at hk
          have hj2 : j - (Tree.wrs true cs).length < (60 :: 47 :: (ch w ++ [62])).length := (List.getElem?_eq_some_iff.mp hk).1
          obtain ⟨i, hi⟩ : ∃ i, j = (Tree.wrs true cs).length + i := ⟨j - (Tree.wrs true cs).length, by omega⟩
          subst hi
          rw [Nat.add_sub_cancel_left] at hk hj2
          have hi2 : i = (ch w).length + 2 := by
            cases i with
            | zero => cases hk
            | succ i =>
              cases i with
              | zero => cases hk
              | succ i =>
                rw [List.getElem?_cons_succ, List.getElem?_cons_succ] at hk
                by_cases hl : i < (ch w).length
                · rw [List.getElem?_append_left hl] at hk
                  exact absurd (List.mem_of_getElem? hk) (name_no w1 (by decide))
                · simp at hj2
                  omega
          subst hi2
          apply hb
          have e3 : (60 :: (ch w ++ 62 :: (Tree.wrs true cs ++ 60 :: 47 :: (ch w ++ [62])))).take ((ch w).length + 2 + ((Tree.wrs true cs).length + ((ch w).length + 2))) = ((60 :: (ch w ++ [62])) ++ Tree.wrs true cs) ++ (60 :: 47 :: ch w) := by
            have e5 : ((60 :: 47 :: (ch w ++ [62])).take ((ch w).length + 2)) = 60 :: 47 :: ch w := by
              rw [show (60 :: 47 :: (ch w ++ [62])) = (60 :: 47 :: ch w) ++ [62] from rfl]
              exact List.take_left' rfl
            have e6 : (60 :: (ch w ++ [62])).length = (ch w).length + 2 := hA
            rw [eA, List.take_append, List.take_of_length_le (by omega), e6, Nat.add_sub_cancel_left, List.take_append, List.take_of_length_le (by omega), Nat.add_sub_cancel_left, e5, List.append_assoc]
          rw [e3, back_app (by simp)]
          unfold back
          have e4 : (60 :: 47 :: ch w).reverse = (ch w).reverse ++ [47, 60] := by simp
          rw [e4]
          have key : ∀ x : List Nat, (∀ c ∈ x, ilt c = true) → 47 ∈ (x ++ [47, 60]).takeWhile (fun c => c != 60) := by
            intro x
            induction x with
            | nil => intro _; decide
            | cons c x ih =>
              intro hx
              have hc := hx c (List.mem_cons_self ..)
              have hb2 : (c != 60) = true := by
                have : c ≠ 60 := fun e => by subst e; revert hc; decide
                simp [this]
              rw [List.cons_append, List.takeWhile_cons, hb2, if_pos rfl]
              exact List.mem_cons_of_mem _ (ih fun y hy => hx y (List.mem_cons_of_mem _ hy))
          exact key _ (fun c hc => w1 c (by simpa using hc))
theorem opens_in (nms : List Str) : ∀ (ts : List Tree) (j : Nat) (w : Str) (ds : List D), Tree.oks ts = true → apart ts = true → nmIn nms (Tree.pres ts) → (Tree.wrs true ts)[j]? = some 62 → (60 ∈ (Tree.wrs true ts).take j → 47 ∉ back ((Tree.wrs true ts).take j)) →
    (∃ (sw : List (Str × List D)) (dn : Nat), (∃ top ds r, sw = (top, ds) :: r ∧ top ∈ nms) ∧ sw.length ≤ Tree.dps ts + 1 ∧ dn ≤ Tree.szs ts ∧ ∀ (a n : Nat) (st : List (Str × List D)) (X : List Nat), st.length + 1 + Tree.dps ts ≤ 60 → n + Tree.szs ts ≤ 5000 → docF ((Tree.wrs true ts).take (j + 1) ++ X) a n ((w, ds) :: st) = docF X (a + (j + 1)) (n + dn) (sw ++ st)) ∧ True
  | [], j, w, ds, _, _, _, hk, _ => by rw [Tree.wrs_nil] at hk; cases hk
  | t :: ts, j, w, ds, hok, hap, hn, hk, hb => by
    rw [Tree.oks_cons, Bool.and_eq_true] at hok
    have hap2 : apart ts = true := by
      cases ts with
      | nil => rfl
      | cons u us =>
        have : (!(t.isT && u.isT) && apart (u :: us)) = true := hap
        rw [Bool.and_eq_true] at this
        exact this.2
    have hn1 : nmIn nms t.pre := fun x hx => hn x (by rw [Tree.pres_cons]; exact List.mem_append_left _ hx)
    have hn2 : nmIn nms (Tree.pres ts) := fun x hx => hn x (by rw [Tree.pres_cons]; exact List.mem_append_right _ hx)
    rw [Tree.wrs_cons] at hk hb ⊢
    by_cases c1 : j < (t.wr true).length
    · rw [List.getElem?_append_left c1] at hk
      have hel : t.isT = false := by
        cases t with
        | txt s => rw [Tree.wr_txt] at hk; exact absurd (List.mem_of_getElem? hk) (esc_no (.inr rfl) _)
        | el _ _ => rfl
      obtain ⟨r, hr⟩ := Tree.wr_el_head (b := true) hel
      have hj1 : 1 ≤ j := by
        rcases Nat.eq_zero_or_pos j with rfl | h
        · rw [hr] at hk; cases hk
        · exact h
      have h60 : 60 ∈ (t.wr true).take j := by
        rw [hr]
        obtain ⟨i, rfl⟩ : ∃ i, j = i + 1 := ⟨j - 1, by omega⟩
        rw [List.take_succ_cons]
        exact List.mem_cons_self ..
      have htk : (t.wr true ++ Tree.wrs true ts).take j = (t.wr true).take j := by rw [List.take_append, show j - (t.wr true).length = 0 by omega, List.take_zero, List.append_nil]
      rw [htk] at hb
      obtain ⟨sw, dn, ⟨top, d0, r0, e0, hm⟩, hsl, hdn, hrun⟩ := (opens_at nms t j hok.1 hn1 hk (hb h60)).op
      refine ⟨⟨sw ++ [(w, ds)], dn, ⟨top, d0, r0 ++ [(w, ds)], by rw [e0]; rfl, hm⟩, by rw [List.length_append, Tree.dps_cons]; show sw.length + 1 ≤ _; omega, by rw [Tree.szs_cons]; omega, fun a n st X h1 h2 => ?_⟩, trivial⟩
      rw [Tree.dps_cons] at h1
      rw [Tree.szs_cons] at h2
      rw [show (t.wr true ++ Tree.wrs true ts).take (j + 1) = (t.wr true).take (j + 1) by rw [List.take_append, show j + 1 - (t.wr true).length = 0 by omega, List.take_zero, List.append_nil]]
      rw [hrun a n ((w, ds) :: st) X (by show st.length + 1 + t.dp ≤ 60; omega) (by omega), List.append_assoc]
      rfl
    · obtain ⟨i, rfl⟩ : ∃ i, j = (t.wr true).length + i := ⟨j - (t.wr true).length, by omega⟩
      rw [List.getElem?_append_right (by omega), Nat.add_sub_cancel_left] at hk
      have htk : ∀ m, (t.wr true ++ Tree.wrs true ts).take ((t.wr true).length + m) = t.wr true ++ (Tree.wrs true ts).take m := fun m => by rw [List.take_append, List.take_of_length_le (by omega), Nat.add_sub_cancel_left]
      obtain ⟨⟨sw, dn, hst, hsl, hdn, hrun⟩, -⟩ := opens_in nms ts i w (ds ++ [t.d]) hok.2 hap2 hn2 hk (fun h60 => by
        rw [htk] at hb
        have := hb (List.mem_append_right _ h60)
        rw [back_app h60] at this
        exact this)
      refine ⟨⟨sw, dn + t.sz, hst, by rw [Tree.dps_cons]; omega, by rw [Tree.szs_cons]; omega, fun a n st X h1 h2 => ?_⟩, trivial⟩
      rw [Tree.dps_cons] at h1
      rw [Tree.szs_cons] at h2
      rw [show (t.wr true).length + i + 1 = (t.wr true).length + (i + 1) by omega, htk, List.append_assoc]
      have hhead : t.isT = true → ∃ R', (Tree.wrs true ts).take (i + 1) ++ X = 60 :: R' := fun hT => by
        cases ts with
        | nil => rw [Tree.wrs_nil] at hk; cases hk
        | cons u us =>
          have h2 : (!(t.isT && u.isT) && apart (u :: us)) = true := hap
          rw [hT, Bool.and_eq_true] at h2
          have hu : u.isT = false := by simpa using h2.1
          obtain ⟨r, hr⟩ := Tree.wr_el_head (b := true) hu
          exact ⟨_, by rw [Tree.wrs_cons, hr]; rfl⟩
      rw [wr_parse true t _ a n ((w, ds) :: st) hok.1 hhead (by show st.length + 1 + t.dp ≤ 60; omega) (by omega), putT_cons]
      show docF ((Tree.wrs true ts).take (i + 1) ++ X) _ _ _ = _
      rw [hrun (a + (t.wr true).length) (n + t.sz) st X (by omega) (by omega)]
      rw [show a + (t.wr true).length + (i + 1) = a + ((t.wr true).length + (i + 1)) by omega, show n + t.sz + dn = n + (dn + t.sz) by omega]
end
end Tp
end
section
set_option Elab.async false
set_option linter.all false
set_option maxRecDepth 100000
set_option maxHeartbeats 8000000
namespace Tp
open PySem L2 Dl Tp.Tx
/-- what the reader says of a text that is cut off behind e -/
def Cut (e : Nat) (r : Sum (D × Nat × Nat) (Nat × Str)) : Prop := ∃ p s, r = .inr (p, s) ∧ (p = e ∧ s = "open" ∨ s = "sign" ∨ s = "end")
theorem cut_nil {a n : Nat} {st : List (Str × List D)} : Cut a (docF [] a n st) := ⟨a, "open", docF_er rfl, .inl ⟨rfl, rfl⟩⟩
theorem esc_part : ∀ (l : List Nat), (l = eLt ∨ l = eGt ∨ l = eAm) → ∀ m, m ≠ 0 → m < l.length → lookL (l.take m) = .inl 38 ∧ signL (l.take m) = .inr "sign" := by
  rintro l (rfl | rfl | rfl) m m0 m1
  · have m1 : m < 4 := m1
    rcases (show m = 1 ∨ m = 2 ∨ m = 3 by omega) with rfl | rfl | rfl <;> exact ⟨rfl, rfl⟩
  · have m1 : m < 4 := m1
    rcases (show m = 1 ∨ m = 2 ∨ m = 3 by omega) with rfl | rfl | rfl <;> exact ⟨rfl, rfl⟩
  · have m1 : m < 5 := m1
    rcases (show m = 1 ∨ m = 2 ∨ m = 3 ∨ m = 4 by omega) with rfl | rfl | rfl | rfl <;> exact ⟨rfl, rfl⟩
theorem dps_pos (ts : List Tree) : 0 ≤ Tree.dps ts := Nat.zero_le _
theorem strG_cut : ∀ (cs : List Nat) {f b m : Nat} {ls : List Nat}, (∀ c ∈ cs, chOk c = true) → m ≤ (esc cs).length → m < f → ls.length + cs.length ≤ 200 → ∃ p s, strG f ((esc cs).take m) b ls = .inr (p, s) ∧ (p = b + m ∧ s = "open" ∨ s = "sign" ∨ s = "end")
  | [], f, b, m, ls, _, hm, hf, _ => by
    obtain ⟨g, rfl⟩ : ∃ g, f = g + 1 := ⟨f - 1, by omega⟩
    have : m = 0 := by simpa [esc] using hm
    subst this
    exact ⟨b, "open", rfl, .inl ⟨rfl, rfl⟩⟩
  | c :: cs, f, b, m, ls, hok, hm, hf, hl => by
    obtain ⟨g, rfl⟩ : ∃ g, f = g + 1 := ⟨f - 1, by omega⟩
    have hc := hok c (List.mem_cons_self ..)
    have e : esc (c :: cs) = escC c ++ esc cs := rfl
    have hlc := escC_len c
    rw [e, List.length_append] at hm
    rw [e]
    by_cases h0 : m = 0
    · subst h0
      exact ⟨b, "open", rfl, .inl ⟨rfl, rfl⟩⟩
    by_cases h1 : (escC c).length ≤ m
    · obtain ⟨k, rfl⟩ : ∃ k, m = (escC c).length + k := ⟨m - (escC c).length, by omega⟩
      have et : (escC c ++ esc cs).take ((escC c).length + k) = escC c ++ (esc cs).take k := by rw [List.take_append, List.take_of_length_le (by omega), Nat.add_sub_cancel_left]
      obtain ⟨x, k1, k2, k3⟩ := esc_look (R := (esc cs).take k) hc
      have hl2 : ls.length + (cs.length + 1) ≤ 200 := hl
      obtain ⟨p, s, q1, q2⟩ := strG_cut cs (f := g) (b := b + (escC c).length) (m := k) (ls := ls ++ [c]) (fun y hy => hok y (List.mem_cons_of_mem _ hy)) (by omega) (by omega) (by rw [List.length_append]; show ls.length + 1 + cs.length ≤ 200; omega)
      refine ⟨p, s, ?_, ?_⟩
      · rw [et, strG_s, k1]
        simp only
        rw [if_neg k2, k3]
        simp only
        rw [if_neg (by omega), List.drop_left]
        exact q1
      · rw [show b + ((escC c).length + k) = b + (escC c).length + k by omega]
        exact q2
    · have et : (escC c ++ esc cs).take m = (escC c).take m := by rw [List.take_append, show m - (escC c).length = 0 by omega, List.take_zero, List.append_nil]
      rw [et]
      refine ⟨b, "sign", ?_, .inr (.inl rfl)⟩
      have h3 : escC c = eLt ∨ escC c = eGt ∨ escC c = eAm := by
        by_cases c1 : c = 60
        · subst c1; exact .inl rfl
        · by_cases c2 : c = 62
          · subst c2; exact .inr (.inl rfl)
          · by_cases c3 : c = 38
            · subst c3; exact .inr (.inr rfl)
            · rw [escC_plain c1 c2 c3] at h1
              have h1 : ¬ 1 ≤ m := h1
              omega
      obtain ⟨g1, g2⟩ := esc_part _ h3 m h0 (by omega)
      rw [strG_s, g1]
      simp only
      rw [if_neg (by decide), g2]
theorem txt_cut {s : Str} {a n m : Nat} {st : List (Str × List D)} (hs : textOk s = true) (hm : m ≤ (esc (ch s)).length) (hd : st.length + 1 ≤ 60) (hn : n + 1 ≤ 5000) : Cut (a + m) (docF ((esc (ch s)).take m) a n st) := by
  obtain ⟨h1, h2, h3⟩ := textOk_ch hs
  have hnn := nodeL_none (p := a) hd hn
  by_cases h0 : m = 0
  · subst h0; exact cut_nil
  cases q : ch s with
  | nil => rw [q] at h2; simp at h2
  | cons c cs =>
    rw [q] at h1 h3 hm
    have hc := h1 c (List.mem_cons_self ..)
    have e : esc (c :: cs) = escC c ++ esc cs := rfl
    have hlc := escC_len c
    rw [e, List.length_append] at hm
    rw [e]
    obtain ⟨x, y1, y2, y3⟩ := esc_look (R := []) hc
    rw [List.append_nil] at y1
    have hlk : lookL ((escC c ++ esc cs).take m) = .inl x := by
      have : ∃ r, escC c = x :: r := by
        obtain ⟨r, hr, -⟩ := lookL_pos y1
        exact ⟨r, hr⟩
      obtain ⟨r, hr⟩ := this
      obtain ⟨-, -, hx⟩ := lookL_pos y1
      obtain ⟨k, rfl⟩ : ∃ k, m = k + 1 := ⟨m - 1, by omega⟩
      rw [hr]
      exact lookL_ok hx
    have ht : tagL ((escC c ++ esc cs).take m) a 60 = .inl false := by
      unfold tagL
      rw [hlk]
      simp [y2]
    by_cases h1' : (escC c).length ≤ m
    · obtain ⟨k, rfl⟩ : ∃ k, m = (escC c).length + k := ⟨m - (escC c).length, by omega⟩
      have et : (escC c ++ esc cs).take ((escC c).length + k) = escC c ++ (esc cs).take k := by rw [List.take_append, List.take_of_length_le (by omega), Nat.add_sub_cancel_left]
      obtain ⟨p, s', q1, q2⟩ := strG_cut cs (f := ((escC c ++ (esc cs).take k).length + 1)) (b := a + (escC c).length) (m := k) (ls := [c]) (fun y hy => h1 y (List.mem_cons_of_mem _ hy)) (by omega) (by rw [List.length_append, List.length_take]; omega) (by have : cs.length + 1 ≤ 200 := h3; show 1 + cs.length ≤ 200; omega)
      have hp : partL (escC c ++ (esc cs).take k) a n st = .inr (p, s') := by
        rw [et] at ht
        unfold partL
        rw [ht]
        simp only
        obtain ⟨x', y1', y2', y3'⟩ := esc_look (R := (esc cs).take k) hc
        unfold strL2
        rw [y3']
        simp only
        rw [hnn]
        simp only
        rw [List.drop_left, q1]
      refine ⟨p, s', ?_, ?_⟩
      · rw [et]; exact docF_er hp
      · rw [show a + ((escC c).length + k) = a + (escC c).length + k by omega]
        exact q2
    · have et : (escC c ++ esc cs).take m = (escC c).take m := by rw [List.take_append, show m - (escC c).length = 0 by omega, List.take_zero, List.append_nil]
      have h3 : escC c = eLt ∨ escC c = eGt ∨ escC c = eAm := by
        by_cases c1 : c = 60
        · subst c1; exact .inl rfl
        · by_cases c2 : c = 62
          · subst c2; exact .inr (.inl rfl)
          · by_cases c3 : c = 38
            · subst c3; exact .inr (.inr rfl)
            · rw [escC_plain c1 c2 c3] at h1'
              have h1' : ¬ 1 ≤ m := h1'
              omega
      obtain ⟨g1, g2⟩ := esc_part _ h3 m h0 (by omega)
      have hp : partL ((escC c).take m) a n st = .inr (a, "sign") := by
        rw [et] at ht
        unfold partL
        rw [ht]
        simp only
        unfold strL2
        rw [g2]
      exact ⟨a, "sign", by rw [et]; exact docF_er hp, .inr (.inl rfl)⟩
theorem take_lt {w : List Nat} {i : Nat} (h : i < w.length) : nm (w.take i) ≠ nm w := fun e => by
  have h2 : ch (nm (w.take i)) = ch (nm w) := by rw [e]
  unfold nm at h2
  rw [ch_mk, ch_mk] at h2
  have := congrArg List.length h2
  rw [List.length_take] at this
  omega
theorem take_nm {w : List Nat} (hw : ∀ c ∈ w, ilt c = true) (i : Nat) : ∀ c ∈ w.take i, ilt c = true := fun c hc => hw c (List.mem_of_mem_take hc)
theorem nm_part {w : List Nat} {i a : Nat} (hw : ∀ c ∈ w, ilt c = true) (w3 : w.length ≤ 12) (h1 : 1 ≤ i) (hi : i ≤ w.length) : nameL (w.take i) a = .inl (w.take i, a + i) := by
  have := nameL_w (R := []) (a := a) (take_nm hw i) (by rw [List.length_take]; omega) (by rw [List.length_take]; omega) (fun c r e => by cases e)
  rw [List.append_nil] at this
  rw [this, List.length_take, Nat.min_eq_left hi]
/-- a begin tag cut off -/
theorem open_cut {w : List Nat} {a n m : Nat} {st : List (Str × List D)} (hw : ∀ c ∈ w, ilt c = true) (w2 : 1 ≤ w.length) (w3 : w.length ≤ 12) (hm : m ≤ w.length + 1) (hd : st.length + 1 ≤ 60) (hn : n + 1 ≤ 5000) : Cut (a + m) (docF ((60 :: w).take m) a n st) := by
  have hnn := nodeL_none (p := a) hd hn
  by_cases h0 : m = 0
  · subst h0; exact cut_nil
  obtain ⟨i, rfl⟩ : ∃ i, m = i + 1 := ⟨m - 1, by omega⟩
  rw [List.take_succ_cons]
  by_cases h1 : i = 0
  · subst h1
    rw [List.take_zero]
    have hp : partL [60] a n st = .inr (a + 1, "open") := by
      have hb : beginL [] (a + 1) a n st.length = .inr (a + 1, "open") := by
        unfold beginL
        rw [hnn]
        rfl
      cases st with
      | nil => exact hb
      | cons x st => exact hb
    exact ⟨_, _, docF_er hp, .inl ⟨rfl, rfl⟩⟩
  · have hp := part_begin (X := []) (a := a) (n := n) (st := st) (take_nm hw i) (by rw [List.length_take]; omega)
    rw [List.append_nil] at hp
    have hb : beginL (w.take i) (a + 1) a n st.length = .inr (a + 1 + i, "open") := by
      unfold beginL
      rw [hnn, nm_part hw w3 (by omega) (by omega)]
      simp only
      rw [List.drop_length]
      rfl
    exact ⟨_, _, docF_er (hp.trans hb), .inl ⟨by omega, rfl⟩⟩
/-- an end tag cut off -/
theorem close_cut {w : List Nat} {a n m : Nat} {ds : List D} {st : List (Str × List D)} (hw : ∀ c ∈ w, ilt c = true) (w2 : 1 ≤ w.length) (w3 : w.length ≤ 12) (hm : m ≤ w.length + 2) (hd : st.length + 2 ≤ 60) (hn : n + 1 ≤ 5000) : Cut (a + m) (docF ((60 :: 47 :: w).take m) a n ((nm w, ds) :: st)) := by
  by_cases h0 : m ≤ 1
  · have := open_cut (w := w) (a := a) (n := n) (m := m) (st := (nm w, ds) :: st) hw w2 w3 (by omega) hd hn
    rcases (show m = 0 ∨ m = 1 by omega) with rfl | rfl <;> exact this
  obtain ⟨i, rfl⟩ : ∃ i, m = i + 2 := ⟨m - 2, by omega⟩
  rw [List.take_succ_cons, List.take_succ_cons]
  have hp : partL (60 :: 47 :: w.take i) a n ((nm w, ds) :: st) = endL (w.take i) (a + 2) n (nm w) := by
    unfold partL
    rw [tagL_is (by decide)]
    rfl
  by_cases h1 : i = 0
  · subst h1
    exact ⟨_, _, docF_er (hp.trans rfl), .inl ⟨rfl, rfl⟩⟩
  · by_cases h2 : i = w.length
    · subst h2
      have hb : endL (w.take w.length) (a + 2) n (nm w) = .inr (a + 2 + w.length, "open") := by
        unfold endL
        rw [nm_part hw w3 (by omega) (by omega)]
        simp only
        rw [List.take_length, if_neg (by simp), List.drop_length]
        rfl
      exact ⟨_, _, docF_er (hp.trans hb), .inl ⟨by omega, rfl⟩⟩
    · have hb : endL (w.take i) (a + 2) n (nm w) = .inr (a + 2, "end") := by
        unfold endL
        rw [nm_part hw w3 (by omega) (by omega)]
        simp only
        rw [if_pos (take_lt (by omega))]
      exact ⟨_, _, docF_er (hp.trans hb), .inr (.inr rfl)⟩
mutual
theorem cut_at : ∀ (t : Tree) (m a n : Nat) (st : List (Str × List D)), t.ok = true → m ≤ (t.wr true).length → (t.isT = false → m < (t.wr true).length) → st.length + t.dp + 1 ≤ 60 → n + t.sz + 1 ≤ 5000 → Cut (a + m) (docF ((t.wr true).take m) a n st)
  | .txt s, m, a, n, st, hok, hm, _, hd, hn => by
    rw [Tree.ok_txt] at hok
    rw [Tree.dp_txt] at hd
    rw [Tree.sz_txt] at hn
    rw [Tree.wr_txt] at hm ⊢
    exact txt_cut hok hm (by omega) (by omega)
  | .el w cs, m, a, n, st, hok, _, hm, hd, hn => by
    have hm := hm rfl
    rw [Tree.ok_el, Bool.and_eq_true, Bool.and_eq_true] at hok
    obtain ⟨⟨hw, hap⟩, hoks⟩ := hok
    obtain ⟨w1, w2, w3⟩ := nameOk_ch hw
    rw [Tree.dp_el] at hd
    rw [Tree.sz_el] at hn
    have hwr : (Tree.el w cs).wr true = (60 :: ch w) ++ (62 :: (Tree.wrs true cs ++ 60 :: 47 :: (ch w ++ [62]))) := by
      rw [Tree.wr_el, if_neg (by simp)]; rfl
    have hlen : ((Tree.el w cs).wr true).length = (ch w).length + 2 + ((Tree.wrs true cs).length + ((ch w).length + 3)) := by
      rw [hwr]; simp; omega
    rw [hlen] at hm
    rw [hwr]
    by_cases c1 : m ≤ (ch w).length + 1
    · rw [List.take_append, show m - (60 :: ch w).length = 0 by show m - ((ch w).length + 1) = 0; omega, List.take_zero, List.append_nil]
      exact open_cut w1 w2 w3 c1 (by omega) (by omega)
    · obtain ⟨i, rfl⟩ : ∃ i, m = (60 :: ch w).length + (i + 1) := ⟨m - (60 :: ch w).length - 1, by show m = (ch w).length + 1 + (m - ((ch w).length + 1) - 1 + 1); omega⟩
      have hm : (ch w).length + 1 + (i + 1) < (ch w).length + 2 + ((Tree.wrs true cs).length + ((ch w).length + 3)) := hm
      rw [List.take_append, List.take_of_length_le (Nat.le_add_right _ _), Nat.add_sub_cancel_left, List.take_succ_cons]
      have e1 : 60 :: ch w ++ 62 :: (Tree.wrs true cs ++ 60 :: 47 :: (ch w ++ [62])).take i = 60 :: (ch w ++ 62 :: (Tree.wrs true cs ++ 60 :: 47 :: (ch w ++ [62])).take i) := rfl
      rw [e1, open_tag w1 w2 w3 (by omega) (by omega), nm_ch]
      have e2 : a + ((60 :: ch w).length + (i + 1)) = a + ((ch w).length + 2) + i := by show a + ((ch w).length + 1 + (i + 1)) = _; omega
      rw [e2]
      by_cases c2 : i ≤ (Tree.wrs true cs).length
      · rw [List.take_append, show i - (Tree.wrs true cs).length = 0 by omega, List.take_zero, List.append_nil]
        exact cut_in cs i _ _ w [] st hoks hap c2 (by omega) (by omega)
      · obtain ⟨j, rfl⟩ : ∃ j, i = (Tree.wrs true cs).length + (j + 1) := ⟨i - (Tree.wrs true cs).length - 1, by omega⟩
        rw [List.take_append, List.take_of_length_le (Nat.le_add_right _ _), Nat.add_sub_cancel_left, List.take_succ_cons]
        rw [wrs_parse true cs _ _ _ w [] st hoks hap (by omega) (by omega)]
        have e3 : 60 :: (47 :: (ch w ++ [62])).take j = (60 :: 47 :: ch w).take (j + 1) := by
          have : (60 :: 47 :: (ch w ++ [62])).take (j + 1) = (60 :: 47 :: ch w).take (j + 1) := by
            rw [show 60 :: 47 :: (ch w ++ [62]) = (60 :: 47 :: ch w) ++ [62] from rfl, List.take_append, show j + 1 - (60 :: 47 :: ch w).length = 0 by show j + 1 - ((ch w).length + 2) = 0; omega, List.take_zero, List.append_nil]
          rw [← this, List.take_succ_cons]
        rw [e3, ← Nat.add_assoc]
        have hc := close_cut (w := ch w) (a := a + ((ch w).length + 2) + (Tree.wrs true cs).length) (n := n + 1 + Tree.szs cs) (m := j + 1) (ds := [] ++ cs.map Tree.d) (st := st) w1 w2 w3 (by omega) (by have := dps_pos cs; omega) (by omega)
        rw [nm_ch] at hc
        exact hc
theorem cut_in : ∀ (ts : List Tree) (m a n : Nat) (w : Str) (ds : List D) (st : List (Str × List D)), Tree.oks ts = true → apart ts = true → m ≤ (Tree.wrs true ts).length → st.length + 1 + Tree.dps ts + 1 ≤ 60 → n + Tree.szs ts + 1 ≤ 5000 → Cut (a + m) (docF ((Tree.wrs true ts).take m) a n ((w, ds) :: st))
  | [], m, a, n, w, ds, st, _, _, hm, _, _ => by
    rw [Tree.wrs_nil] at hm ⊢
    have : m = 0 := by simpa using hm
    subst this
    exact cut_nil
  | t :: ts, m, a, n, w, ds, st, hok, hap, hm, hd, hn => by
    rw [Tree.oks_cons, Bool.and_eq_true] at hok
    rw [Tree.dps_cons] at hd
    rw [Tree.szs_cons] at hn
    rw [Tree.wrs_cons, List.length_append] at hm
    rw [Tree.wrs_cons]
    have hap2 : apart ts = true := by
      cases ts with
      | nil => rfl
      | cons u us =>
        have : (!(t.isT && u.isT) && apart (u :: us)) = true := hap
        rw [Bool.and_eq_true] at this
        exact this.2
    by_cases c1 : m < (t.wr true).length ∨ (m = (t.wr true).length ∧ t.isT = true)
    · rw [List.take_append, show m - (t.wr true).length = 0 by omega, List.take_zero, List.append_nil]
      exact cut_at t m a n ((w, ds) :: st) hok.1 (by omega) (fun hT => by
        rcases c1 with h | ⟨_, h⟩
        · exact h
        · rw [hT] at h; cases h) (by show st.length + 1 + t.dp + 1 ≤ 60; omega) (by omega)
    · obtain ⟨i, rfl⟩ : ∃ i, m = (t.wr true).length + i := ⟨m - (t.wr true).length, by omega⟩
      rw [List.take_append, List.take_of_length_le (by omega), Nat.add_sub_cancel_left]
      rw [wr_parse true t _ a n ((w, ds) :: st) hok.1 (fun hT => by
        have hi : 1 ≤ i := by
          rcases Nat.eq_zero_or_pos i with h | h
          · exact absurd (.inr ⟨by omega, hT⟩) c1
          · exact h
        obtain ⟨k, rfl⟩ : ∃ k, i = k + 1 := ⟨i - 1, by omega⟩
        cases ts with
        | nil => rw [Tree.wrs_nil, List.length_nil] at hm; exact absurd hm (by omega)
        | cons u us =>
          have h2 : (!(t.isT && u.isT) && apart (u :: us)) = true := hap
          rw [hT, Bool.and_eq_true] at h2
          have hu : u.isT = false := by simpa using h2.1
          obtain ⟨r, hr⟩ := Tree.wr_el_head (b := true) hu
          exact ⟨_, by rw [Tree.wrs_cons, hr]; rfl⟩) (by show st.length + 1 + t.dp ≤ 60; omega) (by omega), putT_cons]
      show Cut _ (docF ((Tree.wrs true ts).take i) _ _ _)
      rw [← Nat.add_assoc]
      exact cut_in ts i _ _ w (ds ++ [t.d]) st hok.2 hap2 (by omega) (by omega) (by omega)
end
/-- a document's text cut off -/
theorem readL_cut {t : Tree} (h : t.ok = true) (hT : t.isT = false) {m : Nat} (hm : m < (t.wr true).length) (hd : t.dp + 1 ≤ 60) (hs : t.sz + 1 ≤ 5000) : ∃ p s, readL ((t.wr true).take m) = .inr (p, s) ∧ (p = m ∧ s = "open" ∨ s = "sign" ∨ s = "end") := by
  obtain ⟨r, hr⟩ := Tree.wr_el_head (b := true) hT
  obtain ⟨p, s, h1, h2⟩ := cut_at t m 0 0 [] h (by omega) (fun _ => hm) (by simpa using hd) (by omega)
  rw [Nat.zero_add] at h2
  refine ⟨p, s, ?_, h2⟩
  cases m with
  | zero =>
    have : (t.wr true).take 0 = [] := rfl
    rw [this] at h1 ⊢
    rw [docF_er (show partL [] 0 0 [] = .inr (0, "open") from rfl)] at h1
    cases h1
    rfl
  | succ m => exact read_err (r := r.take m) (by rw [hr]; rfl) h1
end Tp
end
section
set_option Elab.async false
set_option linter.all false
set_option maxRecDepth 100000
set_option maxHeartbeats 8000000
namespace Tp
open PySem L2 Dl Tp.Tx
/-- the state behind a begin tag -/
structure St (top : Str) (st : List (Str × List D)) (n : Nat) : Prop where
  tp : ∃ ds r, st = (top, ds) :: r
  dp : st.length + 1 ≤ 60
  nn : n + 1 ≤ 5000
def Bad (l : List Nat) (o : Nat) (s : Str) (C : List Nat → Prop) : Prop := ∀ (R : List Nat) (a n : Nat) (top : Str) (st : List (Str × List D)), C R → (ch top).head? ≠ some 122 → St top st n → docF (l ++ R) a n st = .inr (a + o, s)
theorem bad_txt {l : List Nat} {o : Nat} {s : Str} {c : Nat} {C : List Nat → Prop} (hc : ∀ R, lookL (l ++ R) = .inl c) (h1 : c ≠ 60) (h : ∀ R a n k, C R → nodeL a (k + 1) n = none → strL2 (l ++ R) a n k = .inr (a + o, s)) : Bad l o s C := fun R a n top st hC hz hst => by
  refine docF_er ?_
  have hn := nodeL_none (p := a) hst.dp hst.nn
  unfold partL tagL
  rw [hc]
  simp only
  rw [show decide (c = 60) = false from decide_eq_false h1]
  simp only
  rw [h R a n st.length hC hn]
def U : List Nat → Prop := fun _ => True
def Sp : List Nat → Prop := fun R => ∃ r, R = 32 :: r
def Rn : List Nat → Prop := fun R => (R.takeWhile ilt).length ≤ 10
theorem signL_at {l : List Nat} {r : Str} (h : signL l = .inr r) (a n k : Nat) : strL2 l a n k = .inr (a, r) := by unfold strL2; rw [h]
theorem strL2_two {l : List Nat} {x j a n k b : Nat} {r : Str} (h : signL l = .inl (x, j)) (hn : nodeL a (k + 1) n = none) (hg : strG (l.length + 1) (l.drop j) (a + j) [x] = .inr (b, r)) : strL2 l a n k = .inr (b, r) := by unfold strL2; rw [h]; simp only; rw [hn]; simp only; rw [hg]
theorem strG_go {f : Nat} {l : List Nat} {b x j : Nat} {ls : List Nat} {c : Nat} (h1 : lookL l = .inl c) (h2 : c ≠ 60) (h3 : signL l = .inl (x, j)) (h4 : ls.length ≠ 200) : strG (f + 1) l b ls = strG f (l.drop j) (b + j) (ls ++ [x]) := by
  rw [strG_s, h1]; simp only; rw [if_neg h2, h3]; simp only; rw [if_neg h4]
theorem strG_look {f : Nat} {l : List Nat} {b : Nat} {ls : List Nat} {r : Str} (h1 : lookL l = .inr r) : strG (f + 1) l b ls = .inr (b, r) := by rw [strG_s, h1]
theorem strG_sign {f : Nat} {l : List Nat} {b : Nat} {ls : List Nat} {c : Nat} {r : Str} (h1 : lookL l = .inl c) (h2 : c ≠ 60) (h3 : signL l = .inr r) : strG (f + 1) l b ls = .inr (b, r) := by
  rw [strG_s, h1]; simp only; rw [if_neg h2, h3]
/-- > -/
theorem pc0 : Bad [62] 0 "sign" U := bad_txt (c := 62) (fun _ => rfl) (by decide) fun R a n k _ _ => signL_at rfl a n k
theorem ent_no {l : List Nat} {c : Nat} {r : List Nat} (hl : l = 38 :: c :: r) (h : l.take 4 ≠ eLt) (h2 : l.take 4 ≠ eGt) (h3 : l.take 5 ≠ eAm) : signL l = .inr "sign" := by
  subst hl
  unfold signL
  rw [lookL_ok (by decide)]
  simp only
  rw [if_neg (by decide), if_neg (by decide)]
  unfold entL
  rw [if_neg h, if_neg h2, if_neg h3]
/-- & -/
theorem pc1 : Bad [38, 32] 0 "sign" U := bad_txt (c := 38) (fun _ => rfl) (by decide) fun R a n k _ _ => signL_at (ent_no rfl (by simp [eLt]) (by simp [eGt]) (by simp [eAm])) a n k
theorem pc2 : Bad [38, 120, 59] 0 "sign" U := bad_txt (c := 38) (fun _ => rfl) (by decide) fun R a n k _ _ => signL_at (ent_no rfl (by simp [eLt]) (by simp [eGt]) (by simp [eAm])) a n k
theorem pc3 : Bad [38, 108, 116] 0 "sign" Sp := bad_txt (c := 38) (fun _ => rfl) (by decide) fun R a n k hC _ => by
  obtain ⟨r, rfl⟩ := hC
  exact signL_at (ent_no rfl (by simp [eLt]) (by simp [eGt]) (by simp [eAm])) a n k
theorem pc4 : Bad [120, 62] 1 "sign" U := bad_txt (c := 120) (fun _ => rfl) (by decide) fun R a n k _ hn => strL2_two (x := 120) (j := 1) rfl hn (strG_sign (c := 62) rfl (by decide) rfl)
theorem pc5 : Bad [120, 10, 38, 97, 109, 112] 2 "sign" Sp := bad_txt (c := 120) (fun _ => rfl) (by decide) fun R a n k hC hn => by
  obtain ⟨r, rfl⟩ := hC
  exact strL2_two (x := 120) (j := 1) rfl hn ((strG_go (c := 10) (x := 10) (j := 1) rfl (by decide) rfl (by decide)).trans (strG_sign (c := 38) rfl (by decide) (ent_no rfl (by simp [eLt]) (by simp [eGt]) (by simp [eAm]))))
/-- characters -/
theorem pc6 : Bad [9] 0 "character" U := fun R a n top st _ _ _ => docF_er rfl
theorem pc7 : Bad [120, 10, 121, 9] 3 "character" U := bad_txt (c := 120) (fun _ => rfl) (by decide) fun R a n k hC hn => strL2_two (x := 120) (j := 1) rfl hn ((strG_go (c := 10) (x := 10) (j := 1) rfl (by decide) rfl (by decide)).trans ((strG_go (c := 121) (x := 121) (j := 1) rfl (by decide) rfl (by decide)).trans (strG_look rfl)))
/-- what begins with < and no / -/
theorem bad_beg {l : List Nat} {o : Nat} {s : Str} {c : Nat} {r : List Nat} (hl : l = 60 :: c :: r) (h1 : c ≠ 47) (h : ∀ R a n k, nodeL a (k + 1) n = none → beginL (c :: r ++ R) (a + 1) a n k = .inr (a + o, s)) : Bad l o s U := fun R a n top st hC hz hst => by
  refine docF_er ?_
  have hn := nodeL_none (p := a) hst.dp hst.nn
  obtain ⟨ds, r0, e⟩ := hst.tp
  have h2 := h R a n st.length hn
  subst hl
  unfold partL
  rw [show tagL (60 :: c :: r ++ R) a 60 = .inl true from rfl]
  simp only
  subst e
  simp only
  have hs : isSl ((60 :: c :: r ++ R).drop 1) = false := decide_eq_false h1
  rw [hs]
  exact h2
theorem beg_name {l : List Nat} {a p n k : Nat} {s : Str} (hn : nodeL p (k + 1) n = none) (h : nameL l a = .inr (a, s)) : beginL l a p n k = .inr (a, s) := by unfold beginL; rw [hn]; simp only; rw [h]
theorem beg_tag {w X : List Nat} {a p n k b : Nat} {s : Str} (hw : ∀ c ∈ w, ilt c = true) (h1 : 1 ≤ w.length) (h2 : w.length ≤ 12) (hX : ∀ c r, X = c :: r → ilt c = false) (hn : nodeL p (k + 1) n = none) (h : (tagL X (a + w.length) 47 = .inr (b, s)) ∨ (tagL X (a + w.length) 47 = .inl true ∧ (tagL (X.drop 1) (a + w.length + 1) 62 = .inr (b, s) ∨ tagL (X.drop 1) (a + w.length + 1) 62 = .inl false ∧ b = a + w.length + 1 ∧ s = "tag")) ∨ (tagL X (a + w.length) 47 = .inl false ∧ (tagL X (a + w.length) 62 = .inl false ∧ b = a + w.length ∧ s = "tag"))) : beginL (w ++ X) a p n k = .inr (b, s) := by
  unfold beginL
  rw [hn]
  simp only
  rw [nameL_w hw h1 h2 hX]
  simp only
  rw [List.drop_left, show (w ++ X).drop (w.length + 1) = X.drop 1 by rw [← List.drop_drop, List.drop_left]]
  rcases h with h | ⟨h, h' | ⟨h', rfl, rfl⟩⟩ | ⟨h, h', rfl, rfl⟩ <;> rw [h] <;> simp only [h']
theorem pc8 : Bad [60, 9] 1 "character" U := bad_beg rfl (by decide) fun R a n k hn => beg_name hn rfl
theorem pc9 : Bad [60, 97, 9] 2 "character" U := bad_beg rfl (by decide) fun R a n k hn => beg_tag (w := [97]) (X := 9 :: R) (by decide) (by decide) (by decide) (by rintro _ _ ⟨⟩; rfl) hn (.inl rfl)
theorem pc10 : Bad [60, 32, 97, 62] 1 "name" U := bad_beg rfl (by decide) fun R a n k hn => beg_name hn rfl
theorem pc11 : Bad [60, 49, 62] 1 "name" U := bad_beg rfl (by decide) fun R a n k hn => beg_name hn rfl
theorem pc12 : Bad [60, 62] 1 "name" U := bad_beg rfl (by decide) fun R a n k hn => beg_name hn rfl
theorem pc13 : Bad [60, 65, 47, 62] 1 "name" U := bad_beg rfl (by decide) fun R a n k hn => beg_name hn rfl
theorem pc14 : Bad [60, 97, 98, 99, 100, 101, 102, 103, 104, 105, 106, 107, 108, 109, 47, 62] 1 "name" U := bad_beg rfl (by decide) fun R a n k hn => beg_name hn rfl
theorem pc17 : Bad [60, 97, 32, 98, 62] 2 "tag" U := bad_beg rfl (by decide) fun R a n k hn => beg_tag (w := [97]) (X := 32 :: 98 :: 62 :: R) (by decide) (by decide) (by decide) (by rintro _ _ ⟨⟩; rfl) hn (.inr (.inr ⟨rfl, rfl, rfl, rfl⟩))
theorem pc18 : Bad [60, 97, 49, 62] 2 "tag" U := bad_beg rfl (by decide) fun R a n k hn => beg_tag (w := [97]) (X := 49 :: 62 :: R) (by decide) (by decide) (by decide) (by rintro _ _ ⟨⟩; rfl) hn (.inr (.inr ⟨rfl, rfl, rfl, rfl⟩))
theorem pc19 : Bad [60, 97, 47, 32, 62] 3 "tag" U := bad_beg rfl (by decide) fun R a n k hn => beg_tag (w := [97]) (X := 47 :: 32 :: 62 :: R) (by decide) (by decide) (by decide) (by rintro _ _ ⟨⟩; rfl) hn (.inr (.inl ⟨rfl, .inr ⟨rfl, rfl, rfl⟩⟩))
theorem pc20 : Bad [60, 97, 60] 2 "tag" U := bad_beg rfl (by decide) fun R a n k hn => beg_tag (w := [97]) (X := 60 :: R) (by decide) (by decide) (by decide) (by rintro _ _ ⟨⟩; rfl) hn (.inr (.inr ⟨rfl, rfl, rfl, rfl⟩))
theorem pc21 : Bad [60, 97, 47, 47, 62] 3 "tag" U := bad_beg rfl (by decide) fun R a n k hn => beg_tag (w := [97]) (X := 47 :: 47 :: 62 :: R) (by decide) (by decide) (by decide) (by rintro _ _ ⟨⟩; rfl) hn (.inr (.inl ⟨rfl, .inr ⟨rfl, rfl, rfl⟩⟩))
/-- what begins with </ -/
theorem part_sl {l : List Nat} {a n : Nat} {top : Str} {ds : List D} {r : List (Str × List D)} : partL (60 :: 47 :: l) a n ((top, ds) :: r) = endL l (a + 2) n top := by
  unfold partL
  rw [tagL_is (by decide)]
  rfl
theorem bad_end {l : List Nat} {o : Nat} {s : Str} {C : List Nat → Prop} (h : ∀ R a n (top : Str), C R → (ch top).head? ≠ some 122 → endL (l ++ R) (a + 2) n top = .inr (a + o, s)) : Bad (60 :: 47 :: l) o s C := fun R a n top st hC hz hst => by
  obtain ⟨ds, r0, e⟩ := hst.tp
  subst e
  exact docF_er (part_sl.trans (h R a n top hC hz))
theorem end_name {l : List Nat} {a n : Nat} {top s : Str} (h : nameL l a = .inr (a, s)) : endL l a n top = .inr (a, s) := by unfold endL; rw [h]
theorem pc15 : Bad [60, 47, 62] 2 "name" U := bad_end fun R a n top _ _ => end_name rfl
theorem pc16 : Bad [60, 47, 32, 97, 62] 2 "name" U := bad_end fun R a n top _ _ => end_name rfl
theorem pc27 : Bad [60, 47, 122, 122, 122, 122, 122, 122, 122, 122, 122, 122, 122, 122, 122, 62] 2 "name" U := bad_end fun R a n top _ _ => end_name rfl
theorem nmzz : nm [122, 122] = "zz" := by decide +kernel
theorem zz_ne {top : Str} {w : List Nat} (hz : (ch top).head? ≠ some 122) : nm (122 :: w) ≠ top := fun e => hz (by
  subst e
  unfold nm
  rw [ch_mk]
  rfl)
theorem pc22 : Bad [60, 47, 122, 122, 62] 2 "end" U := bad_end fun R a n top _ hz => by
  have := nameL_w (w := [122, 122]) (R := 62 :: R) (a := a + 2) (by decide) (by decide) (by decide) (by rintro _ _ ⟨⟩; rfl)
  show endL ([122, 122] ++ 62 :: R) (a + 2) n top = _
  unfold endL
  rw [this]
  simp only
  rw [if_pos (zz_ne hz)]
theorem pc23 : Bad [60, 47, 122, 122] 2 "end" Rn := bad_end fun R a n top hC hz => by
  have hC : (R.takeWhile ilt).length ≤ 10 := hC
  have ht : ([122, 122] ++ R).takeWhile ilt = 122 :: 122 :: R.takeWhile ilt := rfl
  have hl : lookL ([122, 122] ++ R) = .inl 122 := rfl
  have hi : ilt 122 = true := rfl
  have this : nameL ([122, 122] ++ R) (a + 2) = .inl (122 :: 122 :: R.takeWhile ilt, a + 2 + (122 :: 122 :: R.takeWhile ilt).length) := by
    unfold nameL
    rw [hl]
    simp only
    rw [if_pos hi, ht, if_pos (by show (R.takeWhile ilt).length + 1 + 1 ≤ 12; omega)]
  unfold endL
  rw [this]
  simp only
  rw [if_pos (zz_ne hz)]
theorem bad_zz {l : List Nat} {o : Nat} {s : Str} (h : ∀ R a n, endL (l ++ R) (a + 2) n "zz" = .inr (a + o, s)) : Bad (60 :: ([122, 122] ++ 62 :: (60 :: 47 :: l))) (4 + o) s U := fun R a n top st _ _ hst => by
  have e : (60 :: ([122, 122] ++ 62 :: (60 :: 47 :: l))) ++ R = 60 :: ([122, 122] ++ 62 :: (60 :: 47 :: (l ++ R))) := rfl
  rw [e, open_tag (by decide) (by decide) (by decide) hst.dp hst.nn, nmzz]
  refine docF_er (part_sl.trans ?_)
  have := h R (a + 4) (n + 1)
  rw [Nat.add_assoc a 4 o] at this
  exact this
theorem pc24 : Bad [60, 122, 122, 62, 60, 47, 97, 62] 6 "end" U := bad_zz (l := [97, 62]) (o := 2) fun R a n => by
  have := nameL_w (w := [97]) (R := 62 :: R) (a := a + 2) (by decide) (by decide) (by decide) (by rintro _ _ ⟨⟩; rfl)
  show endL ([97] ++ 62 :: R) (a + 2) n "zz" = _
  unfold endL
  rw [this]
  simp only
  rw [if_pos (by decide +kernel)]
theorem end_zz {X : List Nat} {a n : Nat} (hX : ∀ c r, X = c :: r → ilt c = false) (h : tagL X (a + 2) 62 = .inl false) : endL ([122, 122] ++ X) a n "zz" = .inr (a + 2, "tag") := by
  have := nameL_w (w := [122, 122]) (R := X) (a := a) (by decide) (by decide) (by decide) hX
  unfold endL
  rw [this]
  simp only
  rw [if_neg (by rw [nmzz]; exact fun h => h rfl), List.drop_left]
  show (match tagL X (a + 2) 62 with | .inr e => _ | .inl true => _ | .inl false => _) = _
  rw [h]
  rfl
theorem pc25 : Bad [60, 122, 122, 62, 60, 47, 122, 122, 32, 62] 8 "tag" U := bad_zz (l := [122, 122, 32, 62]) (o := 4) fun R a n => end_zz (X := 32 :: 62 :: R) (by rintro _ _ ⟨⟩; rfl) rfl
theorem pc26 : Bad [60, 122, 122, 62, 60, 47, 122, 122, 47, 62] 8 "tag" U := bad_zz (l := [122, 122, 47, 62]) (o := 4) fun R a n => end_zz (X := 47 :: 62 :: R) (by rintro _ _ ⟨⟩; rfl) rfl
end Tp
end
section
set_option Elab.async false
set_option linter.all false
set_option maxRecDepth 100000
set_option maxHeartbeats 8000000
namespace Tp
open PySem L2 Dl Tp.Tx
def run (l : List Nat) : Nat := (l.takeWhile ilt).length
theorem run_app {a X : List Nat} : run (a ++ X) ≤ a.length + run X := by
  induction a with
  | nil => simp
  | cons c a ih =>
    unfold run at ih ⊢
    rw [List.cons_append, List.takeWhile_cons]
    split
    · rw [List.length_cons, List.length_cons]; omega
    · simp
theorem run_escC {c : Nat} {X : List Nat} : run (escC c ++ X) ≤ 1 + run X := by
  by_cases c1 : c = 60
  · subst c1
    show 0 ≤ _
    omega
  · by_cases c2 : c = 62
    · subst c2
      show 0 ≤ _
      omega
    · by_cases c3 : c = 38
      · subst c3
        show 0 ≤ _
        omega
      · rw [escC_plain c1 c2 c3]
        exact run_app (a := [c])
theorem run_esc {X : List Nat} : ∀ cs : List Nat, run (esc cs ++ X) ≤ cs.length + run X
  | [] => by show run X ≤ _; simp
  | c :: cs => by
    have h := run_escC (c := c) (X := esc cs ++ X)
    have ih := run_esc (X := X) cs
    rw [show esc (c :: cs) ++ X = escC c ++ (esc cs ++ X) by show (escC c ++ esc cs) ++ X = _; rw [List.append_assoc], List.length_cons]
    omega
def tx5 (l : List Tree) : Prop := ∀ x ∈ l, ∀ s, x = .txt s → s.length ≤ 5
theorem run_wrs {X : List Nat} {ts : List Tree} (hap : apart ts = true) (h : tx5 (Tree.pres ts)) : run (Tree.wrs true ts ++ 60 :: X) ≤ 5 := by
  cases ts with
  | nil => rw [Tree.wrs_nil]; show 0 ≤ 5; omega
  | cons t ts =>
    rw [Tree.wrs_cons, List.append_assoc]
    cases t with
    | txt s =>
      have hs : s.length ≤ 5 := h (.txt s) (by rw [Tree.pres_cons, Tree.pre_txt]; simp) s rfl
      have h1 := run_esc (X := Tree.wrs true ts ++ 60 :: X) (ch s)
      rw [ch_len] at h1
      have h2 : run (Tree.wrs true ts ++ 60 :: X) = 0 := by
        cases ts with
        | nil => rw [Tree.wrs_nil]; rfl
        | cons u us =>
          have h2 : (!((Tree.txt s).isT && u.isT) && apart (u :: us)) = true := hap
          rw [Bool.and_eq_true] at h2
          have hu : u.isT = false := by
            have := h2.1
            rw [show (Tree.txt s).isT = true from rfl] at this
            simpa using this
          obtain ⟨r, hr⟩ := Tree.wr_el_head (b := true) hu
          rw [Tree.wrs_cons, hr]
          rfl
      rw [Tree.wr_txt]
      omega
    | el w cs =>
      obtain ⟨r, hr⟩ := Tree.wr_el_head (t := .el w cs) (b := true) rfl
      rw [hr]
      show 0 ≤ 5
      omega
mutual
theorem runs_at : ∀ (t : Tree) (k : Nat) (X : List Nat), t.ok = true → tx5 t.pre → (t.wr true)[k]? = some 62 → run X ≤ 5 → run ((t.wr true).drop (k + 1) ++ X) ≤ 5
  | .txt s, k, X, hok, hn, hk, hX => by
    rw [Tree.wr_txt] at hk
    exact absurd (List.mem_of_getElem? hk) (esc_no (.inr rfl) _)
  | .el w cs, k, X, hok, hn, hk, hX => by
    rw [Tree.ok_el, Bool.and_eq_true, Bool.and_eq_true] at hok
    obtain ⟨⟨hw, hap⟩, hoks⟩ := hok
    obtain ⟨w1, w2, w3⟩ := nameOk_ch hw
    have hncs : tx5 (Tree.pres cs) := fun x hx => hn x (by rw [Tree.pre_el]; exact List.mem_cons_of_mem _ hx)
    rw [Tree.wr_el, if_neg (by simp)] at hk ⊢
    by_cases c1 : k < (ch w).length + 1
    · exfalso
      cases k with
      | zero => cases hk
      | succ k =>
        rw [List.getElem?_cons_succ, List.getElem?_append_left (by omega)] at hk
        exact name_no w1 (by decide) (List.mem_of_getElem? hk)
    · have hA : (60 :: (ch w ++ [62])).length = (ch w).length + 2 := by simp
      have eA : 60 :: (ch w ++ 62 :: (Tree.wrs true cs ++ 60 :: 47 :: (ch w ++ [62]))) = (60 :: (ch w ++ [62])) ++ (Tree.wrs true cs ++ 60 :: 47 :: (ch w ++ [62])) := by simp
      obtain ⟨j, hj⟩ : ∃ j, k + 1 = (60 :: (ch w ++ [62])).length + j := ⟨k + 1 - ((ch w).length + 2), by omega⟩
      rw [eA] at hk ⊢
      rw [hj, ← List.drop_drop, List.drop_left]
      by_cases c2 : j = 0
      · subst c2
        rw [List.drop_zero, List.append_assoc]
        exact run_wrs (X := 47 :: (ch w ++ [62]) ++ X) hap hncs
      · obtain ⟨i, rfl⟩ : ∃ i, j = i + 1 := ⟨j - 1, by omega⟩
        have hk2 : k = (60 :: (ch w ++ [62])).length + i := by omega
        rw [hk2, List.getElem?_append_right (Nat.le_add_right _ _), Nat.add_sub_cancel_left] at hk
        by_cases c3 : i < (Tree.wrs true cs).length
        · rw [List.getElem?_append_left c3] at hk
          rw [List.drop_append_of_le_length (by omega), List.append_assoc]
          exact runs_in cs i _ hoks hap hncs hk
        · rw [List.getElem?_append_right (by omega)] at hk
          obtain ⟨m, rfl⟩ : ∃ m, i = (Tree.wrs true cs).length + m := ⟨i - (Tree.wrs true cs).length, by omega⟩
          rw [Nat.add_sub_cancel_left] at hk
          have hm : m = (ch w).length + 2 := by
            have hml : m < (60 :: 47 :: (ch w ++ [62])).length := (List.getElem?_eq_some_iff.mp hk).1
            have hml : m < (ch w ++ [62]).length + 1 + 1 := hml
            rw [List.length_append] at hml
            have hml : m < (ch w).length + 1 + 1 + 1 := hml
            cases m with
            | zero => cases hk
            | succ m =>
              cases m with
              | zero => cases hk
              | succ m =>
                rw [List.getElem?_cons_succ, List.getElem?_cons_succ] at hk
                by_cases hl : m < (ch w).length
                · rw [List.getElem?_append_left hl] at hk
                  exact absurd (List.mem_of_getElem? hk) (name_no w1 (by decide))
                · omega
          subst hm
          rw [List.drop_of_length_le (by simp; omega)]
          exact hX
theorem runs_in : ∀ (ts : List Tree) (k : Nat) (X : List Nat), Tree.oks ts = true → apart ts = true → tx5 (Tree.pres ts) → (Tree.wrs true ts)[k]? = some 62 → run ((Tree.wrs true ts).drop (k + 1) ++ 60 :: X) ≤ 5
  | [], k, X, _, _, _, hk => by rw [Tree.wrs_nil] at hk; cases hk
  | t :: ts, k, X, hok, hap, hn, hk => by
    rw [Tree.oks_cons, Bool.and_eq_true] at hok
    have hap2 : apart ts = true := by
      cases ts with
      | nil => rfl
      | cons u us =>
        have : (!(t.isT && u.isT) && apart (u :: us)) = true := hap
        rw [Bool.and_eq_true] at this
        exact this.2
    have hn1 : tx5 t.pre := fun x hx => hn x (by rw [Tree.pres_cons]; exact List.mem_append_left _ hx)
    have hn2 : tx5 (Tree.pres ts) := fun x hx => hn x (by rw [Tree.pres_cons]; exact List.mem_append_right _ hx)
    rw [Tree.wrs_cons] at hk ⊢
    by_cases c1 : k < (t.wr true).length
    · rw [List.getElem?_append_left c1] at hk
      rw [List.drop_append_of_le_length (by omega), List.append_assoc]
      exact runs_at t k _ hok.1 hn1 hk (run_wrs hap2 hn2)
    · obtain ⟨i, rfl⟩ : ∃ i, k = (t.wr true).length + i := ⟨k - (t.wr true).length, by omega⟩
      rw [List.getElem?_append_right (by omega), Nat.add_sub_cancel_left] at hk
      rw [show (t.wr true).length + i + 1 = (t.wr true).length + (i + 1) by omega, ← List.drop_drop, List.drop_left]
      exact runs_in ts i X hok.2 hap2 hn2 hk
end
end Tp
end
section
set_option Elab.async false
set_option linter.all false
set_option maxRecDepth 100000
set_option maxHeartbeats 8000000
namespace Tp
open PySem L2 Dl Tp.Tx
def plcL (l : List Nat) (p : Nat) : List D := [.int ((nl (l.take p) : Nat) + 1), .int ((lc (l.take p) : Nat) + 1)]
def errL (l : List Nat) (p : Nat) (s : Str) : D := .lst (plcL l p ++ [.str s])
def nls (l : List Nat) : List Nat := (List.range l.length).filter fun k => l[k]? == some 10
def iD (l : List Nat) : List D := l.map fun n : Nat => .int (n : Nat)
theorem fm_range (h : D → Option D) (p : Nat → Bool) (g : Nat → D) : ∀ n, (∀ i < n, h (.int (0 + (i : Nat))) = if p i = true then some (g i) else none) → (rangeL 0 n).filterMap h = ((List.range n).filter p).map g
  | 0, _ => rfl
  | n + 1, hh => by
    have ih := fm_range h p g n fun i hi => hh i (by omega)
    have e : rangeL 0 (n + 1) = rangeL 0 n ++ [.int (0 + (n : Nat))] := by unfold rangeL; rw [List.range_succ, List.map_append]; rfl
    rw [e, List.filterMap_append, ih, List.range_succ, List.filter_append, List.map_append]
    congr 1
    have := hh n (by omega)
    rw [List.filterMap_cons, List.filterMap_nil]
    by_cases hp : p n = true
    · rw [if_pos hp] at this
      rw [this]; simp [hp]
    · rw [if_neg hp] at this
      rw [this]; simp [hp]
theorem nls_snoc (l : List Nat) (c : Nat) : nls (l ++ [c]) = nls l ++ if c = 10 then [l.length] else [] := by
  unfold nls
  rw [List.length_append, List.length_singleton, List.range_succ, List.filter_append]
  congr 1
  · refine List.filter_congr fun k hk => ?_
    rw [List.getElem?_append_left (List.mem_range.mp hk)]
  · by_cases h : c = 10
    · subst h
      simp
    · simp [h]
theorem snoc_ind {P : List Nat → Prop} (h0 : P []) (h1 : ∀ l c, P l → P (l ++ [c])) (l : List Nat) : P l := by
  have key : ∀ m : List Nat, P m.reverse := by
    intro m
    induction m with
    | nil => exact h0
    | cons c m ih => rw [List.reverse_cons]; exact h1 _ _ ih
  have := key l.reverse
  rwa [List.reverse_reverse] at this
theorem nls_len (l : List Nat) : (nls l).length = nl l := by
  refine snoc_ind (P := fun l => (nls l).length = nl l) rfl (fun l c ih => ?_) l
  rw [nls_snoc, List.length_append, ih]
  unfold nl
  rw [List.count_append]
  congr 1
  by_cases h : c = 10
  · subst h; rfl
  · rw [if_neg h]; simp [h]
theorem lc_snoc (l : List Nat) (c : Nat) : lc (l ++ [c]) = if c = 10 then 0 else lc l + 1 := by
  unfold lc
  rw [List.reverse_append, show [c].reverse ++ l.reverse = c :: l.reverse from rfl, List.takeWhile_cons]
  by_cases h : c = 10
  · subst h; rfl
  · rw [if_pos (by simp [h]), if_neg h]; rfl
theorem nls_last (l : List Nat) : (nls l = [] → lc l = l.length) ∧ ∀ r x, nls l = r ++ [x] → lc l + x + 1 = l.length := by
  refine snoc_ind (P := fun l => (nls l = [] → lc l = l.length) ∧ ∀ r x, nls l = r ++ [x] → lc l + x + 1 = l.length) ⟨fun _ => rfl, fun r x h => by have := congrArg List.length h; simp [nls] at this⟩ (fun l c ih => ?_) l
  rw [nls_snoc, lc_snoc, List.length_append, List.length_singleton]
  by_cases h : c = 10
  · rw [if_pos h, if_pos h]
    refine ⟨fun e => by simp at e, fun r x e => ?_⟩
    have := List.append_inj' e rfl
    have h2 := List.singleton_inj.mp this.2
    omega
  · rw [if_neg h, if_neg h, List.append_nil]
    exact ⟨fun e => by rw [ih.1 e], fun r x e => by have := ih.2 r x e; omega⟩
section
variable (C : Cs)
@[simp] abbrev Ep19 (z : Str) (p : Nat) (b : Str) (ln cl : Option W := none) : Dl.Env := E_law_place_k19 (x_text := some (.d (.str z))) (x_at := some (.d (.int (p : Nat)))) (x_before := some (.d (.str b))) (x_line := ln) (x_column := cl)
def hNl (l : List Nat) : D → Option D
  | .int i => if (l[i.toNat]? == some 10) = true then some (.int i) else none
  | _ => none
theorem at_cp {b : Str} {i : Nat} (hi : i < b.length) : ∃ c, (ch b)[i]? = some c ∧ atI b.cps.toList (i : Int) = some c := by
  have hl : i < (ch b).length := by rw [ch_len]; exact hi
  refine ⟨(ch b)[i], List.getElem?_eq_getElem hl, ?_⟩
  rw [Dl.atI_nat]
  exact List.getElem?_eq_getElem hl
theorem place_c1 (z : Str) (p : Nat) (b : Str) (hb : b.length ≤ 1000000) : fb_law_place_k19_c1 C (Ep19 z p b) = .ok (.d (.lst (iD (nls (ch b))))) (Ep19 z p b) := by
  unfold fb_law_place_k19_c1
  have hz : (b.length : Int) < 4611686018427387904 := by omega
  have hz1 : (-4611686018427387904 : Int) ≤ (b.length : Int) := by omega
  have he : (rangeL 0 b.length).filterMap (hNl (ch b)) = iD (nls (ch b)) := by
    unfold nls iD
    rw [ch_len]
    refine fm_range _ (fun k => (ch b)[k]? == some 10) _ _ fun i hi => ?_
    rw [Int.zero_add]
    show (if ((ch b)[(i : Int).toNat]? == some 10) = true then some (D.int (i : Int)) else none) = _
    rw [Int.toNat_natCast]
  rw [comp_e (n := 1000000) (items := rangeL 0 b.length) (chk := fun _ => True) (hNl (ch b)) (e1 := Ep19 z p b) (by
      have hb16 : b.length ≤ 16777216 := by omega
      simp -implicitDefEqProofs [E_law_place_k19, hz, hz1, sizeL, hb16]) (by simp [Env.open]) (by rw [rangeL_len]; exact hb) (by rw [sizeL]; omega) rfl (fun i dd acc hd ha => ⟨trivial, by
    have hs : acc.length < 16777216 := by omega
    obtain ⟨hi, rfl⟩ := rangeL_at hd
    obtain ⟨c, hc1, hc2⟩ := at_cp hi
    have hb16 : b.length ≤ 16777216 := by omega
    have hix : ixDD (.str b) (i : Int) = some (.str ⟨#[c]⟩) := by rw [ixDD_str hb16, hc2]
    have h10 : ((⟨#[c]⟩ : Str) == "\n") = decide (c = 10) := by rw [nl_str, one_one]
    have hh : hNl (ch b) (.int (i : Int)) = if c = 10 then some (.int (i : Int)) else none := by
      show (if ((ch b)[(i : Int).toNat]? == some 10) = true then some (D.int (i : Int)) else none) = _
      rw [Int.toNat_natCast, hc1]
      by_cases hc : c = 10 <;> simp [hc]
    rw [hh]
    by_cases hc : c = 10
    · rw [decide_eq_true hc] at h10
      simp -implicitDefEqProofs [E_law_place_k19, sizeL, hs, hix, h10]
      all_goals (try simp [hc])
    · rw [decide_eq_false hc] at h10
      simp -implicitDefEqProofs [E_law_place_k19, sizeL, hs, hix, h10]
      all_goals (try simp [hc])⟩) (fun _ => trivial), he]
  simp -implicitDefEqProofs [endL, E_law_place_k19]
theorem place_ok (z : Str) (p : Nat) (hp : p ≤ z.length) (hz : z.length ≤ 1000000) : F_law_place_k19 C [.d (.str z), .d (.int (p : Nat))] [] = .ok (.d (.lst (plcL (ch z) p))) [] := by
  have hz2 : z.length ≤ 16777216 := by omega
  have hb : (cutS z none (some (p : Int))).length = p := by rw [← ch_len, cut_to, List.length_take, ch_len]; omega
  have hc := cut_to z p
  have hpl : ((ch z).take p).length = p := by rw [List.length_take, ch_len]; omega
  have c1 := place_c1 C z p (cutS z none (some (p : Int))) (by omega)
  rw [hc] at c1
  unfold plcL
  generalize (ch z).take p = l at c1 hpl
  obtain ⟨a1, a2⟩ := nls_last l
  have a3 := nls_len l
  generalize hbe : cutS z none (some (p : Int)) = b at *
  have hp6 : p ≤ 1000000 := by omega
  rcases List.eq_nil_or_concat (nls l) with h0 | ⟨r, x, h0⟩
  · have b1 := a1 h0
    rw [h0] at a3 c1
    have a3 : nl l = 0 := a3.symm
    have c1 : fb_law_place_k19_c1 C (Ep19 z p b) = .ok (.d (.lst [])) (Ep19 z p b) := c1
    simp -implicitDefEqProofs [E_law_place_k19] at c1
    rw [a3, b1, hpl]
    simp -implicitDefEqProofs [F_law_place_k19, fb_law_place_k19, env0, hz2, hbe, c1, sizeL]
  · rw [List.concat_eq_append] at h0
    have b1 := a2 r x h0
    rw [h0] at a3 c1
    have hlen : (iD (r ++ [x])).length = nl l := by unfold iD; rw [List.length_map, a3]
    have hr : r.length + 1 = nl l := by rw [← a3, List.length_append]; rfl
    have hat : atI (iD (r ++ [x])) ((nl l : Int) - 1) = some (.int (x : Nat)) := by
      rw [show (nl l : Int) - 1 = ((r.length : Nat) : Int) by omega, Dl.atI_nat]
      unfold iD
      rw [List.getElem?_map, List.getElem?_append_right (Nat.le_refl _), Nat.sub_self]
      rfl
    have hnl : nl l ≤ 1000000 := by unfold nl; have := List.count_le_length (a := 10) (l := l); omega
    have hpos : (0 : Int) < (nl l : Int) := by omega
    have hpos2 : 0 < nl l := by omega
    have hcol : (p : Int) - (x : Int) = (lc l : Int) + 1 := by omega
    have hsz : (nl l : Int) < 4611686018427387904 := by omega
    have hnl16 : nl l ≤ 16777216 := by omega
    generalize iD (r ++ [x]) = L at *
    simp -implicitDefEqProofs [E_law_place_k19] at c1
    simp -implicitDefEqProofs [F_law_place_k19, fb_law_place_k19, env0, hz2, hbe, c1, sizeL, hlen, hnl16, hpos, hpos2, hat, hcol, Int.add_comm]
end
end Tp
end
section
set_option Elab.async false
set_option linter.all false
set_option maxRecDepth 100000
set_option maxHeartbeats 8000000
namespace Tp
open PySem L2 Dl Tp.Tx
section
variable (C : Cs)
theorem error_inl {z : Str} (hz : z.length ≤ 200000) {d : D} (h : readL (ch z) = .inl d) : F_law_error C [.d (.str z)] [] = .ok (.d (.lst [])) [] := by
  have hr := read_document_ok C z hz
  rw [h] at hr
  simp -implicitDefEqProofs [F_law_error, fb_law_error, env0, hr]
theorem error_inr {z : Str} (hz : z.length ≤ 200000) {p : Nat} {s : Str} (hp : p ≤ z.length) (h : readL (ch z) = .inr (p, s)) : F_law_error C [.d (.str z)] [] = .ok (.d (errL (ch z) p s)) [] := by
  have hr := read_document_ok C z hz
  rw [h] at hr
  have e1 : ¬ ("line" : Str) = "reason" := by decide +kernel
  have e2 : ¬ ("line" : Str) = "column" := by decide +kernel
  have e3 : ¬ ("column" : Str) = "reason" := by decide +kernel
  have hl := lineI_eq z p
  have hc := colI_eq hp
  unfold errL plcL
  simp -implicitDefEqProofs [F_law_error, fb_law_error, env0, hr, xt, lookup_if, e1, e2, e3, hl, hc]
end
theorem plN_errL (l : List Nat) (p : Nat) (s : Str) : plN 139 (errL l p s) := plN_lst.mpr ⟨by show 3 < 1000000000; omega, fun y hy => by
  unfold plcL at hy
  simp at hy
  rcases hy with rfl | rfl | rfl <;> trivial⟩
theorem same_errL (C : Cs) (l : List Nat) (p : Nat) (s : Str) : F_law_same_k16 C 140 [.d (errL l p s), .d (errL l p s)] [] = .ok (.d (.bl true)) [] := same16_ok C 139 _ (plN_errL l p s)
def isPl (l : List Nat) (k : Nat) : Bool := l[k]? == some 62 && !decide (47 ∈ back (l.take k))
def pls (l : List Nat) : List Nat := (List.range l.length).filter (isPl l)
def plsD (l : List Nat) : List D := (pls l).map fun k : Nat => .int ((k : Nat) + 1)
theorem back_of {m : List Nat} {i : Nat} (h : m[i]? = some 60) (hn : 60 ∉ m.drop (i + 1)) : back m = (m.drop (i + 1)).reverse := by
  have hi := (List.getElem?_eq_some_iff.mp h).1
  have hsp : m = m.take i ++ 60 :: m.drop (i + 1) := by
    conv => lhs; rw [← List.take_append_drop i m]
    rw [List.drop_eq_getElem_cons hi, (List.getElem?_eq_some_iff.mp h).2]
  generalize m.drop (i + 1) = B at *
  rw [hsp, back_app (List.mem_cons_self ..)]
  unfold back
  rw [List.reverse_cons]
  have key : ∀ (x : List Nat), 60 ∉ x → (x ++ [60]).takeWhile (fun c => c != 60) = x := by
    intro x
    induction x with
    | nil => intro _; rfl
    | cons c x ih =>
      intro hx
      have hc : c ≠ 60 := fun e => hx (by rw [e]; exact List.mem_cons_self ..)
      have hb : (c != 60) = true := by simp [hc]
      rw [List.cons_append, List.takeWhile_cons, hb, if_pos rfl, ih fun z => hx (List.mem_cons_of_mem _ z)]
  exact key _ (by simpa using hn)
theorem lt_str : ("<" : Str) = ⟨#[60]⟩ := by decide +kernel
theorem sl_str : ("/" : Str) = ⟨#[47]⟩ := by decide +kernel
theorem rf_back {z : Str} {k : Nat} (hk : k ≤ z.length) (h : 60 ∈ (ch z).take k) : ∃ i : Nat, Txt.rfind (cutS z none (some (k : Int))) "<" = (i : Int) ∧ strIn "/" (cutS z (some (i : Int)) (some (k : Int))) = decide (47 ∈ back ((ch z).take k)) := by
  have e : (cutS z none (some (k : Int))).cps.toList = (ch z).take k := cut_to z k
  have hlt : ((ch z).take k).length = k := by rw [List.length_take, ch_len]; omega
  generalize hx : cutS z none (some (k : Int)) = x at e
  rw [lt_str]
  have at_ : ∀ i, PySem.StrLaws.At x ⟨#[60]⟩ x.length i ↔ ((ch z).take k)[i]? = some 60 := fun i => by
    rw [← e]; exact PySem.StrLaws.subAt_one x 60 i
  rcases PyProof.Rows.rfind_whole x ⟨#[60]⟩ with ⟨h1, h2⟩ | ⟨i, h1, h2, h3⟩
  · obtain ⟨j, hj⟩ := List.getElem?_of_mem h
    exact absurd ((at_ j).mpr hj) (h2 j)
  · refine ⟨i, h1, ?_⟩
    have hi := (at_ i).mp h2
    have hil : i < ((ch z).take k).length := (List.getElem?_eq_some_iff.mp hi).1
    have hn : 60 ∉ ((ch z).take k).drop (i + 1) := fun hm => by
      obtain ⟨j, hj⟩ := List.getElem?_of_mem hm
      rw [List.getElem?_drop] at hj
      exact h3 (i + 1 + j) (by omega) ((at_ _).mpr hj)
    rw [back_of hi hn, sl_str, strIn_char]
    have e2 : ch (cutS z (some (i : Int)) (some (k : Int))) = ((ch z).take k).drop i := by
      rw [cutS_nat, ch_mk, List.drop_take]
    rw [e2, List.drop_eq_getElem_cons hil, (List.getElem?_eq_some_iff.mp hi).2]
    congr 1
    rw [List.mem_cons, List.mem_reverse]
    simp
def hPl (l : List Nat) : D → Option D
  | .int i => if isPl l i.toNat = true then some (.int (i + 1)) else none
  | _ => none
@[simp] abbrev E19 (s : D) (z : Str) (ds : Option Cell) (td : D) (pl : Option W := none) : Dl.Env := E_law_k19 (x_script := some (.d s)) (x_draws_here := some (.loc 0)) (x_tree_here := some (.d td)) (x_text := some (.d (.str z))) (x_places := pl) (c0 := ds)
theorem k19_c1 (C : Cs) (s td : D) (z : Str) (ds : List Int) (hz : z.length ≤ 100000) {r : List Nat} (hh : ch z = 60 :: r) : fb_law_k19_c1 C (E19 s z (some (dk ds)) td) = .ok (.d (.lst (plsD (ch z)))) (E19 s z (some (dk ds)) td) := by
  unfold fb_law_k19_c1
  have hz0 : (z.length : Int) < 4611686018427387904 := by omega
  have hz1 : (-4611686018427387904 : Int) ≤ (z.length : Int) := by omega
  have hz16 : z.length ≤ 16777216 := by omega
  have he : (rangeL 0 z.length).filterMap (hPl (ch z)) = plsD (ch z) := by
    unfold plsD pls
    rw [ch_len]
    refine fm_range _ (isPl (ch z)) _ _ fun i hi => ?_
    rw [Int.zero_add]
    show (if isPl (ch z) (i : Int).toNat = true then some (D.int ((i : Int) + 1)) else none) = _
    rw [Int.toNat_natCast]
  rw [comp_e (n := 100000) (items := rangeL 0 z.length) (chk := fun _ => True) (hPl (ch z)) (e1 := E19 s z (some (dk ds)) td) (by
      simp -implicitDefEqProofs [E_law_k19, hz0, hz1, sizeL, hz16]) (by simp [Env.open]) (by rw [rangeL_len]; exact hz) (by rw [sizeL]; omega) rfl (fun i dd acc hd ha => ⟨trivial, by
    have hs : acc.length < 16777216 := by omega
    obtain ⟨hi, rfl⟩ := rangeL_at hd
    obtain ⟨c, hc1, hc2⟩ := at_cp hi
    have hix : ixDD (.str z) (i : Int) = some (.str ⟨#[c]⟩) := by rw [ixDD_str hz16, hc2]
    have h62 : ((⟨#[c]⟩ : Str) == ">") = decide (c = 62) := by rw [show (">" : Str) = ⟨#[62]⟩ by decide +kernel, one_one]
    have hhd : hPl (ch z) (.int (i : Int)) = if c = 62 ∧ 47 ∉ back ((ch z).take i) then some (.int ((i : Int) + 1)) else none := by
      show (if isPl (ch z) (i : Int).toNat = true then some (D.int ((i : Int) + 1)) else none) = _
      rw [Int.toNat_natCast]
      unfold isPl
      rw [hc1]
      by_cases hc : c = 62 <;> by_cases hb : 47 ∈ back ((ch z).take i) <;> simp [hc, hb]
    rw [hhd]
    by_cases hc : c = 62
    · rw [decide_eq_true hc] at h62
      have hm : 60 ∈ (ch z).take i := by
        rw [hh]
        cases i with
        | zero => rw [hh] at hc1; cases hc1; cases hc
        | succ i => exact List.mem_cons_self ..
      obtain ⟨j, hj1, hj2⟩ := rf_back (z := z) (k := i) (by omega) hm
      have hno : notInB (.str "/") (.str (cutS z (some (j : Int)) (some (i : Int)))) = some (!decide (47 ∈ back ((ch z).take i))) := by
        show some (!(strIn "/" (cutS z (some (j : Int)) (some (i : Int))))) = _
        rw [hj2]
      by_cases hb : 47 ∈ back ((ch z).take i)
      · rw [decide_eq_true hb] at hno
        simp -implicitDefEqProofs [E_law_k19, sizeL, hs, hix, h62, hz16, hj1, hno]
        all_goals (try simp [hc, hb])
      · rw [decide_eq_false hb] at hno
        simp -implicitDefEqProofs [E_law_k19, sizeL, hs, hix, h62, hz16, hj1, hno]
        all_goals (try simp [hc, hb])
    · rw [decide_eq_false hc] at h62
      simp -implicitDefEqProofs [E_law_k19, sizeL, hs, hix, h62]
      all_goals (try simp [hc])⟩) (fun _ => trivial), he]
  simp -implicitDefEqProofs [endL, E_law_k19]
end Tp
end
section
set_option Elab.async false
set_option linter.all false
set_option maxRecDepth 100000
set_option maxHeartbeats 8000000
namespace Tp
open PySem L2 Dl Tp.Tx
structure Pc where
  s : Str
  o : Nat
  r : Str
def Pc.d (q : Pc) : D := .lst [.str q.s, .int (q.o : Nat), .str q.r]
def isSp (s : Str) : Bool := decide (s = "&lt") || decide (s = "x\n&amp")
/-- what is known of a piece -/
structure PcOk (q : Pc) : Prop where
  bad : ∃ Cn, Bad (ch q.s) q.o q.r Cn ∧ ∀ R, (isSp q.s = true → Sp R) → run R ≤ 10 → Cn R
  inn : inB (.str q.s) (.lst [.str "&lt", .str "x\n&amp"]) = some (isSp q.s)
  len : q.s.length ≤ 20
  ofs : q.o ≤ q.s.length
def pcs : List Pc := [
  ⟨">", 0, "sign"⟩,
  ⟨"& ", 0, "sign"⟩,
  ⟨"&x;", 0, "sign"⟩,
  ⟨"&lt", 0, "sign"⟩,
  ⟨"x>", 1, "sign"⟩,
  ⟨"x\n&amp", 2, "sign"⟩,
  ⟨"\t", 0, "character"⟩,
  ⟨"x\ny\t", 3, "character"⟩,
  ⟨"<\t", 1, "character"⟩,
  ⟨"<a\t", 2, "character"⟩,
  ⟨"< a>", 1, "name"⟩,
  ⟨"<1>", 1, "name"⟩,
  ⟨"<>", 1, "name"⟩,
  ⟨"<A/>", 1, "name"⟩,
  ⟨"<abcdefghijklm/>", 1, "name"⟩,
  ⟨"</>", 2, "name"⟩,
  ⟨"</ a>", 2, "name"⟩,
  ⟨"<a b>", 2, "tag"⟩,
  ⟨"<a1>", 2, "tag"⟩,
  ⟨"<a/ >", 3, "tag"⟩,
  ⟨"<a<", 2, "tag"⟩,
  ⟨"<a//>", 3, "tag"⟩,
  ⟨"</zz>", 2, "end"⟩,
  ⟨"</zz", 2, "end"⟩,
  ⟨"<zz></a>", 6, "end"⟩,
  ⟨"<zz></zz >", 8, "tag"⟩,
  ⟨"<zz></zz/>", 8, "tag"⟩,
  ⟨"</zzzzzzzzzzzzz>", 2, "name"⟩]
theorem pco0 : PcOk ⟨">", 0, "sign"⟩ := ⟨⟨_, by have h := pc0; rw [show ([62] : List Nat) = ch ">" by decide +kernel] at h; exact h, fun _ _ _ => trivial⟩, by decide +kernel, by decide +kernel, by decide +kernel⟩
theorem pco1 : PcOk ⟨"& ", 0, "sign"⟩ := ⟨⟨_, by have h := pc1; rw [show ([38, 32] : List Nat) = ch "& " by decide +kernel] at h; exact h, fun _ _ _ => trivial⟩, by decide +kernel, by decide +kernel, by decide +kernel⟩
theorem pco2 : PcOk ⟨"&x;", 0, "sign"⟩ := ⟨⟨_, by have h := pc2; rw [show ([38, 120, 59] : List Nat) = ch "&x;" by decide +kernel] at h; exact h, fun _ _ _ => trivial⟩, by decide +kernel, by decide +kernel, by decide +kernel⟩
theorem pco3 : PcOk ⟨"&lt", 0, "sign"⟩ := ⟨⟨_, by have h := pc3; rw [show ([38, 108, 116] : List Nat) = ch "&lt" by decide +kernel] at h; exact h, fun R h _ => h (by decide +kernel)⟩, by decide +kernel, by decide +kernel, by decide +kernel⟩
theorem pco4 : PcOk ⟨"x>", 1, "sign"⟩ := ⟨⟨_, by have h := pc4; rw [show ([120, 62] : List Nat) = ch "x>" by decide +kernel] at h; exact h, fun _ _ _ => trivial⟩, by decide +kernel, by decide +kernel, by decide +kernel⟩
theorem pco5 : PcOk ⟨"x\n&amp", 2, "sign"⟩ := ⟨⟨_, by have h := pc5; rw [show ([120, 10, 38, 97, 109, 112] : List Nat) = ch "x\n&amp" by decide +kernel] at h; exact h, fun R h _ => h (by decide +kernel)⟩, by decide +kernel, by decide +kernel, by decide +kernel⟩
theorem pco6 : PcOk ⟨"\t", 0, "character"⟩ := ⟨⟨_, by have h := pc6; rw [show ([9] : List Nat) = ch "\t" by decide +kernel] at h; exact h, fun _ _ _ => trivial⟩, by decide +kernel, by decide +kernel, by decide +kernel⟩
theorem pco7 : PcOk ⟨"x\ny\t", 3, "character"⟩ := ⟨⟨_, by have h := pc7; rw [show ([120, 10, 121, 9] : List Nat) = ch "x\ny\t" by decide +kernel] at h; exact h, fun _ _ _ => trivial⟩, by decide +kernel, by decide +kernel, by decide +kernel⟩
theorem pco8 : PcOk ⟨"<\t", 1, "character"⟩ := ⟨⟨_, by have h := pc8; rw [show ([60, 9] : List Nat) = ch "<\t" by decide +kernel] at h; exact h, fun _ _ _ => trivial⟩, by decide +kernel, by decide +kernel, by decide +kernel⟩
theorem pco9 : PcOk ⟨"<a\t", 2, "character"⟩ := ⟨⟨_, by have h := pc9; rw [show ([60, 97, 9] : List Nat) = ch "<a\t" by decide +kernel] at h; exact h, fun _ _ _ => trivial⟩, by decide +kernel, by decide +kernel, by decide +kernel⟩
theorem pco10 : PcOk ⟨"< a>", 1, "name"⟩ := ⟨⟨_, by have h := pc10; rw [show ([60, 32, 97, 62] : List Nat) = ch "< a>" by decide +kernel] at h; exact h, fun _ _ _ => trivial⟩, by decide +kernel, by decide +kernel, by decide +kernel⟩
theorem pco11 : PcOk ⟨"<1>", 1, "name"⟩ := ⟨⟨_, by have h := pc11; rw [show ([60, 49, 62] : List Nat) = ch "<1>" by decide +kernel] at h; exact h, fun _ _ _ => trivial⟩, by decide +kernel, by decide +kernel, by decide +kernel⟩
theorem pco12 : PcOk ⟨"<>", 1, "name"⟩ := ⟨⟨_, by have h := pc12; rw [show ([60, 62] : List Nat) = ch "<>" by decide +kernel] at h; exact h, fun _ _ _ => trivial⟩, by decide +kernel, by decide +kernel, by decide +kernel⟩
theorem pco13 : PcOk ⟨"<A/>", 1, "name"⟩ := ⟨⟨_, by have h := pc13; rw [show ([60, 65, 47, 62] : List Nat) = ch "<A/>" by decide +kernel] at h; exact h, fun _ _ _ => trivial⟩, by decide +kernel, by decide +kernel, by decide +kernel⟩
theorem pco14 : PcOk ⟨"<abcdefghijklm/>", 1, "name"⟩ := ⟨⟨_, by have h := pc14; rw [show ([60, 97, 98, 99, 100, 101, 102, 103, 104, 105, 106, 107, 108, 109, 47, 62] : List Nat) = ch "<abcdefghijklm/>" by decide +kernel] at h; exact h, fun _ _ _ => trivial⟩, by decide +kernel, by decide +kernel, by decide +kernel⟩
theorem pco15 : PcOk ⟨"</>", 2, "name"⟩ := ⟨⟨_, by have h := pc15; rw [show ([60, 47, 62] : List Nat) = ch "</>" by decide +kernel] at h; exact h, fun _ _ _ => trivial⟩, by decide +kernel, by decide +kernel, by decide +kernel⟩
theorem pco16 : PcOk ⟨"</ a>", 2, "name"⟩ := ⟨⟨_, by have h := pc16; rw [show ([60, 47, 32, 97, 62] : List Nat) = ch "</ a>" by decide +kernel] at h; exact h, fun _ _ _ => trivial⟩, by decide +kernel, by decide +kernel, by decide +kernel⟩
theorem pco17 : PcOk ⟨"<a b>", 2, "tag"⟩ := ⟨⟨_, by have h := pc17; rw [show ([60, 97, 32, 98, 62] : List Nat) = ch "<a b>" by decide +kernel] at h; exact h, fun _ _ _ => trivial⟩, by decide +kernel, by decide +kernel, by decide +kernel⟩
theorem pco18 : PcOk ⟨"<a1>", 2, "tag"⟩ := ⟨⟨_, by have h := pc18; rw [show ([60, 97, 49, 62] : List Nat) = ch "<a1>" by decide +kernel] at h; exact h, fun _ _ _ => trivial⟩, by decide +kernel, by decide +kernel, by decide +kernel⟩
theorem pco19 : PcOk ⟨"<a/ >", 3, "tag"⟩ := ⟨⟨_, by have h := pc19; rw [show ([60, 97, 47, 32, 62] : List Nat) = ch "<a/ >" by decide +kernel] at h; exact h, fun _ _ _ => trivial⟩, by decide +kernel, by decide +kernel, by decide +kernel⟩
theorem pco20 : PcOk ⟨"<a<", 2, "tag"⟩ := ⟨⟨_, by have h := pc20; rw [show ([60, 97, 60] : List Nat) = ch "<a<" by decide +kernel] at h; exact h, fun _ _ _ => trivial⟩, by decide +kernel, by decide +kernel, by decide +kernel⟩
theorem pco21 : PcOk ⟨"<a//>", 3, "tag"⟩ := ⟨⟨_, by have h := pc21; rw [show ([60, 97, 47, 47, 62] : List Nat) = ch "<a//>" by decide +kernel] at h; exact h, fun _ _ _ => trivial⟩, by decide +kernel, by decide +kernel, by decide +kernel⟩
theorem pco22 : PcOk ⟨"</zz>", 2, "end"⟩ := ⟨⟨_, by have h := pc22; rw [show ([60, 47, 122, 122, 62] : List Nat) = ch "</zz>" by decide +kernel] at h; exact h, fun _ _ _ => trivial⟩, by decide +kernel, by decide +kernel, by decide +kernel⟩
theorem pco23 : PcOk ⟨"</zz", 2, "end"⟩ := ⟨⟨_, by have h := pc23; rw [show ([60, 47, 122, 122] : List Nat) = ch "</zz" by decide +kernel] at h; exact h, fun R _ h => h⟩, by decide +kernel, by decide +kernel, by decide +kernel⟩
theorem pco24 : PcOk ⟨"<zz></a>", 6, "end"⟩ := ⟨⟨_, by have h := pc24; rw [show ([60, 122, 122, 62, 60, 47, 97, 62] : List Nat) = ch "<zz></a>" by decide +kernel] at h; exact h, fun _ _ _ => trivial⟩, by decide +kernel, by decide +kernel, by decide +kernel⟩
theorem pco25 : PcOk ⟨"<zz></zz >", 8, "tag"⟩ := ⟨⟨_, by have h := pc25; rw [show ([60, 122, 122, 62, 60, 47, 122, 122, 32, 62] : List Nat) = ch "<zz></zz >" by decide +kernel] at h; exact h, fun _ _ _ => trivial⟩, by decide +kernel, by decide +kernel, by decide +kernel⟩
theorem pco26 : PcOk ⟨"<zz></zz/>", 8, "tag"⟩ := ⟨⟨_, by have h := pc26; rw [show ([60, 122, 122, 62, 60, 47, 122, 122, 47, 62] : List Nat) = ch "<zz></zz/>" by decide +kernel] at h; exact h, fun _ _ _ => trivial⟩, by decide +kernel, by decide +kernel, by decide +kernel⟩
theorem pco27 : PcOk ⟨"</zzzzzzzzzzzzz>", 2, "name"⟩ := ⟨⟨_, by have h := pc27; rw [show ([60, 47, 122, 122, 122, 122, 122, 122, 122, 122, 122, 122, 122, 122, 122, 62] : List Nat) = ch "</zzzzzzzzzzzzz>" by decide +kernel] at h; exact h, fun _ _ _ => trivial⟩, by decide +kernel, by decide +kernel, by decide +kernel⟩
theorem pcs_ok : ∀ q ∈ pcs, PcOk q := by
  intro q hq
  unfold pcs at hq
  simp only [List.mem_cons, List.not_mem_nil, or_false] at hq
  rcases hq with rfl | rfl | rfl | rfl | rfl | rfl | rfl | rfl | rfl | rfl | rfl | rfl | rfl | rfl | rfl | rfl | rfl | rfl | rfl | rfl | rfl | rfl | rfl | rfl | rfl | rfl | rfl | rfl
  · exact pco0
  · exact pco1
  · exact pco2
  · exact pco3
  · exact pco4
  · exact pco5
  · exact pco6
  · exact pco7
  · exact pco8
  · exact pco9
  · exact pco10
  · exact pco11
  · exact pco12
  · exact pco13
  · exact pco14
  · exact pco15
  · exact pco16
  · exact pco17
  · exact pco18
  · exact pco19
  · exact pco20
  · exact pco21
  · exact pco22
  · exact pco23
  · exact pco24
  · exact pco25
  · exact pco26
  · exact pco27
theorem pieces_ok (C : Cs) : F_law_pieces C [] [] = .ok (.d (.lst (pcs.map Pc.d))) [] := by
  simp -implicitDefEqProofs [F_law_pieces, fb_law_pieces, env0, sizeL, pcs, Pc.d]
end Tp
end
section
set_option Elab.async false
set_option linter.all false
set_option maxRecDepth 100000
set_option maxHeartbeats 8000000
namespace Tp
open PySem L2 Dl
@[simp] abbrev E_law_k18 (x_script x_draws_here x_tree_here x_text x_string_here : Option W := none) (c0 : Option Cell := none) (np : Nat := 0) : Dl.Env := ⟨[x_script, x_draws_here, x_tree_here, x_text, x_string_here], [c0], np⟩
end Tp
end
section
set_option Elab.async false
set_option linter.all false
set_option maxRecDepth 100000
set_option maxHeartbeats 8000000
namespace Tp
open PySem L2 Dl Tp.Tx
end Tp
end
section
set_option Elab.async false
set_option linter.all false
set_option maxRecDepth 100000
set_option maxHeartbeats 8000000
namespace Tp
open PySem L2 Dl Tp.Tx
theorem error_any (C : Cs) {z : Str} (hz : z.length ≤ 200000) {p : Nat} {s : Str} (h : readL (ch z) = .inr (p, s)) : F_law_error C [.d (.str z)] [] = .ok (.d (.lst [.int (lineI z p), .int (colI z p), .str s])) [] := by
  have hr := read_document_ok C z hz
  rw [h] at hr
  have e1 : ¬ ("line" : Str) = "reason" := by decide +kernel
  have e2 : ¬ ("line" : Str) = "column" := by decide +kernel
  have e3 : ¬ ("column" : Str) = "reason" := by decide +kernel
  simp -implicitDefEqProofs [F_law_error, fb_law_error, env0, hr, xt, lookup_if, e1, e2, e3]
theorem add_pl (l : List Nat) (p : Nat) (s : Str) : addD (.lst (plcL l p)) (.lst [.str s]) = some (errL l p s) := by
  have : (plcL l p).length = 2 := rfl
  unfold errL
  generalize plcL l p = L at this
  simp [sizeL, this]
theorem errL_0 (l : List Nat) (s : Str) : errL l 0 s = .lst [.int 1, .int 1, .str s] := rfl
theorem lenL (l : List Nat) (p : Nat) (s : Str) : ∃ a b : Int, errL l p s = .lst [.int a, .int b, .str s] := ⟨_, _, rfl⟩
theorem str_ok2 (s : Str) (h : s = "open" ∨ s = "sign" ∨ s = "end") : PyData.strOk s = true := by
  rcases h with rfl | rfl | rfl <;> decide +kernel
/-- a text of the law -/
structure Tx19 (z : Str) (l : List Nat) : Prop where
  is : ch z = l
  len : z.length ≤ 6000
  pos : 0 < z.length
  cut : ∀ m, m < z.length → ∃ p s, readL (l.take m) = .inr (p, s) ∧ (p = m ∧ s = "open" ∨ s = "sign" ∨ s = "end")
  more : ∀ c X, readL (l ++ c :: X) = .inr (l.length, if chOk c = true then "more" else "character")
theorem k19_t1 (C : Cs) {z : Str} {l : List Nat} (T : Tx19 z l) (ds : List Int) (a0 a2 a4 a6 a7 a8 a9 a10 : D) : mfK (fb_law_k19_t1 C (E_law_k19 (some (.d a0)) (some (.loc 0)) (some (.d a2)) (some (.d (.str z))) (some (.d a4)) none (some (.d a6)) (some (.d a7)) (some (.d a8)) (some (.d a9)) (some (.d a10)) none none none (some (dk ds)) none)) 0 0 = .ok (.d (.bl true)) [] := by
  have hl := T.len
  have hp := T.pos
  have hz16 : z.length ≤ 16777216 := by omega
  have t2 := take_ok C ds (n := (z.length : Int)) (by omega)
  obtain ⟨m, hm, hv⟩ := tv_nat ds (n := z.length) hp
  rw [hv] at t2
  obtain ⟨p, s, h1, h2⟩ := T.cut m hm
  have hct := cut_to z m
  rw [T.is] at hct
  have hbl : (cutS z none (some (m : Int))).length = m := by rw [← ch_len, cut_to, List.length_take, ch_len]; omega
  have pl := place_ok C z m (by omega) (by omega)
  have ad := add_pl (ch z) m "open"
  have s3 : PyData.strOk s = true := str_ok2 s (by rcases h2 with ⟨-, h⟩ | h | h <;> simp [h])
  have o3 : PyData.strOk "open" = true := by decide +kernel
  generalize hbe : cutS z none (some (m : Int)) = b at *
  have er := error_any C (z := b) (by omega) (by rw [hct]; exact h1)
  obtain ⟨x, y, hx⟩ := lenL (ch z) m "open"
  have hcase : (s = "open" ∧ lineI b p = x ∧ colI b p = y) ∨ (¬ s = "open" ∧ (s = "sign" ∨ s = "end")) := by
    rcases h2 with ⟨rfl, rfl⟩ | rfl | rfl
    · left
      refine ⟨rfl, ?_⟩
      have e1 := lineI_eq b p
      have e2 := colI_eq (z := b) (p := p) (by omega)
      rw [hct] at e1 e2
      unfold errL plcL at hx
      simp at hx
      rw [List.take_take, Nat.min_self] at e1 e2
      rw [e1, e2, ← T.is]
      exact hx
    · exact .inr ⟨by decide +kernel, .inl rfl⟩
    · exact .inr ⟨by decide +kernel, .inr rfl⟩
  rw [hx] at ad
  generalize plcL (ch z) m = PL at *
  generalize lineI b p = x' at *
  generalize colI b p = y' at *
  rcases hcase with ⟨rfl, rfl, rfl⟩ | ⟨hno, hs⟩
  · simp -implicitDefEqProofs [fb_law_k19_t1, E_law_k19, t2, pl, ad, er, hbe, hz16, sizeL, o3]
  · have i1 : inB (.str "sign") (.lst [.str "sign", .str "end"]) = some true := by decide +kernel
    have i2 : inB (.str "end") (.lst [.str "sign", .str "end"]) = some true := by decide +kernel
    rcases hs with rfl | rfl
    · simp -implicitDefEqProofs [fb_law_k19_t1, E_law_k19, t2, pl, ad, er, hbe, hz16, sizeL, o3, s3, hno, i1]
    · simp -implicitDefEqProofs [fb_law_k19_t1, E_law_k19, t2, pl, ad, er, hbe, hz16, sizeL, o3, s3, hno, i2]
def oth : List Str := ["x", " <a/>", "&lt;a/>", "/a>", "\n<a/>"]
theorem oth_bad : ∀ x ∈ oth, ∃ c r, ch x = c :: r ∧ c ≠ 60 ∧ chOk c = true ∧ x.length ≤ 10 := by
  intro x hx
  have key : ∀ x ∈ oth, (match ch x with | c :: _ => decide (c ≠ 60) && chOk c | [] => false) && decide (x.length ≤ 10) := by decide +kernel
  have := key x hx
  cases q : ch x with
  | nil => rw [q] at this; simp at this
  | cons c r =>
    rw [q] at this
    simp at this
    exact ⟨c, r, rfl, this.1.1, this.1.2, this.2⟩
theorem not_el {l : List Nat} {c : Nat} {r : List Nat} (h : l = c :: r) (h1 : c ≠ 60) (h2 : chOk c = true) : readL l = .inr (0, "element") := by
  subst h
  unfold readL
  rw [tagL_is h2, decide_eq_false h1]
theorem k19_l1 (C : Cs) (a0 a1 a2 a3 a4 a6 a7 a8 a9 a10 : Option W) (c0 : Option Cell) : fb_law_k19_l1 C (E_law_k19 a0 a1 a2 a3 a4 none a6 a7 a8 a9 a10 none none none c0 none) = .nx (E_law_k19 a0 a1 a2 a3 a4 none a6 a7 a8 a9 a10 none none none c0 none) := by
  unfold fb_law_k19_l1
  refine for_e (items := oth.map D.str) (chk := fun _ => True) (fun _ => E_law_k19 a0 a1 a2 a3 a4 none a6 a7 a8 a9 a10 none none none c0 none) (by simp -implicitDefEqProofs [E_law_k19, oth, sizeL]) (fun i d hd => ⟨trivial, ?_⟩) trivial
  obtain ⟨hi, rfl⟩ := map_at hd
  obtain ⟨c, r, h1, h2, h3, h4⟩ := oth_bad _ (List.getElem_mem hi)
  have er := error_inr C (z := oth[i]) (p := 0) (s := "element") (by omega) (by omega) (not_el h1 h2 h3)
  have sm := same_errL C (ch oth[i]) 0 "element"
  rw [errL_0] at er sm
  generalize oth[i] = x at *
  simp -implicitDefEqProofs [E_law_k19, fb_law_k19_l1b, er, sm, sizeL]
theorem k19_t2 (C : Cs) {z : Str} {l : List Nat} (T : Tx19 z l) (ds : List Int) (a0 a2 a4 a6 a7 a8 a9 a10 : D) : mfK (fb_law_k19_t2 C (E_law_k19 (some (.d a0)) (some (.loc 0)) (some (.d a2)) (some (.d (.str z))) (some (.d a4)) none (some (.d a6)) (some (.d a7)) (some (.d a8)) (some (.d a9)) (some (.d a10)) none none none (some (dk ds)) none)) 0 0 = .ok (.d (.bl true)) [] := by
  have lp := k19_l1 C (some (.d a0)) (some (.loc 0)) (some (.d a2)) (some (.d (.str z))) (some (.d a4)) (some (.d a6)) (some (.d a7)) (some (.d a8)) (some (.d a9)) (some (.d a10)) (some (dk ds))
  have tl := k19_t1 C T ds a0 a2 a4 a6 a7 a8 a9 a10
  have c0 : ch "" = [] := by decide +kernel
  have c1 : ch "<" = [60] := by decide +kernel
  have c2 : ch "</a>" = [60, 47, 97, 62] := by decide +kernel
  have l0 : ("" : Str).length = 0 := by decide +kernel
  have l1 : ("<" : Str).length = 1 := by decide +kernel
  have l2 : ("</a>" : Str).length = 4 := by decide +kernel
  have e0 := error_inr C (z := "") (p := 0) (s := "open") (by omega) (by omega) (by rw [c0]; rfl)
  have e1 := error_inr C (z := "<") (p := 1) (s := "open") (by omega) (by omega) (by rw [c1]; rfl)
  have e2 := error_inr C (z := "</a>") (p := 1) (s := "name") (by omega) (by omega) (by rw [c2]; rfl)
  have f0 : errL (ch "") 0 "open" = .lst [.int 1, .int 1, .str "open"] := by rw [c0]; rfl
  have f1 : errL (ch "<") 1 "open" = .lst [.int 1, .int 2, .str "open"] := by rw [c1]; rfl
  have f2 : errL (ch "</a>") 1 "name" = .lst [.int 1, .int 2, .str "name"] := by rw [c2]; rfl
  rw [f0] at e0
  rw [f1] at e1
  rw [f2] at e2
  have sm : F_law_same_k16 C 140 [.d (.lst [.lst [.int 1, .int 1, .str "open"], .lst [.int 1, .int 2, .str "open"], .lst [.int 1, .int 2, .str "name"]]), .d (.lst [.lst [.int 1, .int 1, .str "open"], .lst [.int 1, .int 2, .str "open"], .lst [.int 1, .int 2, .str "name"]])] [] = .ok (.d (.bl true)) [] := same16_ok C 139 _ (plN_lst.mpr ⟨by show 3 < 1000000000; omega, fun y hy => by
    simp at hy
    rcases hy with rfl | rfl | rfl <;> exact plN_lst.mpr ⟨by show 3 < 1000000000; omega, fun y hy => by
      simp at hy
      rcases hy with rfl | rfl | rfl <;> trivial⟩⟩)
  simp -implicitDefEqProofs [E_law_k19] at lp tl
  simp -implicitDefEqProofs [fb_law_k19_t2, E_law_k19, lp, tl, e0, e1, e2, sm, sizeL]
theorem errL_app (l X : List Nat) (s : Str) : errL (l ++ X) l.length s = errL l l.length s := by
  unfold errL plcL
  rw [List.take_left, List.take_length]
/-- the answer and what is due behind the document's end -/
theorem behind (C : Cs) {z : Str} {l : List Nat} (T : Tx19 z l) (x : Str) {c : Nat} {X : List Nat} (hx : ch x = c :: X) (h10 : x.length ≤ 10) (s : Str) (hs : s = if chOk c = true then ("more" : Str) else ("character" : Str)) :
    addD (.str z) (.str x) = some (.str (z ++ x)) ∧ F_law_error C [.d (.str (z ++ x))] [] = .ok (.d (errL (ch z) z.length s)) [] ∧ F_law_place_k19 C [.d (.str (z ++ x)), .d (.int (z.length : Nat))] [] = .ok (.d (.lst (plcL (ch z) z.length))) [] := by
  have hl := T.len
  have hr := T.more c X
  rw [← T.is, ← hx, ← ch_app, ← hs, ch_len] at hr
  have hlen : (z ++ x).length = z.length + x.length := len_app z x
  refine ⟨addS (by omega), ?_, ?_⟩
  · rw [error_inr C (by omega) (by omega) hr, ch_app]
    have := errL_app (ch z) (ch x) s
    rw [ch_len] at this
    rw [this]
  · rw [place_ok C (z ++ x) z.length (by omega) (by omega), ch_app]
    unfold plcL
    rw [← ch_len z, List.take_left, List.take_length]
theorem k19_t3 (C : Cs) {z : Str} {l : List Nat} (T : Tx19 z l) (ds : List Int) (a0 a2 a4 a6 a7 a8 a9 a10 : D) : mfK (fb_law_k19_t3 C (E_law_k19 (some (.d a0)) (some (.loc 0)) (some (.d a2)) (some (.d (.str z))) (some (.d a4)) none (some (.d a6)) (some (.d a7)) (some (.d a8)) (some (.d a9)) (some (.d a10)) none none none (some (dk ds)) none)) 0 0 = .ok (.d (.bl true)) [] := by
  have tl := k19_t2 C T ds a0 a2 a4 a6 a7 a8 a9 a10
  have hl := T.len
  have hz16 : z.length ≤ 16777216 := by omega
  obtain ⟨h1, h2, -⟩ := behind C T "\t" (c := 9) (X := []) (by decide +kernel) (by decide +kernel) "character" rfl
  have pl := place_ok C z z.length (by omega) (by omega)
  have ad := add_pl (ch z) z.length "character"
  have sm := same_errL C (ch z) z.length "character"
  generalize errL (ch z) z.length "character" = EL at *
  generalize plcL (ch z) z.length = PL at *
  simp -implicitDefEqProofs [E_law_k19] at tl
  simp -implicitDefEqProofs [fb_law_k19_t3, E_law_k19, tl, h1, h2, pl, ad, sm, sizeL, hz16]
theorem k19_t4 (C : Cs) {z : Str} {l : List Nat} (T : Tx19 z l) (ds : List Int) (a0 a2 a4 a6 a7 a8 a9 : D) : mfK (fb_law_k19_t4 C (E_law_k19 (some (.d a0)) (some (.loc 0)) (some (.d a2)) (some (.d (.str z))) (some (.d a4)) none (some (.d a6)) (some (.d a7)) (some (.d a8)) (some (.d a9)) none none none none (some (dk ds)) none)) 0 0 = .ok (.d (.bl true)) [] := by
  have tl := fun a10 => k19_t3 C T (tn ds) a0 a2 a4 a6 a7 a8 a9 a10
  have hl := T.len
  have hz16 : z.length ≤ 16777216 := by omega
  have t2 := take_ok C ds (n := 5) (by omega)
  obtain ⟨j, hj, hv⟩ := tv_nat ds (n := 5) (by omega)
  have hv : tv ds 5 = (j : Int) := hv
  rw [hv] at t2
  have ad := add_pl (ch z) z.length "more"
  have sm := same_errL C (ch z) z.length "more"
  simp -implicitDefEqProofs [E_law_k19] at tl
  generalize hEL : errL (ch z) z.length "more" = EL at *
  generalize hPL : plcL (ch z) z.length = PL at *
  rcases (show j = 0 ∨ j = 1 ∨ j = 2 ∨ j = 3 ∨ j = 4 by omega) with rfl | rfl | rfl | rfl | rfl
  · obtain ⟨h1, h2, h3⟩ := behind C T "x" (c := 120) (X := []) (by decide +kernel) (by decide +kernel) "more" rfl
    rw [hEL] at h2
    rw [hPL] at h3
    generalize z ++ "x" = y at *
    simp -implicitDefEqProofs [fb_law_k19_t4, E_law_k19, t2, tl, h1, h2, h3, ad, sm, sizeL, hz16]
  · obtain ⟨h1, h2, h3⟩ := behind C T " " (c := 32) (X := []) (by decide +kernel) (by decide +kernel) "more" rfl
    rw [hEL] at h2
    rw [hPL] at h3
    generalize z ++ " " = y at *
    simp -implicitDefEqProofs [fb_law_k19_t4, E_law_k19, t2, tl, h1, h2, h3, ad, sm, sizeL, hz16]
  · obtain ⟨h1, h2, h3⟩ := behind C T "<a/>" (c := 60) (X := [97, 47, 62]) (by decide +kernel) (by decide +kernel) "more" rfl
    rw [hEL] at h2
    rw [hPL] at h3
    generalize z ++ "<a/>" = y at *
    simp -implicitDefEqProofs [fb_law_k19_t4, E_law_k19, t2, tl, h1, h2, h3, ad, sm, sizeL, hz16]
  · obtain ⟨h1, h2, h3⟩ := behind C T "\n" (c := 10) (X := []) (by decide +kernel) (by decide +kernel) "more" rfl
    rw [hEL] at h2
    rw [hPL] at h3
    generalize z ++ "\n" = y at *
    simp -implicitDefEqProofs [fb_law_k19_t4, E_law_k19, t2, tl, h1, h2, h3, ad, sm, sizeL, hz16]
  · obtain ⟨h1, h2, h3⟩ := behind C T "&" (c := 38) (X := []) (by decide +kernel) (by decide +kernel) "more" rfl
    rw [hEL] at h2
    rw [hPL] at h3
    generalize z ++ "&" = y at *
    simp -implicitDefEqProofs [fb_law_k19_t4, E_law_k19, t2, tl, h1, h2, h3, ad, sm, sizeL, hz16]
theorem top_no {nms : List Str} (h : ∀ w ∈ nms, w ∈ nms4) {top : Str} (ht : top ∈ nms) : (ch top).head? ≠ some 122 := by
  have key : ∀ w ∈ nms4, (ch w).head? ≠ some 122 := by decide +kernel
  exact key _ (h _ ht)
theorem isPl_at {l : List Nat} {k : Nat} (h : isPl l k = true) : l[k]? = some 62 ∧ 47 ∉ back (l.take k) := by
  unfold isPl at h
  rw [Bool.and_eq_true] at h
  exact ⟨by simpa using h.1, by simpa using h.2⟩
theorem wrong_read {nms : List Str} {t : Tree} (ht : TOk nms 3 t) (hn : ∀ w ∈ nms, w ∈ nms4) {k : Nat} (hk : isPl (t.wr true) k = true) {q : Pc} (hq : PcOk q) {R : List Nat} (h1 : isSp q.s = true → Sp R) (h2 : run R ≤ 10) :
    readL ((t.wr true).take (k + 1) ++ (ch q.s ++ R)) = .inr (k + 1 + q.o, q.r) := by
  obtain ⟨p1, p2⟩ := isPl_at hk
  obtain ⟨r, hr⟩ := Tree.wr_el_head (b := true) ht.el
  have hdp := ht.dp
  have hsz := ht.sz
  have b3 : bT 3 = 67 := by decide
  obtain ⟨sw, dn, ⟨top, ds, r0, e0, hm⟩, hsl, hdn, hrun⟩ := (opens_at nms t k ht.ok ht.nm p1 p2).op
  obtain ⟨Cn, hb, hc⟩ := hq.bad
  have hd := hrun 0 0 [] (ch q.s ++ R) (by show 0 + t.dp ≤ 60; omega) (by omega)
  rw [List.append_nil, Nat.zero_add, Nat.zero_add] at hd
  have hbad := hb R (k + 1) dn top sw (hc R h1 h2) (top_no hn hm) ⟨⟨ds, r0, e0⟩, by omega, by omega⟩
  rw [hbad] at hd
  exact read_err (r := r.take k ++ (ch q.s ++ R)) (by rw [hr]; rfl) hd
/-- what the law draws -/
structure Ts19 (z : Str) (l : List Nat) : Prop where
  T : Tx19 z l
  hd : ∃ r, l = 60 :: r
  ne : 0 < (pls l).length
  bad : ∀ k, isPl l k = true → ∀ q, PcOk q → ∀ R, (isSp q.s = true → Sp R) → run R ≤ 10 → readL (l.take (k + 1) ++ (ch q.s ++ R)) = .inr (k + 1 + q.o, q.r)
  run : ∀ k, isPl l k = true → run (l.drop (k + 1)) ≤ 10
theorem cut_from (z : Str) (a : Nat) : ch (cutS z (some (a : Int)) none) = (ch z).drop a := by rw [cutS_cut, ch_mk, cutL_from]
theorem wrong_ok (C : Cs) {z : Str} {l : List Nat} (T : Ts19 z l) {k : Nat} (hk : isPl l k = true) (hkl : k < l.length) {q : Pc} (hq : PcOk q) {W : Str} {R : List Nat} (hW : ch W = l.take (k + 1) ++ (ch q.s ++ R)) (h1 : isSp q.s = true → Sp R) (h2 : run R ≤ 10) (hR : R.length ≤ 7000) :
    F_law_error C [.d (.str W)] [] = .ok (.d (errL (ch W) (k + 1 + q.o) q.r)) [] ∧ F_law_place_k19 C [.d (.str W), .d (.int ((k + 1 + q.o : Nat) : Int))] [] = .ok (.d (.lst (plcL (ch W) (k + 1 + q.o)))) [] := by
  have hr := T.bad k hk q hq R h1 h2
  rw [← hW] at hr
  have hl := T.T.len
  have hq1 := hq.len
  have hq2 := hq.ofs
  have hll : l.length = z.length := by rw [← T.T.is, ch_len]
  have hlen : W.length = (k + 1) + (q.s.length + R.length) := by
    rw [← ch_len W, hW, List.length_append, List.length_take, List.length_append, ch_len]
    omega
  exact ⟨error_inr C (by omega) (by omega) hr, place_ok C W _ (by omega) (by omega)⟩
theorem k19_t5 (C : Cs) {z : Str} {l : List Nat} (T : Ts19 z l) (ds : List Int) (a0 a2 : D) : mfK (fb_law_k19_t5 C (E_law_k19 (some (.d a0)) (some (.loc 0)) (some (.d a2)) (some (.d (.str z))) none none none none none none none none none none (some (dk ds)) none)) 0 0 = .ok (.d (.bl true)) [] := by
  have hl := T.T.len
  have hz16 : z.length ≤ 16777216 := by omega
  have hll : l.length = z.length := by rw [← T.T.is, ch_len]
  obtain ⟨r, hr⟩ := T.hd
  have c1 := k19_c1 C a0 a2 z ds (by omega) (r := r) (by rw [T.T.is, hr])
  rw [T.T.is] at c1
  have hpl : (plsD l).length = (pls l).length := by unfold plsD; rw [List.length_map]
  have hne := T.ne
  have hpls : (pls l).length ≤ l.length := by
    unfold pls
    have := List.length_filter_le (isPl l) (List.range l.length)
    rw [List.length_range] at this
    exact this
  have t1 := take_ok C ds (n := ((plsD l).length : Int)) (by omega)
  obtain ⟨i, hi, hv1⟩ := tv_nat ds (n := (plsD l).length) (by omega)
  rw [hv1] at t1
  obtain ⟨k, hk1, hk2, hk3⟩ : ∃ k, isPl l k = true ∧ k < l.length ∧ atI (plsD l) (i : Int) = some (.int ((k + 1 : Nat) : Int)) := by
    have hm : (pls l)[i]'(by omega) ∈ pls l := List.getElem_mem _
    have hm2 := List.mem_filter.mp (show _ ∈ (List.range l.length).filter (isPl l) from hm)
    refine ⟨_, hm2.2, List.mem_range.mp hm2.1, ?_⟩
    rw [Dl.atI_nat]
    unfold plsD
    rw [List.getElem?_map, List.getElem?_eq_getElem (by omega)]
    rfl
  have hpi := pieces_ok C
  have hpn : (pcs.map Pc.d).length = 28 := rfl
  have t2 := take_ok C (tn ds) (n := 28) (by omega)
  obtain ⟨j, hj, hv2⟩ := tv_nat (tn ds) (n := 28) (by omega)
  have hv2 : tv (tn ds) 28 = (j : Int) := hv2
  rw [hv2] at t2
  obtain ⟨q, hq, hjq⟩ : ∃ q, PcOk q ∧ atI (pcs.map Pc.d) (j : Int) = some (.lst [.str q.s, .int (q.o : Nat), .str q.r]) := by
    have hjl : j < pcs.length := hj
    refine ⟨pcs[j], pcs_ok _ (List.getElem_mem hjl), ?_⟩
    rw [Dl.atI_nat, List.getElem?_map, List.getElem?_eq_getElem hjl]
    rfl
  have t3 := take_ok C (tn (tn ds)) (n := 2) (by omega)
  obtain ⟨b, hb, hv3⟩ := tv_nat (tn (tn ds)) (n := 2) (by omega)
  have hv3 : tv (tn (tn ds)) 2 = (b : Int) := hv3
  rw [hv3] at t3
  have tl := fun a4 a6 a7 a8 a9 => k19_t4 C T.T (tn (tn (tn ds))) a0 a2 a4 a6 a7 a8 a9
  simp -implicitDefEqProofs [E_law_k19] at tl c1
  have hsz : (plsD l).length ≤ 16777216 := by omega
  have hqi := hq.inn
  have hq1 := hq.len
  have hA : (cutS z none (some ((k + 1 : Nat) : Int))).length ≤ 7000 := by rw [← ch_len, cut_to, List.length_take, ch_len]; omega
  have hA2 := cut_to z (k + 1)
  have hs32 : ch " " = [32] := by decide +kernel
  have ls : (" " : Str).length = 1 := by decide +kernel
  have hB : ∀ a : Nat, (cutS z (some (a : Int)) none).length ≤ 7000 := fun a => by rw [← ch_len, cut_from, List.length_drop, ch_len]; omega
  have hB2 := fun a => cut_from z a
  have hrun := T.run k hk1
  generalize hAe : cutS z none (some ((k + 1 : Nat) : Int)) = A at *
  generalize pcs.map Pc.d = PS at *
  generalize plsD l = PL at *
  have hcm : CMul (b : Int) ((z.length : Int) - ((k + 1 : Nat) : Int)) := .inr ⟨by omega, by omega⟩
  obtain ⟨X, hX1, hX2⟩ : ∃ X : Nat, ((k + 1 : Nat) : Int) + (b : Int) * ((z.length : Int) - ((k + 1 : Nat) : Int)) = (X : Int) ∧ run (l.drop X) ≤ 10 := by
    rcases (show b = 0 ∨ b = 1 by omega) with rfl | rfl
    · exact ⟨k + 1, by simp, hrun⟩
    · exact ⟨z.length, by omega, by rw [← hll, List.drop_length]; show 0 ≤ 10; omega⟩
  have hBX := hB X
  have hBX2 := hB2 X
  have hBk := hB (k + 1)
  have hBk2 := hB2 (k + 1)
  generalize hBe : cutS z (some (X : Int)) none = B at *
  generalize hBke : cutS z (some ((k + 1 : Nat) : Int)) none = Bk at *
  have d1 := addS (x := A) (y := q.s) (by omega)
  have d2 := addS (x := A ++ q.s) (y := B) (by rw [len_app]; omega)
  have d3 := addS (x := A ++ q.s) (y := " ") (by rw [len_app, ls]; omega)
  have d4 := addS (x := A ++ q.s ++ " ") (y := Bk) (by rw [len_app, len_app, ls]; omega)
  have hko : ((k + 1 : Nat) : Int) + (q.o : Int) = ((k + 1 + q.o : Nat) : Int) := by omega
  have hz5 : (z.length : Int) < 4611686018427387904 := by omega
  have hRl : (l.drop (k + 1)).length ≤ 6000 := by rw [List.length_drop]; omega
  have hRX : (l.drop X).length ≤ 6000 := by rw [List.length_drop]; omega
  rw [T.T.is] at hA2 hBX2 hBk2
  by_cases hsp : isSp q.s = true
  · obtain ⟨er, pl⟩ := wrong_ok C T hk1 hk2 hq (W := A ++ q.s ++ " " ++ Bk) (R := 32 :: l.drop (k + 1)) (by
      rw [ch_app, ch_app, ch_app, hA2, hBk2, hs32]
      simp) (fun _ => ⟨_, rfl⟩) (by show 0 ≤ 10; omega) (by rw [List.length_cons]; omega)
    have ad := add_pl (ch (A ++ q.s ++ " " ++ Bk)) (k + 1 + q.o) q.r
    have sm := same_errL C (ch (A ++ q.s ++ " " ++ Bk)) (k + 1 + q.o) q.r
    rw [hsp] at hqi
    generalize errL (ch (A ++ q.s ++ " " ++ Bk)) (k + 1 + q.o) q.r = EL at *
    generalize plcL (ch (A ++ q.s ++ " " ++ Bk)) (k + 1 + q.o) = PP at *
    generalize A ++ q.s ++ " " ++ Bk = W4 at *
    generalize A ++ q.s ++ " " = W3 at *
    generalize A ++ q.s ++ B = W2 at *
    generalize A ++ q.s = W1 at *
    clear hA2 hBX2 hBk2 hrun hX2 hk1 hk2 hB hB2 hRl hRX
    generalize ((k + 1 + q.o : Nat) : Int) = Q at *
    generalize ((k + 1 : Nat) : Int) = P at *
    simp -implicitDefEqProofs [fb_law_k19_t5, E_law_k19, c1, t1, hk3, hpi, t2, hpn, hjq, t3, hcm, hX1, hAe, hBe, hBke, d1, d2, d3, d4, hqi, er, pl, ad, sm, hko, tl, sizeL, hsz, hz16]
  · obtain ⟨er, pl⟩ := wrong_ok C T hk1 hk2 hq (W := A ++ q.s ++ B) (R := l.drop X) (by
      rw [ch_app, ch_app, hA2, hBX2]
      simp) (fun h => absurd h hsp) hX2 (by omega)
    have ad := add_pl (ch (A ++ q.s ++ B)) (k + 1 + q.o) q.r
    have sm := same_errL C (ch (A ++ q.s ++ B)) (k + 1 + q.o) q.r
    have hsp : isSp q.s = false := by simpa using hsp
    rw [hsp] at hqi
    generalize errL (ch (A ++ q.s ++ B)) (k + 1 + q.o) q.r = EL at *
    generalize plcL (ch (A ++ q.s ++ B)) (k + 1 + q.o) = PP at *
    generalize A ++ q.s ++ " " ++ Bk = W4 at *
    generalize A ++ q.s ++ " " = W3 at *
    generalize A ++ q.s ++ B = W2 at *
    generalize A ++ q.s = W1 at *
    clear hA2 hBX2 hBk2 hrun hX2 hk1 hk2 hB hB2 hRl hRX
    generalize ((k + 1 + q.o : Nat) : Int) = Q at *
    generalize ((k + 1 : Nat) : Int) = P at *
    simp -implicitDefEqProofs [fb_law_k19_t5, E_law_k19, c1, t1, hk3, hpi, t2, hpn, hjq, t3, hcm, hX1, hAe, hBe, hBke, d1, d2, d3, d4, hqi, er, pl, ad, sm, hko, tl, sizeL, hsz, hz16]
theorem names_sub (C : Cs) (ds : List Int) : ∃ nms ds', F_law_names C [.loc 0] [dk ds] = .ok (.d (.lst (nms.map .str))) [dk ds'] ∧ NmOk nms ∧ ∀ w ∈ nms, w ∈ nms4 := by
  have t4 := take_ok C ds (n := 4) (by omega)
  obtain ⟨j, hj, hv4⟩ := tv_nat ds (n := 4) (by omega)
  have hv4 : tv ds 4 = (j : Int) := hv4
  rw [hv4] at t4
  have hc : cutL (nms4.map D.str) none (some (1 + (j : Int))) = (nms4.take (j + 1)).map .str := by
    rw [show (1 : Int) + j = ((j + 1 : Nat) : Int) by omega, cutL_to, List.map_take]
  have hc : cutL [D.str "a", D.str "b", D.str "abcdefghijkl", D.str "c"] none (some (1 + (j : Int))) = (nms4.take (j + 1)).map .str := hc
  refine ⟨nms4.take (j + 1), tn ds, ?_, ⟨?_, ?_, fun w hw => ?_⟩, fun w hw => List.mem_of_mem_take hw⟩
  · simp -implicitDefEqProofs [F_law_names, fb_law_names, env0, sizeL, t4, hc]
  · rw [List.length_take]; show 0 < min (j + 1) 4; omega
  · rw [List.length_take]; show min (j + 1) 4 ≤ _; omega
  · have : w ∈ nms4 := List.mem_of_mem_take hw
    have all : nms4.all nameOk = true := by decide +kernel
    exact List.all_eq_true.mp all w this
theorem readL_more {t : Tree} (h : t.ok = true) (hT : t.isT = false) (hd : t.dp ≤ 60) (hs : t.sz ≤ 5000) (c : Nat) (X : List Nat) : readL (t.wr true ++ c :: X) = .inr ((t.wr true).length, if chOk c = true then ("more" : Str) else ("character" : Str)) := by
  obtain ⟨r, hr⟩ := Tree.wr_el_head (b := true) hT
  have hp := wr_parse true t (c :: X) 0 0 [] h (fun z => by rw [hT] at z; cases z) (by simpa using hd) (by omega)
  have hp : docG ((t.wr true ++ c :: X).length + 1) (t.wr true ++ c :: X) 0 0 [] = .inl (t.d, 0 + (t.wr true).length, 0 + t.sz) := hp
  unfold readL
  rw [show tagL (t.wr true ++ c :: X) 0 60 = .inl true by rw [hr, List.cons_append, tagL_is (by decide)]; rfl]
  simp only
  rw [hp]
  simp only
  rw [Nat.zero_add, List.drop_left]
  by_cases hc : chOk c = true
  · rw [if_pos hc]
    simp [lookL, hc]
  · rw [if_neg hc]
    simp [lookL, hc]
theorem pls_pos {t : Tree} (h : t.ok = true) (hT : t.isT = false) : 0 < (pls (t.wr true)).length := by
  cases t with
  | txt s => cases hT
  | el w cs =>
    rw [Tree.ok_el, Bool.and_eq_true, Bool.and_eq_true] at h
    obtain ⟨w1, w2, w3⟩ := nameOk_ch h.1.1
    refine List.length_pos_of_mem (a := (ch w).length + 1) (List.mem_filter.mpr ⟨List.mem_range.mpr ?_, ?_⟩)
    · rw [Tree.wr_el, if_neg (by simp)]
      simp
      all_goals (try omega)
    · unfold isPl
      rw [Tree.wr_el, if_neg (by simp), Bool.and_eq_true]
      constructor
      · rw [List.getElem?_cons_succ, List.getElem?_append_right (Nat.le_refl _), Nat.sub_self]
        rfl
      · have e : (60 :: (ch w ++ 62 :: (Tree.wrs true cs ++ 60 :: 47 :: (ch w ++ [62])))).take ((ch w).length + 1) = 60 :: ch w := by rw [List.take_succ_cons, List.take_left]
        rw [e]
        have hb : 47 ∉ back (60 :: ch w) := fun hm => by
          unfold back at hm
          have hm3 := (List.takeWhile_sublist _).subset hm
          rw [List.reverse_cons] at hm3
          rcases List.mem_append.mp hm3 with h3 | h3
          · exact name_no (c := 47) w1 (by decide) (by simpa using h3)
          · have := List.mem_singleton.mp h3
            cases this
        simp [hb]
theorem ts19 {nms : List Str} {t : Tree} (ht : TOk nms 3 t) (hn : ∀ w ∈ nms, w ∈ nms4) : Ts19 (wrS true t) (t.wr true) := by
  have hdp := ht.dp
  have hsz := ht.sz
  have b3 : bT 3 = 67 := by decide
  have hl := drawn_len true ht (by omega)
  have hlw := wrS_len true t
  refine ⟨⟨by unfold wrS; rw [ch_mk], by omega, ?_, fun m hm => readL_cut ht.ok ht.el (by omega) (by omega) (by omega), readL_more ht.ok ht.el (by omega) (by omega)⟩, Tree.wr_el_head ht.el, pls_pos ht.ok ht.el, fun k hk q hq R h1 h2 => wrong_read ht hn hk hq h1 h2, fun k hk => ?_⟩
  · obtain ⟨r, hr⟩ := Tree.wr_el_head (b := true) ht.el
    rw [hlw, hr]
    simp
  · have := runs_at t k [] ht.ok ht.tl (isPl_at hk).1 (by show 0 ≤ 5; omega)
    rw [List.append_nil] at this
    omega
theorem law_k19_true (C : Cs) (ns : List Int) (hns : ns.length ≤ 63) : ∃ cs, F_law_k19 C [.d (.rd (ns.map .int))] [] = .ok (.d (.bl true)) cs := by
  obtain ⟨ds, h1⟩ := draws_ok C ns hns
  obtain ⟨nms, d1, h2, hn, hsub⟩ := names_sub C ds
  obtain ⟨t, d2, h3, ht⟩ := tree_ok C nms hn 9 3 (by omega) d1
  have b3 : bT 3 = 67 := by decide
  have hsz := ht.sz
  have hdp := ht.dp
  have h3 : F_law_tree C 9 [.loc 0, .d (.int 3), .d (.lst (nms.map .str))] [dk d1] = .ok (.d t.d) [dk d2] := h3
  have w2 := law_written_ok C true 70 t (by omega) ht.ok (by omega)
  have T := ts19 ht hsub
  have hl := T.T.len
  have rd := error_inl C (z := wrS true t) (by omega) (by rw [T.T.is]; exact readL_wr true t ht.ok ht.el (by omega) (by omega))
  have sm : F_law_same_k16 C 140 [.d (.lst []), .d (.lst [])] [] = .ok (.d (.bl true)) [] := same16_ok C 139 _ (plN_lst.mpr ⟨by show 0 < 1000000000; omega, fun y hy => by cases hy⟩)
  have tl := k19_t5 C T d2 (.rd (ns.map .int)) t.d
  refine ⟨[], ?_⟩
  simp -implicitDefEqProofs [E_law_k19] at tl
  generalize wrS true t = x2 at *
  generalize t.d = td at *
  simp -implicitDefEqProofs [F_law_k19, fb_law_k19, env0, h1, h2, h3, w2, rd, sm, tl]
end Tp
end
section
set_option Elab.async false
set_option linter.all false
set_option maxRecDepth 100000
set_option maxHeartbeats 0
namespace Wk
open PySem PySem.Spec PyProof.Rows L2 Dl Tp
theorem tx {w : World} {K : PySem.W.Frag} {h : Heap} {mg : Str → Option Value} (X : K.In h) (G : h.Ns mainGlobals mg) (c000 : SaysXr hd_x hd_z hd_p hd_t hd_r hd_fa hd_fn w K) : ∃ T : Tx K mg, T.f_law_k19 = He.ga K "law" := by
  have c00 := c000.t0
  have c0 := c00.z0
  have c := c0.d
  obtain ⟨fd0, FD0⟩ := c.def_ 0 (d := hd_TextError_init) rfl
  obtain ⟨fd1, FD1⟩ := c.def_ 1 (d := hd_TooLarge_init) rfl
  obtain ⟨fd2, FD2⟩ := c.def_ 2 (d := hd_is_character) rfl
  obtain ⟨fd3, FD3⟩ := c.def_ 3 (d := hd_DocumentReader_init) rfl
  obtain ⟨fd4, FD4⟩ := c.def_ 4 (d := hd_DocumentReader_fail) rfl
  obtain ⟨fd5, FD5⟩ := c.def_ 5 (d := hd_DocumentReader_look) rfl
  obtain ⟨fd6, FD6⟩ := c.def_ 6 (d := hd_DocumentReader_take_if) rfl
  obtain ⟨fd7, FD7⟩ := c.def_ 7 (d := hd_DocumentReader_name) rfl
  obtain ⟨fd8, FD8⟩ := c.def_ 8 (d := hd_DocumentReader_new_node) rfl
  obtain ⟨fd9, FD9⟩ := c.def_ 9 (d := hd_DocumentReader_begin) rfl
  obtain ⟨fd10, FD10⟩ := c.def_ 10 (d := hd_DocumentReader_end) rfl
  obtain ⟨fd11, FD11⟩ := c.def_ 11 (d := hd_DocumentReader_sign) rfl
  obtain ⟨fd12, FD12⟩ := c.def_ 12 (d := hd_DocumentReader_string) rfl
  obtain ⟨fd13, FD13⟩ := c.def_ 13 (d := hd_DocumentReader_part) rfl
  obtain ⟨fd14, FD14⟩ := c.def_ 14 (d := hd_DocumentReader_document) rfl
  obtain ⟨fd15, FD15⟩ := c.def_ 15 (d := hd_read_document) rfl
  obtain ⟨fd16, FD16⟩ := c.def_ 16 (d := hd_law_escaped) rfl
  obtain ⟨fd17, FD17⟩ := c.def_ 17 (d := hd_law_written) rfl
  obtain ⟨fd18, FD18⟩ := c.def_ 18 (d := hd_law_draws) rfl
  obtain ⟨fd19, FD19⟩ := c.def_ 19 (d := hd_law_take) rfl
  obtain ⟨fd20, FD20⟩ := c.def_ 20 (d := hd_law_same_k16) rfl
  obtain ⟨fd21, FD21⟩ := c.def_ 21 (d := hd_law_string_k16) rfl
  obtain ⟨fd22, FD22⟩ := c.def_ 22 (d := hd_law_tree) rfl
  obtain ⟨fd23, FD23⟩ := c.def_ 23 (d := hd_law_names) rfl
  obtain ⟨fd24, FD24⟩ := c.def_ 24 (d := hd_law_error) rfl
  obtain ⟨fd25, FD25⟩ := c.def_ 25 (d := hd_law_place_k19) rfl
  obtain ⟨fd26, FD26⟩ := c.def_ 26 (d := hd_law_pieces) rfl
  obtain ⟨fd27, FD27⟩ := c.def_ 27 (d := hd_law_k19) rfl
  obtain ⟨t_LETTERS, tk_LETTERS⟩ := He.str_ok X G (c.fact 34 (f := .str "LETTERS" "abcdefghijklmnopqrstuvwxyz") rfl)
  obtain ⟨t_MOST_CHARACTERS, tk_MOST_CHARACTERS⟩ := He.int_ok X G (c.fact 35 (f := .int "MOST_CHARACTERS" 200000) rfl)
  obtain ⟨t_MOST_DEPTH, tk_MOST_DEPTH⟩ := He.int_ok X G (c.fact 36 (f := .int "MOST_DEPTH" 60) rfl)
  obtain ⟨t_MOST_LETTERS, tk_MOST_LETTERS⟩ := He.int_ok X G (c.fact 37 (f := .int "MOST_LETTERS" 12) rfl)
  obtain ⟨t_MOST_NODES, tk_MOST_NODES⟩ := He.int_ok X G (c.fact 38 (f := .int "MOST_NODES" 5000) rfl)
  obtain ⟨t_MOST_TEXT, tk_MOST_TEXT⟩ := He.int_ok X G (c.fact 39 (f := .int "MOST_TEXT" 200) rfl)
  exact ⟨{ C_TextError := He.ga K "TextError", C_TooLarge := He.ga K "TooLarge", C_DocumentReader := He.ga K "DocumentReader", f_TextError_init := He.ma K (He.ga K "TextError") "__init__", d_TextError_init := fd0, f_TooLarge_init := He.ma K (He.ga K "TooLarge") "__init__", d_TooLarge_init := fd1, f_is_character := He.ga K "is_character", d_is_character := fd2, f_DocumentReader_init := He.ma K (He.ga K "DocumentReader") "__init__", d_DocumentReader_init := fd3, f_DocumentReader_fail := He.ma K (He.ga K "DocumentReader") "fail", d_DocumentReader_fail := fd4, f_DocumentReader_look := He.ma K (He.ga K "DocumentReader") "look", d_DocumentReader_look := fd5, f_DocumentReader_take_if := He.ma K (He.ga K "DocumentReader") "take_if", d_DocumentReader_take_if := fd6, f_DocumentReader_name := He.ma K (He.ga K "DocumentReader") "name", d_DocumentReader_name := fd7, f_DocumentReader_new_node := He.ma K (He.ga K "DocumentReader") "new_node", d_DocumentReader_new_node := fd8, f_DocumentReader_begin := He.ma K (He.ga K "DocumentReader") "begin", d_DocumentReader_begin := fd9, f_DocumentReader_end := He.ma K (He.ga K "DocumentReader") "end", d_DocumentReader_end := fd10, f_DocumentReader_sign := He.ma K (He.ga K "DocumentReader") "sign", d_DocumentReader_sign := fd11, f_DocumentReader_string := He.ma K (He.ga K "DocumentReader") "string", d_DocumentReader_string := fd12, f_DocumentReader_part := He.ma K (He.ga K "DocumentReader") "part", d_DocumentReader_part := fd13, f_DocumentReader_document := He.ma K (He.ga K "DocumentReader") "document", d_DocumentReader_document := fd14, f_read_document := He.ga K "read_document", d_read_document := fd15, f_law_escaped := He.ga K "_law_escaped", d_law_escaped := fd16, f_law_written := He.ga K "_law_written", d_law_written := fd17, f_law_draws := He.ga K "_law_draws", d_law_draws := fd18, f_law_take := He.ga K "_law_take", d_law_take := fd19, f_law_same_k16 := He.ga K "_law_same", d_law_same_k16 := fd20, f_law_string_k16 := He.ga K "_law_string", d_law_string_k16 := fd21, f_law_tree := He.ga K "_law_tree", d_law_tree := fd22, f_law_names := He.ga K "_law_names", d_law_names := fd23, f_law_error := He.ga K "_law_error", d_law_error := fd24, f_law_place_k19 := He.ga K "_law_place", d_law_place_k19 := fd25, f_law_pieces := He.ga K "_law_pieces", d_law_pieces := fd26, f_law_k19 := He.ga K "law", d_law_k19 := fd27, t_LETTERS := t_LETTERS, t_MOST_CHARACTERS := t_MOST_CHARACTERS, t_MOST_DEPTH := t_MOST_DEPTH, t_MOST_LETTERS := t_MOST_LETTERS, t_MOST_NODES := t_MOST_NODES, t_MOST_TEXT := t_MOST_TEXT, a_SIGNS := He.ga K "SIGNS", F_TextError_init := FD0, F_TooLarge_init := FD1, F_is_character := FD2, F_DocumentReader_init := FD3, F_DocumentReader_fail := FD4, F_DocumentReader_look := FD5, F_DocumentReader_take_if := FD6, F_DocumentReader_name := FD7, F_DocumentReader_new_node := FD8, F_DocumentReader_begin := FD9, F_DocumentReader_end := FD10, F_DocumentReader_sign := FD11, F_DocumentReader_string := FD12, F_DocumentReader_part := FD13, F_DocumentReader_document := FD14, F_read_document := FD15, F_law_escaped := FD16, F_law_written := FD17, F_law_draws := FD18, F_law_take := FD19, F_law_same_k16 := FD20, F_law_string_k16 := FD21, F_law_tree := FD22, F_law_names := FD23, F_law_error := FD24, F_law_place_k19 := FD25, F_law_pieces := FD26, F_law_k19 := FD27, g_TextError := He.glo_ok X G (c.fact 0 (f := .glo "TextError") rfl), x_TextError := (xBn_ok (x := "TextError") (fs := ["line", "column", "reason"]) (c0.x 0)).1, xf_TextError := (xBn_ok (x := "TextError") (fs := ["line", "column", "reason"]) (c0.x 0)).2.1, xe_TextError := (xBn_ok (x := "TextError") (fs := ["line", "column", "reason"]) (c0.x 0)).2.2.1, xv_TextError := (xBn_ok (x := "TextError") (fs := ["line", "column", "reason"]) (c0.x 0)).2.2.2, g_TooLarge := He.glo_ok X G (c.fact 1 (f := .glo "TooLarge") rfl), x_TooLarge := (xBn_ok (x := "TooLarge") (fs := ["limit"]) (c0.x 1)).1, xf_TooLarge := (xBn_ok (x := "TooLarge") (fs := ["limit"]) (c0.x 1)).2.1, xe_TooLarge := (xBn_ok (x := "TooLarge") (fs := ["limit"]) (c0.x 1)).2.2.1, xv_TooLarge := (xBn_ok (x := "TooLarge") (fs := ["limit"]) (c0.x 1)).2.2.2, c_DocumentReader := He.cls_ok (c.fact 2 (f := .cls "DocumentReader") rfl), g_DocumentReader := He.glo_ok X G (c.fact 3 (f := .glo "DocumentReader") rfl), m_is_character := He.glo_ok X G (c.fact 4 (f := .glo "is_character") rfl), k_is_character := FD2.kp, mk_DocumentReader := He.mkr_ok (c.fact 5 (f := .mkr "DocumentReader") rfl), me_DocumentReader_fail := He.meth_ok (c.fact 6 (f := .meth "DocumentReader" "fail") rfl), me_DocumentReader_look := He.meth_ok (c.fact 7 (f := .meth "DocumentReader" "look") rfl), me_DocumentReader_take_if := He.meth_ok (c.fact 8 (f := .meth "DocumentReader" "take_if") rfl), me_DocumentReader_name := He.meth_ok (c.fact 9 (f := .meth "DocumentReader" "name") rfl), me_DocumentReader_new_node := He.meth_ok (c.fact 10 (f := .meth "DocumentReader" "new_node") rfl), me_DocumentReader_begin := He.meth_ok (c.fact 11 (f := .meth "DocumentReader" "begin") rfl), me_DocumentReader_end := He.meth_ok (c.fact 12 (f := .meth "DocumentReader" "end") rfl), me_DocumentReader_sign := He.meth_ok (c.fact 13 (f := .meth "DocumentReader" "sign") rfl), me_DocumentReader_string := He.meth_ok (c.fact 14 (f := .meth "DocumentReader" "string") rfl), me_DocumentReader_part := He.meth_ok (c.fact 15 (f := .meth "DocumentReader" "part") rfl), me_DocumentReader_document := He.meth_ok (c.fact 16 (f := .meth "DocumentReader" "document") rfl), m_read_document := He.glo_ok X G (c.fact 17 (f := .glo "read_document") rfl), k_read_document := FD15.kp, m_law_escaped := He.glo_ok X G (c.fact 18 (f := .glo "_law_escaped") rfl), k_law_escaped := FD16.kp, m_law_written := He.glo_ok X G (c.fact 19 (f := .glo "_law_written") rfl), k_law_written := FD17.kp, m_law_draws := He.glo_ok X G (c.fact 20 (f := .glo "_law_draws") rfl), k_law_draws := FD18.kp, m_law_take := He.glo_ok X G (c.fact 21 (f := .glo "_law_take") rfl), k_law_take := FD19.kp, m_law_same_k16 := He.glo_ok X G (c.fact 22 (f := .glo "_law_same") rfl), k_law_same_k16 := FD20.kp, m_law_string_k16 := He.glo_ok X G (c.fact 23 (f := .glo "_law_string") rfl), k_law_string_k16 := FD21.kp, m_law_tree := He.glo_ok X G (c.fact 24 (f := .glo "_law_tree") rfl), k_law_tree := FD22.kp, m_law_names := He.glo_ok X G (c.fact 25 (f := .glo "_law_names") rfl), k_law_names := FD23.kp, m_law_error := He.glo_ok X G (c.fact 26 (f := .glo "_law_error") rfl), k_law_error := FD24.kp, m_law_place_k19 := He.glo_ok X G (c.fact 27 (f := .glo "_law_place") rfl), k_law_place_k19 := FD25.kp, m_law_pieces := He.glo_ok X G (c.fact 28 (f := .glo "_law_pieces") rfl), k_law_pieces := FD26.kp, m_law_k19 := He.glo_ok X G (c.fact 29 (f := .glo "law") rfl), k_law_k19 := FD27.kp, n_DocumentReader_at := He.noat_ok (c.fact 30 (f := .noat "DocumentReader" "at") rfl), n_DocumentReader_node_count := He.noat_ok (c.fact 31 (f := .noat "DocumentReader" "node_count") rfl), n_DocumentReader_opened := He.noat_ok (c.fact 32 (f := .noat "DocumentReader" "opened") rfl), n_DocumentReader_text := He.noat_ok (c.fact 33 (f := .noat "DocumentReader" "text") rfl), g_LETTERS := tk_LETTERS, g_MOST_CHARACTERS := tk_MOST_CHARACTERS, g_MOST_DEPTH := tk_MOST_DEPTH, g_MOST_LETTERS := tk_MOST_LETTERS, g_MOST_NODES := tk_MOST_NODES, g_MOST_TEXT := tk_MOST_TEXT, g_SIGNS := He.glo_ok X G (c.fact 40 (f := .glo "SIGNS") rfl), R_SIGNS := (c000.row 0 (r := ("SIGNS", ([["&lt;", "<"], ["&gt;", ">"], ["&amp;", "&"]] : List (List PySem.Str)))) rfl), b_abs := He.free_ok X G (c.fact 41 (f := .free "abs") rfl), b_bool := He.free_ok X G (c.fact 42 (f := .free "bool") rfl), b_int := He.free_ok X G (c.fact 43 (f := .free "int") rfl), b_isinstance := He.free_ok X G (c.fact 44 (f := .free "isinstance") rfl), b_len := He.free_ok X G (c.fact 45 (f := .free "len") rfl), b_list := He.free_ok X G (c.fact 46 (f := .free "list") rfl), b_range := He.free_ok X G (c.fact 47 (f := .free "range") rfl), b_reversed := He.free_ok X G (c.fact 48 (f := .free "reversed") rfl), b_str := He.free_ok X G (c.fact 49 (f := .free "str") rfl), b_tuple := He.free_ok X G (c.fact 50 (f := .free "tuple") rfl) }, rfl⟩
section
variable {P : Program} {w : World} {K : PySem.W.Frag} {mg : Str → Option Value} {base : Heap}
theorem al_is_character (T : Tx K mg) : FnOk P w K mg base (L2.CX P w) 1 T.f_is_character T.d_is_character ["letter"] (spD K 1 (F_is_character T.C)) := ok_is_character T
theorem al_DocumentReader_init (T : Tx K mg) : FnOk P w K mg base (L2.CX P w) 1 T.f_DocumentReader_init T.d_DocumentReader_init ["self", "text"] (spD K 2 (F_DocumentReader_init T.C)) := ok_DocumentReader_init T
theorem al_DocumentReader_fail (T : Tx K mg) : FnOk P w K mg base (L2.CX P w) 3 T.f_DocumentReader_fail T.d_DocumentReader_fail ["self", "place", "reason"] (spD K 3 (F_DocumentReader_fail T.C)) := ok_DocumentReader_fail T
theorem al_DocumentReader_look (T : Tx K mg) : FnOk P w K mg base (L2.CX P w) 4 T.f_DocumentReader_look T.d_DocumentReader_look ["self"] (spD K 1 (F_DocumentReader_look T.C)) := ok_DocumentReader_look T (al_DocumentReader_fail T) (al_is_character T)
theorem al_DocumentReader_take_if (T : Tx K mg) : FnOk P w K mg base (L2.CX P w) 5 T.f_DocumentReader_take_if T.d_DocumentReader_take_if ["self", "letter"] (spD K 2 (F_DocumentReader_take_if T.C)) := ok_DocumentReader_take_if T (al_DocumentReader_look T)
theorem al_DocumentReader_name (T : Tx K mg) : FnOk P w K mg base (L2.CX P w) 5 T.f_DocumentReader_name T.d_DocumentReader_name ["self"] (spD K 1 (F_DocumentReader_name T.C)) := ok_DocumentReader_name T (al_DocumentReader_fail T) (al_DocumentReader_look T)
theorem al_DocumentReader_new_node (T : Tx K mg) : FnOk P w K mg base (L2.CX P w) 4 T.f_DocumentReader_new_node T.d_DocumentReader_new_node ["self", "place", "depth"] (spD K 3 (F_DocumentReader_new_node T.C)) := ok_DocumentReader_new_node T (al_DocumentReader_fail T)
theorem al_DocumentReader_begin (T : Tx K mg) : FnOk P w K mg base (L2.CX P w) 6 T.f_DocumentReader_begin T.d_DocumentReader_begin ["self", "place"] (spD K 2 (F_DocumentReader_begin T.C)) := ok_DocumentReader_begin T (al_DocumentReader_fail T) (al_DocumentReader_name T) (al_DocumentReader_new_node T) (al_DocumentReader_take_if T)
theorem al_DocumentReader_end (T : Tx K mg) : FnOk P w K mg base (L2.CX P w) 6 T.f_DocumentReader_end T.d_DocumentReader_end ["self"] (spD K 1 (F_DocumentReader_end T.C)) := ok_DocumentReader_end T (al_DocumentReader_fail T) (al_DocumentReader_name T) (al_DocumentReader_take_if T)
theorem al_DocumentReader_sign (T : Tx K mg) : FnOk P w K mg base (L2.CX P w) 5 T.f_DocumentReader_sign T.d_DocumentReader_sign ["self"] (spD K 1 (F_DocumentReader_sign T.C)) := ok_DocumentReader_sign T (al_DocumentReader_fail T) (al_DocumentReader_look T)
theorem al_DocumentReader_string (T : Tx K mg) : FnOk P w K mg base (L2.CX P w) 6 T.f_DocumentReader_string T.d_DocumentReader_string ["self"] (spD K 1 (F_DocumentReader_string T.C)) := ok_DocumentReader_string T (al_DocumentReader_fail T) (al_DocumentReader_look T) (al_DocumentReader_new_node T) (al_DocumentReader_sign T)
theorem al_DocumentReader_part (T : Tx K mg) : FnOk P w K mg base (L2.CX P w) 7 T.f_DocumentReader_part T.d_DocumentReader_part ["self"] (spD K 1 (F_DocumentReader_part T.C)) := ok_DocumentReader_part T (al_DocumentReader_begin T) (al_DocumentReader_end T) (al_DocumentReader_string T) (al_DocumentReader_take_if T)
theorem al_DocumentReader_document (T : Tx K mg) : FnOk P w K mg base (L2.CX P w) 8 T.f_DocumentReader_document T.d_DocumentReader_document ["self"] (spD K 1 (F_DocumentReader_document T.C)) := ok_DocumentReader_document T (al_DocumentReader_fail T) (al_DocumentReader_look T) (al_DocumentReader_part T)
theorem al_read_document (T : Tx K mg) : FnOk P w K mg base (L2.CX P w) 9 T.f_read_document T.d_read_document ["text"] (spD K 1 (F_read_document T.C)) := ok_read_document T (al_DocumentReader_init T) (al_DocumentReader_document T)
theorem al_law_escaped (T : Tx K mg) : FnOk P w K mg base (L2.CX P w) 1 T.f_law_escaped T.d_law_escaped ["_law_string_here"] (spD K 1 (F_law_escaped T.C)) := ok_law_escaped T
theorem al_law_written_n (T : Tx K mg) : ∀ n : Nat, FnOk P w K mg base (L2.CX P w) (1 + n) T.f_law_written T.d_law_written ["_law_tree_here", "_law_loose"] (spD K 2 (F_law_written T.C n))
  | 0 => fn_fail rfl
  | n + 1 => by
    have ih := al_law_written_n T n
    exact ok_law_written T (lv := 1 + n) (by omega) ih (al_law_escaped T)
theorem al_law_written (T : Tx K mg) : FnOk P w K mg base (L2.CX P w) 71 T.f_law_written T.d_law_written ["_law_tree_here", "_law_loose"] (spD K 2 (F_law_written T.C 70)) := al_law_written_n T 70
theorem al_law_draws (T : Tx K mg) : FnOk P w K mg base (L2.CX P w) 1 T.f_law_draws T.d_law_draws ["_law_script"] (spD K 1 (F_law_draws T.C)) := ok_law_draws T
theorem al_law_take (T : Tx K mg) : FnOk P w K mg base (L2.CX P w) 1 T.f_law_take T.d_law_take ["_law_draws_here", "_law_bound"] (spD K 2 (F_law_take T.C)) := ok_law_take T
theorem al_law_same_k16_n (T : Tx K mg) : ∀ n : Nat, FnOk P w K mg base (L2.CX P w) (0 + n) T.f_law_same_k16 T.d_law_same_k16 ["_law_actual", "_law_due"] (spD K 2 (F_law_same_k16 T.C n))
  | 0 => fn_fail rfl
  | n + 1 => by
    have ih := al_law_same_k16_n T n
    exact ok_law_same_k16 T (lv := 0 + n) (by omega) ih
theorem al_law_same_k16 (T : Tx K mg) : FnOk P w K mg base (L2.CX P w) 140 T.f_law_same_k16 T.d_law_same_k16 ["_law_actual", "_law_due"] (spD K 2 (F_law_same_k16 T.C 140)) := al_law_same_k16_n T 140
theorem al_law_string_k16 (T : Tx K mg) : FnOk P w K mg base (L2.CX P w) 2 T.f_law_string_k16 T.d_law_string_k16 ["_law_draws_here", "_law_most"] (spD K 2 (F_law_string_k16 T.C)) := ok_law_string_k16 T (al_law_take T)
theorem al_law_tree_n (T : Tx K mg) : ∀ n : Nat, FnOk P w K mg base (L2.CX P w) (2 + n) T.f_law_tree T.d_law_tree ["_law_draws_here", "_law_depth", "_law_names_here"] (spD K 3 (F_law_tree T.C n))
  | 0 => fn_fail rfl
  | n + 1 => by
    have ih := al_law_tree_n T n
    exact ok_law_tree T (lv := 2 + n) (by omega) ih (al_law_string_k16 T) (al_law_take T)
theorem al_law_tree (T : Tx K mg) : FnOk P w K mg base (L2.CX P w) 11 T.f_law_tree T.d_law_tree ["_law_draws_here", "_law_depth", "_law_names_here"] (spD K 3 (F_law_tree T.C 9)) := al_law_tree_n T 9
theorem al_law_names (T : Tx K mg) : FnOk P w K mg base (L2.CX P w) 2 T.f_law_names T.d_law_names ["_law_draws_here"] (spD K 1 (F_law_names T.C)) := ok_law_names T (al_law_take T)
theorem al_law_error (T : Tx K mg) : FnOk P w K mg base (L2.CX P w) 10 T.f_law_error T.d_law_error ["_law_text"] (spD K 1 (F_law_error T.C)) := ok_law_error T (al_read_document T)
theorem al_law_place_k19 (T : Tx K mg) : FnOk P w K mg base (L2.CX P w) 1 T.f_law_place_k19 T.d_law_place_k19 ["_law_text", "_law_at"] (spD K 2 (F_law_place_k19 T.C)) := ok_law_place_k19 T
theorem al_law_pieces (T : Tx K mg) : FnOk P w K mg base (L2.CX P w) 1 T.f_law_pieces T.d_law_pieces [] (spD K 0 (F_law_pieces T.C)) := ok_law_pieces T
theorem al_law_k19 (T : Tx K mg) : FnOk P w K mg base (L2.CX P w) 141 T.f_law_k19 T.d_law_k19 ["_law_script"] (spD K 1 (F_law_k19 T.C)) := ok_law_k19 T (al_law_draws T) (al_law_error T) (al_law_names T) (al_law_pieces T) (al_law_place_k19 T) (al_law_same_k16 T) (al_law_take T) (al_law_tree T) (al_law_written T)
end
end Wk
open PySem PySem.W PySem.Calls PyProof.Rows
set_option maxRecDepth 100000 in
set_option maxHeartbeats 0 in
theorem PySem.Challenge.cw_topiary_k19_first_error_of_a_text_holds : PySem.Challenge.rw_topiary_k19_first_error_of_a_text.Holds := by
  w_on; o_law
  refine HandSHeadRun.head_any (r := OpenLaw.row PySem.Challenge.rw_topiary_k19_first_error_of_a_text) (q := view (OpenLaw.row PySem.Challenge.rw_topiary_k19_first_error_of_a_text).prog [28]) (H := Wk.hd_k) (ob := Wk.hd_ob) (M := 9000) (loose := Wk.hd_loose) (d := HandSHeadRun.topDef (OpenLaw.row PySem.Challenge.rw_topiary_k19_first_error_of_a_text).prog 28) (kwd := []) Wk.hd_ob_eq
    (by kernel_rfl) (fun s => by kernel_rfl) Wk.hd_run (by kernel_rfl) (by kernel_rfl) (by kernel_rfl) (by rfl) (by first | assumption | decide +kernel) (by decide +kernel) ⟨rfl, rfl, rfl, rfl, rfl, by decide +kernel⟩ ?hw ?hc
  case hw => w_witness2
  case hc =>
    refine Dl.walkE (l := PySem.Challenge.rw_topiary_k19_first_error_of_a_text) (k := 141) (x := "_law_script") rfl (by kernel_rfl) ⟨rfl, by decide, by decide⟩ ?F
    intro w mg fa h Y G hmg0
    obtain ⟨K, KX, c⟩ := Y
    have hmg : mg ("law" : PySem.Str) = some (.ref fa) := by
      have e : (HandSHeadRun.topDef (OpenLaw.row PySem.Challenge.rw_topiary_k19_first_error_of_a_text).prog 28).name = ("law" : PySem.Str) := by kernel_rfl
      rw [← e]
      exact hmg0
    obtain ⟨T, eT⟩ := Wk.tx KX G c
    have e := hmg.symm.trans T.m_law_k19
    cases e
    exact ⟨K, T.d_law_k19, KX, Dl.binds_one T.F_law_k19 (fun _ _ _ _ _ _ us hl => match us, hl with | [_], _ => rfl), fun base _ _ => L2.FnOk.imp (Wk.al_law_k19 T) (Dl.law_sp (Tp.law_k19_true T.C))⟩
end
