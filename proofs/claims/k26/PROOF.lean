import PyProof.Rows.All
import Wide.All
import OpenK.AllK
import Wide.FinOn
import HandS.ForMost
import HandS.ForExc
import HandS.IsInst
import HandS.DictComp
import HandS.Zip
import HandS.TupAny
import HandS.Wide
import HandS.FStr
import HandS.Small
import KE.DataAny
import KE.DataFind
import KE.SortData
import KE.SortKeyHeap
import PyProof.SeqIndex
import HandS.TupLe
import HandS.TupLen
import HandS.Conv
import HandS.Strs
import HandS.Style
import HandS.TupMul
import KE.DataMinMax
import PySem.Challenge.RW_wirehouse_k26_whole_known_finds
set_option Elab.async false
set_option linter.all false
set_option maxRecDepth 100000
namespace VM
open PySem L2
/-- whether p holds, told so that nothing unfolds it -/
theorem opq_ex (p : Prop) : ∃ b : Bool, b = true ↔ p := by classical exact ⟨decide p, by simp⟩
noncomputable def opq (p : Prop) : Bool := Classical.choose (opq_ex p)
theorem opq_iff {p : Prop} : opq p = true ↔ p := Classical.choose_spec (opq_ex p)
/-- no more than the machine bears -/
noncomputable def szB (n : Nat) : Bool := opq (n ≤ sizeLine)
theorem szB_iff {n : Nat} : szB n = true ↔ n ≤ sizeLine := opq_iff
/-- values as data: what is never changed is a tree; what is changed is a number of a cell -/
inductive W where
  | non | bl (b : Bool) | int (i : Int) | str (x : Str)
  | tup (xs : List W) | lst (xs : List W)
  | dK (kvs : List (Key × W)) | dT (kvs : List (List Key × W))
  | ref (n : Nat) | scr (ns : List Int) | kt (xs : List W)
structure G where
  K : PySem.W.Frag
  cl : Str → Addr
  /-- what no value leads to: lists in the making -/
  z : List Addr
abbrev G.wz (g : G) (z : List Addr) : G := ⟨g.K, g.cl, z⟩
def Out (g : G) (ρ : List Addr) (a : Addr) : Prop := a ∉ ρ ∧ a ∉ g.z
def KL (K : PySem.W.Frag) (a : Addr) (xs : List V) : Prop := ∃ (o : Obj) (its : Array Value) (n : Nat), K.lookup a = some o ∧ o.cls = .type "list" ∧ o.dict = none ∧ o.data = .seq its n ∧ its.size ≤ sizeLine ∧ Vals xs its.toList
def KT (K : PySem.W.Frag) (a : Addr) (xs : List V) : Prop := ∃ (o : Obj) (its : Array Value) (n : Nat), K.lookup a = some o ∧ o.cls = .type "tuple" ∧ o.data = .seq its n ∧ its.size ≤ sizeLine ∧ Vals xs its.toList
section
variable (g : G) (ρ : List Addr) (H : Hp)
mutual
def Rp : W → V → Prop
  | .non, v => v = .non
  | .bl b, v => v = .bl b
  | .int i, v => v = .int i
  | .str x, v => v = .str x ∧ x.length ≤ sizeLine
  | .tup ws, v => ∃ a vs, v = .ref a ∧ H a = some (.tup vs) ∧ Out g ρ a ∧ Rps ws vs ∧ ws.length ≤ sizeLine
  | .kt ws, v => ∃ a vs, v = .ref a ∧ KT g.K a vs ∧ Rps ws vs ∧ ws.length ≤ sizeLine
  | .lst ws, v => ∃ a vs, v = .ref a ∧ H a = some (.lst vs) ∧ Out g ρ a ∧ Rps ws vs ∧ ws.length ≤ sizeLine
  | .dK kvs, v => ∃ a us, v = .ref a ∧ Rd H a (.dK us) ∧ Out g ρ a ∧ RpK kvs us ∧ kvs.length ≤ sizeLine
  | .dT kvs, v => ∃ a us, v = .ref a ∧ Rd H a (.dT us) ∧ Out g ρ a ∧ RpT kvs us ∧ kvs.length ≤ sizeLine
  | .ref n, v => ∃ a, v = .ref a ∧ ρ[n]? = some a
  | .scr ns, v => ∃ a, v = .ref a ∧ ((Rd H a (.lst (ns.map V.int)) ∧ Out g ρ a) ∨ KL g.K a (ns.map V.int)) ∧ ns.length ≤ sizeLine
def Rps : List W → List V → Prop
  | [], vs => vs = []
  | w :: ws, vs => ∃ v r, vs = v :: r ∧ Rp w v ∧ Rps ws r
def RpK : List (Key × W) → List (Key × V) → Prop
  | [], us => us = []
  | (k, w) :: r, us => ∃ v us', us = (k, v) :: us' ∧ Rp w v ∧ RpK r us'
def RpT : List (List Key × W) → List (List Key × V) → Prop
  | [], us => us = []
  | (k, w) :: r, us => ∃ v us', us = (k, v) :: us' ∧ Rp w v ∧ RpT r us'
end
def RpF : List (Str × W) → List (Str × V) → Prop
  | [], us => us = []
  | (k, w) :: r, us => ∃ v us', us = (k, v) :: us' ∧ Rp g ρ H w v ∧ RpF r us'
end
inductive Cell where
  | lst (xs : List W) | dK (kvs : List (Key × W)) | dT (kvs : List (List Key × W))
  | lkL (xs : List W) | lkK (kvs : List (Key × W)) | lkT (kvs : List (List Key × W))
  | ins (c : Str) (fs : List (Str × W))
abbrev Store := List Cell
abbrev L := List (Option W)
inductive Res (α : Type) where
  | ok (a : α) (st : Store) | exc (c : Str) (arg : Option W) (st : Store) | fail
def Res.bind {α β : Type} (r : Res α) (k : α → Store → Res β) : Res β := match r with
  | .ok a st => k a st
  | .exc c x st => .exc c x st
  | .fail => .fail
@[simp] theorem Res.bind_ok {α β : Type} (a : α) (st : Store) (k : α → Store → Res β) : (Res.ok a st).bind k = k a st := rfl
@[simp] theorem Res.bind_exc {α β : Type} (c x st) (k : α → Store → Res β) : (Res.exc c x st).bind k = .exc c x st := rfl
@[simp] theorem Res.bind_fail {α β : Type} (k : α → Store → Res β) : (Res.fail).bind k = .fail := rfl
def CellRp (g : G) (ρ : List Addr) (H : Hp) (a : Addr) : Cell → Prop
  | .lst ws => ∃ vs, H a = some (.lst vs) ∧ Rps g ρ H ws vs ∧ ws.length ≤ sizeLine
  | .lkL ws => ∃ vs, H a = some (.lst vs) ∧ Rps g ρ H ws vs ∧ ws.length ≤ sizeLine
  | .dK kvs => ∃ us, H a = some (.dK us) ∧ RpK g ρ H kvs us ∧ kvs.length ≤ sizeLine
  | .dT kvs => ∃ us, H a = some (.dT us) ∧ RpT g ρ H kvs us ∧ kvs.length ≤ sizeLine
  | .lkK kvs => ∃ us, Rd H a (.dK us) ∧ RpK g ρ H kvs us ∧ kvs.length ≤ sizeLine
  | .lkT kvs => ∃ us, Rd H a (.dT us) ∧ RpT g ρ H kvs us ∧ kvs.length ≤ sizeLine
  | .ins c fs => ∃ dx us, H a = some (.ins (g.cl c) dx us) ∧ RpF g ρ H fs us
structure RS (g : G) (ρ : List Addr) (H : Hp) (st : Store) : Prop where
  len : ρ.length = st.length
  nd : ρ.Nodup
  cell : ∀ (n : Nat) (a : Addr) (c : Cell), ρ[n]? = some a → st[n]? = some c → CellRp g ρ H a c
  hid : ∀ a ∈ g.z, H a ≠ none ∧ a ∉ ρ
structure RL (g : G) (ρ : List Addr) (H : Hp) (ls : L) (σ : St) : Prop where
  len : ls.length = σ.length
  at_ : ∀ (i : Nat) (w : W), ls[i]? = some (some w) → ∃ v, σ[i]? = some (some v) ∧ Rp g ρ H w v
structure Nxt (ρ : List Addr) (H : Hp) (ρ' : List Addr) (H' : Hp) : Prop where
  pre : ∃ t, ρ' = ρ ++ t
  keep : ∀ a o, H a = some o → a ∉ ρ → H' a = some o
  new : ∀ a, a ∈ ρ' → a ∉ ρ → H a = none
  dom : ∀ a, H' a = none → H a = none
theorem Nxt.refl {ρ H} : Nxt ρ H ρ H := ⟨⟨[], by simp⟩, fun _ _ h _ => h, fun _ h h' => absurd h h', fun _ h => h⟩
theorem Nxt.trans {ρ H ρ1 H1 ρ2 H2} (a : Nxt ρ H ρ1 H1) (b : Nxt ρ1 H1 ρ2 H2) : Nxt ρ H ρ2 H2 := by
  obtain ⟨t, e⟩ := a.pre
  obtain ⟨t', e'⟩ := b.pre
  refine ⟨⟨t ++ t', by rw [e', e, List.append_assoc]⟩, fun c o h n => ?_, fun c h n => ?_, fun c h => a.dom c (b.dom c h)⟩
  · refine b.keep c o (a.keep c o h n) fun m => ?_
    have := a.new c m n
    rw [h] at this; cases this
  · by_cases m : c ∈ ρ1
    · exact a.new c m n
    · exact a.dom c (b.new c h m)
theorem Nxt.alloc {ρ H p o} (h : H p = none) : Nxt ρ H ρ (upd H p o) :=
  ⟨⟨[], by simp⟩, fun a u e _ => by rw [upd_ne (ne_of_none e h)]; exact e, fun _ m n => absurd m n, fun a e => by
    by_cases q : a = p
    · subst q; exact h
    · rwa [upd_ne q] at e⟩
theorem Nxt.cell {ρ H p o} (h : H p = none) : Nxt ρ H (ρ ++ [p]) (upd H p o) :=
  ⟨⟨[p], rfl⟩, fun a u e _ => by rw [upd_ne (ne_of_none e h)]; exact e, fun a m n => by
    rcases List.mem_append.mp m with m | m
    · exact absurd m n
    · simp at m; subst m; exact h, fun a e => by
    by_cases q : a = p
    · subst q; exact h
    · rwa [upd_ne q] at e⟩
theorem Nxt.write {ρ H a o} {n : Nat} (h : ρ[n]? = some a) (h' : (H a).isSome) : Nxt ρ H ρ (upd H a o) :=
  ⟨⟨[], by simp⟩, fun b u e m => by rw [upd_ne (fun q => m (by rw [q]; exact List.mem_of_getElem? h))]; exact e, fun _ m n => absurd m n, fun b e => by
    by_cases q : b = a
    · subst q; rw [upd_same] at e; cases e
    · rwa [upd_ne q] at e⟩
theorem Nxt.rd {ρ H ρ' H' a u} (n : Nxt ρ H ρ' H') (h : Rd H a u) (m : a ∉ ρ) : Rd H' a u := by
  rcases h with h | ⟨o, h⟩
  · exact .inl (n.keep _ _ h m)
  · exact .inr ⟨o, n.keep _ _ h m⟩
theorem Nxt.out {ρ H ρ' H' a} (n : Nxt ρ H ρ' H') (h : H a ≠ none) (m : a ∉ ρ) : a ∉ ρ' := fun q => h (n.new a q m)
theorem Nxt.outO {g : G} {ρ H ρ' H' a} (n : Nxt ρ H ρ' H') (h : H a ≠ none) (m : Out g ρ a) : Out g ρ' a := ⟨n.out h m.1, m.2⟩
theorem rd_ne {H : Hp} {a u} (h : Rd H a u) : H a ≠ none := by
  rcases h with h | ⟨o, h⟩ <;> rw [h] <;> simp
section
variable {g : G} {ρ ρ' : List Addr} {H H' : Hp} (n : Nxt ρ H ρ' H')
include n
mutual
theorem Rp.mono : ∀ (w : W) (v : V), Rp g ρ H w v → Rp g ρ' H' w v
  | .non, _, h => h
  | .bl _, _, h => h
  | .int _, _, h => h
  | .str _, _, h => h
  | .tup ws, v, ⟨a, vs, e, h, m, r, z⟩ => ⟨a, vs, e, n.keep _ _ h m.1, n.outO (by rw [h]; simp) m, Rps.mono ws vs r, z⟩
  | .kt ws, v, ⟨a, vs, e, h, r, z⟩ => ⟨a, vs, e, h, Rps.mono ws vs r, z⟩
  | .lst ws, v, ⟨a, vs, e, h, m, r, z⟩ => ⟨a, vs, e, n.keep _ _ h m.1, n.outO (by rw [h]; simp) m, Rps.mono ws vs r, z⟩
  | .dK kvs, v, ⟨a, us, e, h, m, r, z⟩ => ⟨a, us, e, n.rd h m.1, n.outO (rd_ne h) m, RpK.mono kvs us r, z⟩
  | .dT kvs, v, ⟨a, us, e, h, m, r, z⟩ => ⟨a, us, e, n.rd h m.1, n.outO (rd_ne h) m, RpT.mono kvs us r, z⟩
  | .ref k, v, ⟨a, e, h⟩ => ⟨a, e, by
    obtain ⟨t, et⟩ := n.pre
    rw [et, List.getElem?_append_left (List.getElem?_eq_some_iff.mp h).1]; exact h⟩
  | .scr ns, v, ⟨a, e, h, z⟩ => ⟨a, e, h.imp (fun ⟨h, m⟩ => ⟨n.rd h m.1, n.outO (rd_ne h) m⟩) id, z⟩
theorem Rps.mono : ∀ (ws : List W) (vs : List V), Rps g ρ H ws vs → Rps g ρ' H' ws vs
  | [], _, h => h
  | w :: ws, _, ⟨v, r, e, h1, h2⟩ => ⟨v, r, e, Rp.mono w v h1, Rps.mono ws r h2⟩
theorem RpK.mono : ∀ (ws : List (Key × W)) (vs : List (Key × V)), RpK g ρ H ws vs → RpK g ρ' H' ws vs
  | [], _, h => h
  | (k, w) :: ws, _, ⟨v, r, e, h1, h2⟩ => ⟨v, r, e, Rp.mono w v h1, RpK.mono ws r h2⟩
theorem RpT.mono : ∀ (ws : List (List Key × W)) (vs : List (List Key × V)), RpT g ρ H ws vs → RpT g ρ' H' ws vs
  | [], _, h => h
  | (k, w) :: ws, _, ⟨v, r, e, h1, h2⟩ => ⟨v, r, e, Rp.mono w v h1, RpT.mono ws r h2⟩
end
theorem RpF.mono : ∀ (ws : List (Str × W)) (vs : List (Str × V)), RpF g ρ H ws vs → RpF g ρ' H' ws vs
  | [], _, h => h
  | (k, w) :: ws, _, ⟨v, r, e, h1, h2⟩ => ⟨v, r, e, Rp.mono n w v h1, RpF.mono ws r h2⟩
theorem RL.mono {ls : L} {σ : St} (h : RL g ρ H ls σ) : RL g ρ' H' ls σ := ⟨h.len, fun i w e => let ⟨v, e1, r⟩ := h.at_ i w e; ⟨v, e1, Rp.mono n w v r⟩⟩
theorem CellRp.mono {a : Addr} {c : Cell} (e : H' a = H a) (h : CellRp g ρ H a c) : CellRp g ρ' H' a c := by
  cases c with
  | lst ws => obtain ⟨vs, h1, h2, z⟩ := h; exact ⟨vs, e.trans h1, Rps.mono n _ _ h2, z⟩
  | lkL ws => obtain ⟨vs, h1, h2, z⟩ := h; exact ⟨vs, e.trans h1, Rps.mono n _ _ h2, z⟩
  | dK ws => obtain ⟨vs, h1, h2, z⟩ := h; exact ⟨vs, e.trans h1, RpK.mono n _ _ h2, z⟩
  | dT ws => obtain ⟨vs, h1, h2, z⟩ := h; exact ⟨vs, e.trans h1, RpT.mono n _ _ h2, z⟩
  | lkK ws => obtain ⟨vs, h1, h2, z⟩ := h; exact ⟨vs, h1.imp e.trans (fun ⟨o, q⟩ => ⟨o, e.trans q⟩), RpK.mono n _ _ h2, z⟩
  | lkT ws => obtain ⟨vs, h1, h2, z⟩ := h; exact ⟨vs, h1.imp e.trans (fun ⟨o, q⟩ => ⟨o, e.trans q⟩), RpT.mono n _ _ h2, z⟩
  | ins c fs => obtain ⟨dx, us, h1, h2⟩ := h; exact ⟨dx, us, e.trans h1, RpF.mono n _ _ h2⟩
end
section
variable {g : G} {ρ ρ' : List Addr} {H H' : Hp} {st : Store}
theorem CellRp.ne {a c} (h : CellRp g ρ H a c) : H a ≠ none := by
  cases c with
  | lst ws => obtain ⟨vs, h1, _⟩ := h; rw [h1]; simp
  | lkL ws => obtain ⟨vs, h1, _⟩ := h; rw [h1]; simp
  | dK ws => obtain ⟨vs, h1, _⟩ := h; rw [h1]; simp
  | dT ws => obtain ⟨vs, h1, _⟩ := h; rw [h1]; simp
  | lkK ws => obtain ⟨vs, h1, _⟩ := h; exact rd_ne h1
  | lkT ws => obtain ⟨vs, h1, _⟩ := h; exact rd_ne h1
  | ins c fs => obtain ⟨dx, us, h1, h2⟩ := h; rw [h1]; simp
theorem RS.get (rs : RS g ρ H st) {n : Nat} {a : Addr} (h : ρ[n]? = some a) : ∃ c, st[n]? = some c ∧ CellRp g ρ H a c := by
  have hl : n < st.length := by rw [← rs.len]; exact (List.getElem?_eq_some_iff.mp h).1
  exact ⟨st[n], by simp [hl], rs.cell n a _ h (by simp [hl])⟩
theorem RS.adr (rs : RS g ρ H st) {n : Nat} {c : Cell} (h : st[n]? = some c) : ∃ a, ρ[n]? = some a ∧ CellRp g ρ H a c := by
  have hl : n < ρ.length := by rw [rs.len]; exact (List.getElem?_eq_some_iff.mp h).1
  exact ⟨ρ[n], by simp [hl], rs.cell n _ _ (by simp [hl]) h⟩
theorem RS.free (rs : RS g ρ H st) {p} (h : H p = none) : p ∉ ρ := fun m => by
  obtain ⟨n, hn, e⟩ := List.mem_iff_getElem.mp m
  obtain ⟨c, _, hc⟩ := rs.get (n := n) (a := p) (by simp [hn, e])
  exact hc.ne h
theorem RS.freeO (rs : RS g ρ H st) {p} (h : H p = none) : Out g ρ p := ⟨rs.free h, fun m => (rs.hid p m).1 h⟩
theorem upd_some {p : Addr} {o : HO} {a : Addr} (h : H a ≠ none) : upd H p o a ≠ none := by
  by_cases q : a = p
  · subst q; rw [upd_same]; simp
  · rwa [upd_ne q]
/-- a new object that is never changed -/
theorem RS.alloc (rs : RS g ρ H st) {p o} (h : H p = none) : RS g ρ (upd H p o) st :=
  ⟨rs.len, rs.nd, (fun n a c h1 h2 => (rs.cell n a c h1 h2).mono (Nxt.alloc h) (upd_ne fun e => rs.free h (e ▸ List.mem_of_getElem? h1))), fun a m => ⟨upd_some (rs.hid a m).1, (rs.hid a m).2⟩⟩
theorem RS.push (rs : RS g ρ H st) {p o c} (h : H p = none) (hc : CellRp g (ρ ++ [p]) (upd H p o) p c) : RS g (ρ ++ [p]) (upd H p o) (st ++ [c]) := by
  refine ⟨by simp [rs.len], ?_, fun n a d h1 h2 => ?_, fun a m => ⟨upd_some (rs.hid a m).1, fun q => ?_⟩⟩
  rotate_left 2
  · rcases List.mem_append.mp q with q | q
    · exact (rs.hid a m).2 q
    · simp at q; subst q; exact (rs.hid _ m).1 h
  · rw [List.nodup_append]
    exact ⟨rs.nd, by simp, fun a ha b hb => by simp at hb; subst hb; rintro rfl; exact rs.free h ha⟩
  · by_cases hn : n < ρ.length
    · rw [List.getElem?_append_left hn] at h1
      rw [List.getElem?_append_left (by rw [← rs.len]; exact hn)] at h2
      exact (rs.cell n a d h1 h2).mono (Nxt.cell h) (upd_ne fun e => rs.free h (e ▸ List.mem_of_getElem? h1))
    · have e : n = ρ.length := by
        have := (List.getElem?_eq_some_iff.mp h1).1
        simp at this; omega
      subst e
      rw [List.getElem?_append_right (Nat.le_refl _)] at h1
      rw [rs.len, List.getElem?_append_right (Nat.le_refl _)] at h2
      simp at h1 h2
      subst h1; subst h2; exact hc
theorem RS.write (rs : RS g ρ H st) {n : Nat} {a : Addr} {o : HO} {c : Cell} (ha : ρ[n]? = some a) (hc : CellRp g ρ (upd H a o) a c) : RS g ρ (upd H a o) (st.set n c) := by
  obtain ⟨c0, e0, h0⟩ := rs.get ha
  have nx : Nxt ρ H ρ (upd H a o) := Nxt.write ha (by cases q : H a with | none => exact absurd q h0.ne | some _ => rfl)
  refine ⟨by simp [rs.len], rs.nd, fun m b d h1 h2 => ?_, fun a m => ⟨upd_some (rs.hid a m).1, (rs.hid a m).2⟩⟩
  by_cases hm : m = n
  · subst hm
    rw [ha] at h1; cases h1
    rw [List.getElem?_set_self (List.getElem?_eq_some_iff.mp e0).1] at h2
    cases h2; exact hc
  · rw [List.getElem?_set_ne (Ne.symm hm)] at h2
    refine (rs.cell m b d h1 h2).mono nx (upd_ne fun e => hm ?_)
    subst e
    obtain ⟨l1, e1⟩ := List.getElem?_eq_some_iff.mp h1
    obtain ⟨l2, e2⟩ := List.getElem?_eq_some_iff.mp ha
    exact (List.getElem_inj rs.nd).mp (e1.trans e2.symm)
theorem Rps.length : ∀ {ws : List W} {vs : List V}, Rps g ρ H ws vs → ws.length = vs.length
  | [], _, h => by cases h; rfl
  | _ :: _, _, ⟨v, r, e, _, h⟩ => by rw [e]; simp [Rps.length h]
theorem Rps.get : ∀ {ws : List W} {vs : List V} {i : Nat} {w : W}, Rps g ρ H ws vs → ws[i]? = some w → ∃ v, vs[i]? = some v ∧ Rp g ρ H w v
  | [], _, _, _, _, e => by simp at e
  | w :: ws, _, 0, x, ⟨v, r, e, h1, h2⟩, q => by simp at q; subst q; exact ⟨v, by rw [e]; rfl, h1⟩
  | w :: ws, _, i + 1, x, ⟨v, r, e, h1, h2⟩, q => by
    obtain ⟨y, e1, r1⟩ := Rps.get (i := i) (w := x) h2 (by simpa using q)
    exact ⟨y, by rw [e]; simpa using e1, r1⟩
theorem Rps.getV : ∀ {ws : List W} {vs : List V} {i : Nat} {v : V}, Rps g ρ H ws vs → vs[i]? = some v → ∃ w, ws[i]? = some w ∧ Rp g ρ H w v := by
  intro ws vs i v h e
  have hl : i < ws.length := by rw [h.length]; exact (List.getElem?_eq_some_iff.mp e).1
  obtain ⟨y, e1, r1⟩ := h.get (i := i) (w := ws[i]) (by simp [hl])
  rw [e] at e1; cases e1
  exact ⟨ws[i], by simp [hl], r1⟩
theorem Rps.append : ∀ {ws us : List W} {vs xs : List V}, Rps g ρ H ws vs → Rps g ρ H us xs → Rps g ρ H (ws ++ us) (vs ++ xs)
  | [], _, _, _, h, h' => by cases h; exact h'
  | _ :: _, _, _, _, ⟨v, r, e, h1, h2⟩, h' => by rw [e]; exact ⟨v, r ++ _, rfl, h1, Rps.append h2 h'⟩
theorem Rps.one {w : W} {v : V} (h : Rp g ρ H w v) : Rps g ρ H [w] [v] := ⟨v, [], rfl, h, rfl⟩
theorem Rps.drop : ∀ {ws : List W} {vs : List V} (k : Nat), Rps g ρ H ws vs → Rps g ρ H (ws.drop k) (vs.drop k)
  | _, _, 0, h => h
  | [], _, _ + 1, h => by cases h; rfl
  | _ :: _, _, k + 1, ⟨v, r, e, h1, h2⟩ => by rw [e]; exact Rps.drop k h2
theorem Rps.take : ∀ {ws : List W} {vs : List V} (k : Nat), Rps g ρ H ws vs → Rps g ρ H (ws.take k) (vs.take k)
  | _, _, 0, _ => rfl
  | [], _, _ + 1, h => by cases h; rfl
  | _ :: _, _, k + 1, ⟨v, r, e, h1, h2⟩ => by rw [e]; exact ⟨v, r.take k, rfl, h1, Rps.take k h2⟩
theorem Rps.set : ∀ {ws : List W} {vs : List V} {w : W} {v : V} (k : Nat), Rps g ρ H ws vs → Rp g ρ H w v → Rps g ρ H (ws.set k w) (vs.set k v)
  | [], _, _, _, _, h, _ => by cases h; rfl
  | _ :: _, _, _, _, 0, ⟨v, r, e, h1, h2⟩, h' => by rw [e]; exact ⟨_, r, rfl, h', h2⟩
  | _ :: _, _, _, _, k + 1, ⟨v, r, e, h1, h2⟩, h' => by rw [e]; exact ⟨v, r.set k _, rfl, h1, Rps.set k h2 h'⟩
theorem Rps.reverse : ∀ {ws : List W} {vs : List V}, Rps g ρ H ws vs → Rps g ρ H ws.reverse vs.reverse
  | [], _, h => by cases h; rfl
  | _ :: _, _, ⟨v, r, e, h1, h2⟩ => by rw [e]; simp only [List.reverse_cons]; exact Rps.append (Rps.reverse h2) (Rps.one h1)
end
end VM

set_option Elab.async false
set_option linter.all false
set_option maxRecDepth 100000
namespace VM
noncomputable section
open PySem L2
/-! ### the end of a computation -/
def Res.wp {α : Type} (r : Res α) (P : α → Store → Prop) (X : Str → Option W → Store → Prop) : Prop := match r with
  | .ok a st => P a st
  | .exc c x st => X c x st
  | .fail => False
def XPost (g : G) (E : XK) (ρ : List Addr) (H : Hp) (c : Str) (arg : Option W) (st' : Store) : Prop :=
  ∀ ρ' H', Nxt ρ H ρ' H' → RS g ρ' H' st' → match arg with
    | none => E (.ref (g.cl c)) none H'
    | some w => ∀ d v, H' d = some (.xd [("name", v)]) → Rp g ρ' H' w v → E (.ref (g.cl c)) (some d) H'
theorem XPost.mono {g E ρ H ρ1 H1 c arg st} (n : Nxt ρ H ρ1 H1) (h : XPost g E ρ H c arg st) : XPost g E ρ1 H1 c arg st := fun ρ' H' n' rs => h ρ' H' (n.trans n') rs
abbrev RelT (α β : Type) := List Addr → Hp → α → β → Prop
def post {α β : Type} (g : G) (R : RelT α β) (ρ : List Addr) (H : Hp) (Q : β → Hp → Prop) (a : α) (st' : Store) : Prop :=
  ∀ b ρ' H', Nxt ρ H ρ' H' → RS g ρ' H' st' → R ρ' H' a b → Q b H'
theorem post.mono {α β : Type} {g : G} {R : RelT α β} {ρ H ρ1 H1} {Q : β → Hp → Prop} {a st'} (n : Nxt ρ H ρ1 H1) (h : post g R ρ H Q a st') : post g R ρ1 H1 Q a st' := fun b ρ' H' n' rs r => h b ρ' H' (n.trans n') rs r
def wpp {α β : Type} (g : G) (E : XK) (R : RelT α β) (ρ : List Addr) (H : Hp) (Q : β → Hp → Prop) (r : Res α) : Prop := r.wp (post g R ρ H Q) (XPost g E ρ H)
theorem wpp.mono {α β : Type} {g : G} {E : XK} {R : RelT α β} {ρ H ρ1 H1} {Q : β → Hp → Prop} {r : Res α} (n : Nxt ρ H ρ1 H1) (h : wpp g E R ρ H Q r) : wpp g E R ρ1 H1 Q r := by
  cases r with
  | ok a st => exact post.mono n h
  | exc c x st => exact XPost.mono n h
  | fail => exact h
/-- the reading of a computation -/
def Tg {α β : Type} (g : G) (E : XK) (R : RelT α β) (m : L → Store → Res α) : St → Hp → (β → Hp → Prop) → Prop := fun σ H Q =>
  ∃ ρ ls st, RL g ρ H ls σ ∧ RS g ρ H st ∧ wpp g E R ρ H Q (m ls st)
theorem Tg.mono {α β : Type} {g : G} {E : XK} {R : RelT α β} {m : L → Store → Res α} {σ H} {Q Q' : β → Hp → Prop} (h : Tg g E R m σ H Q) (hq : ∀ b H', Q b H' → Q' b H') : Tg g E R m σ H Q' := by
  obtain ⟨ρ, ls, st, rl, rs, h⟩ := h
  refine ⟨ρ, ls, st, rl, rs, ?_⟩
  cases e : m ls st with
  | ok a st1 => rw [e] at h; exact fun b ρ' H' n' rs' r => hq _ _ (h b ρ' H' n' rs' r)
  | exc c x st => rw [e] at h; exact h
  | fail => rw [e] at h; exact h
abbrev RW (g : G) : RelT W V := fun ρ H w v => Rp g ρ H w v
abbrev RWs (g : G) : RelT (List W) (List V) := fun ρ H w v => Rps g ρ H w v
abbrev RB : RelT Bool Bool := fun _ _ a b => a = b
abbrev RI : RelT (Option Int) (Option Int) := fun _ _ a b => a = b
abbrev T (g : G) (E : XK) (m : L → Store → Res W) : TE := Tg g E (RW g) m
abbrev TT' (g : G) (E : XK) (m : L → Store → Res Bool) : TT := Tg g E RB m
abbrev TA' (g : G) (E : XK) (m : L → Store → Res (List W)) : TA := Tg g E (RWs g) m
abbrev TO' (g : G) (E : XK) (m : L → Store → Res (Option Int)) : TO := Tg g E RI m
abbrev EM := L → Store → Res W
/-- the workhorse -/
theorem tg_go {α β α' β' : Type} {g : G} {E : XK} {R : RelT α β} {R2 : RelT α' β'} {ρ H ls σ st} {Q : β' → Hp → Prop} {m : L → Store → Res α} {k : α → Store → Res α'}
    (rl : RL g ρ H ls σ) (rs : RS g ρ H st) (h : wpp g E R2 ρ H Q ((m ls st).bind k)) {Q' : β → Hp → Prop}
    (hk : ∀ b H1 ρ1 st1 a, Nxt ρ H ρ1 H1 → RL g ρ1 H1 ls σ → RS g ρ1 H1 st1 → R ρ1 H1 a b → wpp g E R2 ρ1 H1 Q (k a st1) → Q' b H1) : Tg g E R m σ H Q' := by
  refine ⟨ρ, ls, st, rl, rs, ?_⟩
  cases e : m ls st with
  | ok a st1 =>
    rw [e] at h
    exact fun b ρ' H' n' rs' r => hk b H' ρ' st1 a n' (rl.mono n') rs' r (wpp.mono n' h)
  | exc c x st => rw [e] at h; exact h
  | fail => rw [e] at h; exact h
theorem PEw {X : Cx} {e : Expr} {t t' : TE} (h : PE X e t) (w : ∀ σ H Q, t' σ H Q → t σ H Q) : PE X e t' := ⟨fun pins s σ H Q I q => h.run pins s σ H Q I (w _ _ _ q)⟩
theorem PTw' {X : Cx} {e : Expr} {t t' : TT} (h : PT X e t) (w : ∀ σ H Q, t' σ H Q → t σ H Q) : PT X e t' := ⟨fun pins s σ H Q I q => h.run pins s σ H Q I (w _ _ _ q)⟩
theorem PWw {X : Cx} {e : Expr} {t t' : TT} (h : PW X e t) (w : ∀ σ H Q, t' σ H Q → t σ H Q) : PW X e t' := ⟨fun wh pins s σ H Q I q => h.run wh pins s σ H Q I (w _ _ _ q)⟩
theorem PAw {X : Cx} {e : List Expr} {t t' : TA} (h : PA X e t) (w : ∀ σ H Q, t' σ H Q → t σ H Q) : PA X e t' := ⟨fun pos pins s σ H Q I q => h.run pos pins s σ H Q I (w _ _ _ q)⟩
theorem POw {X : Cx} {e : Option Expr} {t t' : TO} (h : PO X e t) (w : ∀ σ H Q, t' σ H Q → t σ H Q) : PO X e t' := ⟨fun pins s σ H Q I q => h.run pins s σ H Q I (w _ _ _ q)⟩
section
variable {g : G} {E : XK} {X : Cx}
/-! ### names, constants -/
def vM (i : Nat) : EM := fun ls st => match ls[i]? with | some (some w) => .ok w st | _ => .fail
@[simp] def cM (w : W) : EM := fun _ st => .ok w st
theorem r_v (i : Nat) {x : Str} {pos : Pos} (hN : X.N[i]? = some x := by rfl) (hv : Vis X.env.scope x := by first | exact Or.inl rfl | exact Or.inr (Or.inl rfl) | exact Or.inr (Or.inr rfl)) (hd : (x == ("__debug__" : Str)) = false := by decide)
    (hcd : (x == ("__classdict__" : Str)) = false := by decide) : PE X (.Name x pos) (T g E (vM i)) := PEw (pe_var hN hv hd hcd) fun σ H Q ⟨ρ, ls, st, rl, rs, h⟩ => by
  unfold vM at h
  split at h
  · rename_i w e
    obtain ⟨v, e1, r⟩ := rl.at_ i w e
    exact ⟨v, e1, h v ρ H .refl rs r⟩
  · exact h.elim
theorem T_c {w : W} {v : V} (hr : ∀ ρ H, Rp g ρ H w v) : ∀ σ H Q, T g E (cM w) σ H Q → tC v σ H Q := fun σ H Q ⟨ρ, ls, st, rl, rs, h⟩ => h v ρ H .refl rs (hr ρ H)
theorem r_int {i j pos} : PE X (.Constant (.int i) j pos) (T g E (cM (.int i))) := PEw pe_int (T_c fun _ _ => rfl)
theorem r_bl {b j pos} : PE X (.Constant (.bool b) j pos) (T g E (cM (.bl b))) := PEw pe_bl (T_c fun _ _ => rfl)
theorem r_non {j pos} : PE X (.Constant .none j pos) (T g E (cM .non)) := PEw pe_non (T_c fun _ _ => rfl)
theorem r_str {x j pos} (h : x.length ≤ sizeLine := by first | decide +kernel) : PE X (.Constant (.str x) j pos) (T g E (cM (.str x))) := PEw pe_str (T_c fun _ _ => ⟨rfl, h⟩)
theorem r_glob {x : Str} {w : W} {v : V} {u : Value} {pos : Pos} (hg : Gl X x) (hm : X.mg x = some u) (r : RelV v u) (hr : ∀ ρ H, Rp g ρ H w v) (hd : (x == ("__debug__" : Str)) = false := by decide) : PE X (.Name x pos) (T g E (cM w)) :=
  PEw (pe_glob hg hm r hd) (T_c hr)
theorem r_bltn {x : Str} {n : String} {pos : Pos} {t : TE} (h : PE X (.Name x pos) t) : PE X (.Name x pos) t := h
/-! ### argument lists -/
@[simp] def aN : L → Store → Res (List W) := fun _ st => .ok [] st
@[simp] def aC (m : EM) (r : L → Store → Res (List W)) : L → Store → Res (List W) := fun ls st => (m ls st).bind fun w st1 => (r ls st1).bind fun ws st2 => .ok (w :: ws) st2
theorem a_nil : PA X [] (TA' g E aN) := PAw pa_nil fun σ H Q ⟨ρ, ls, st, rl, rs, h⟩ => h [] ρ H .refl rs rfl
theorem a_cons {e : Expr} {es : List Expr} {m r} (h1 : PE X e (T g E m)) (h2 : PA X es (TA' g E r)) (hs : starEach (e :: es) X.env = (false, eval e X.env) :: starEach es X.env := by rfl) : PA X (e :: es) (TA' g E (aC m r)) :=
  PAw (pa_cons h1 h2 hs) fun σ H Q ⟨ρ, ls, st, rl, rs, h⟩ => tg_go (R2 := RWs g) rl rs h fun v H1 ρ1 st1 w n1 rl1 rs1 r1 h1 => tg_go (R2 := RWs g) rl1 rs1 h1 fun vs H2 ρ2 st2 ws n2 rl2 rs2 r2 h2 =>
    h2 (v :: vs) ρ2 H2 .refl rs2 ⟨v, vs, rfl, Rp.mono n2 _ _ r1, r2⟩
@[simp] def tupM (m : L → Store → Res (List W)) : EM := fun ls st => (m ls st).bind fun ws st1 => if szB ws.length = true then .ok (.tup ws) st1 else .fail
theorem wpp_sz {α β : Type} {R : RelT α β} {ρ H} {Q : β → Hp → Prop} {n : Nat} {r : Res α} (h : wpp g E R ρ H Q (if szB n = true then r else .fail)) : n ≤ sizeLine ∧ wpp g E R ρ H Q r := by
  split at h
  · exact ⟨szB_iff.mp (by assumption), h⟩
  · exact h.elim
theorem wpp_if {α β : Type} {R : RelT α β} {ρ H} {Q : β → Hp → Prop} {c : Prop} [Decidable c] {r : Res α} (h : wpp g E R ρ H Q (if c then r else .fail)) : c ∧ wpp g E R ρ H Q r := by
  split at h
  · exact ⟨by assumption, h⟩
  · exact h.elim
/-- a new tuple, a new list, a new cell -/
theorem new_tup {ρ H st Q ws vs p} (rs : RS g ρ H st) (r : Rps g ρ H ws vs) (hl : ws.length ≤ sizeLine) (hp : H p = none) (h : wpp g E (RW g) ρ H Q (.ok (.tup ws) st)) : Q (.ref p) (upd H p (.tup vs)) :=
  h _ ρ _ (.alloc hp) (rs.alloc hp) ⟨p, vs, rfl, upd_same, rs.freeO hp, Rps.mono (.alloc hp) _ _ r, hl⟩
theorem new_lst {ρ H st Q ws vs p} (rs : RS g ρ H st) (r : Rps g ρ H ws vs) (hl : ws.length ≤ sizeLine) (hp : H p = none) (h : wpp g E (RW g) ρ H Q (.ok (.lst ws) st)) : Q (.ref p) (upd H p (.lst vs)) :=
  h _ ρ _ (.alloc hp) (rs.alloc hp) ⟨p, vs, rfl, upd_same, rs.freeO hp, Rps.mono (.alloc hp) _ _ r, hl⟩
theorem new_cell {ρ H st Q ws vs p} (rs : RS g ρ H st) (r : Rps g ρ H ws vs) (hl : ws.length ≤ sizeLine) (hp : H p = none) (h : wpp g E (RW g) ρ H Q (.ok (.ref st.length) (st ++ [.lst ws]))) : Q (.ref p) (upd H p (.lst vs)) :=
  h _ (ρ ++ [p]) _ (.cell hp) (rs.push hp ⟨vs, upd_same, Rps.mono (.cell hp) _ _ r, hl⟩) ⟨p, rfl, by rw [← rs.len]; simp⟩
theorem r_tup {es : List Expr} {x1 pos m} (h : PA X es (TA' g E m)) : PE X (.Tuple es x1 pos) (T g E (tupM m)) := PEw (pe_tup h) fun σ H Q ⟨ρ, ls, st, rl, rs, h⟩ =>
  tg_go (R2 := RW g) rl rs h fun vs H1 ρ1 st1 ws n1 rl1 rs1 r1 h1 => by
    obtain ⟨hl, h1⟩ := wpp_sz h1
    exact ⟨by rw [← r1.length]; exact hl, fun p hp => new_tup rs1 r1 hl hp h1⟩
/-- a new list: a value, or a cell -/
def newL (c : Bool) (xs : List W) (st : Store) : Res W := match c with | false => .ok (.lst xs) st | true => .ok (.ref st.length) (st ++ [.lst xs])
@[simp] theorem newL_f (xs st) : newL false xs st = .ok (.lst xs) st := rfl
@[simp] theorem newL_t (xs st) : newL true xs st = .ok (.ref st.length) (st ++ [.lst xs]) := rfl
theorem new_L {c : Bool} {ρ H st Q ws vs p} (rs : RS g ρ H st) (r : Rps g ρ H ws vs) (hl : ws.length ≤ sizeLine) (hp : H p = none) (h : wpp g E (RW g) ρ H Q (newL c ws st)) : Q (.ref p) (upd H p (.lst vs)) := by
  cases c with
  | false => exact new_lst rs r hl hp h
  | true => exact new_cell rs r hl hp h
@[simp] def lstM (c : Bool) (m : L → Store → Res (List W)) : EM := fun ls st => (m ls st).bind fun ws st1 => if szB ws.length = true then newL c ws st1 else .fail
theorem r_lst (c : Bool) {es : List Expr} {pos m} (h : PA X es (TA' g E m)) : PE X (.List es pos) (T g E (lstM c m)) := PEw (pe_lst h) fun σ H Q ⟨ρ, ls, st, rl, rs, h⟩ =>
  tg_go (R2 := RW g) rl rs h fun vs H1 ρ1 st1 ws n1 rl1 rs1 r1 h1 => by
    obtain ⟨hl, h1⟩ := wpp_sz h1
    exact ⟨by rw [← r1.length]; exact hl, fun p hp => new_L rs1 r1 hl hp h1⟩
/-! ### operators -/
abbrev OM := W → W → Store → Res W
@[simp] def opM (f : OM) (ma mb : EM) : EM := fun ls st => (ma ls st).bind fun a st1 => (mb ls st1).bind fun b st2 => f a b st2
/-- r is met where f tells -/
def OkO (g : G) (E : XK) (r : R2) (f : OM) : Prop := ∀ ρ H st a b x y Q, RS g ρ H st → Rp g ρ H a x → Rp g ρ H b y → wpp g E (RW g) ρ H Q (f a b st) → r x y H Q
theorem T_op {r : R2} {f : OM} {ma mb : EM} (ok : OkO g E r f) : ∀ σ H Q, T g E (opM f ma mb) σ H Q → tOp r (T g E ma) (T g E mb) σ H Q := fun σ H Q ⟨ρ, ls, st, rl, rs, h⟩ =>
  tg_go (R2 := RW g) rl rs h fun x H1 ρ1 st1 a n1 rl1 rs1 r1 h1 => tg_go (R2 := RW g) rl1 rs1 h1 fun y H2 ρ2 st2 b n2 rl2 rs2 r2 h2 => ok ρ2 H2 st2 a b x y Q rs2 (Rp.mono n2 _ _ r1) r2 h2
theorem r_op {a b : Expr} {op : Operator} {pos ma mb f r} (ho : OpR X (binaryOp op) r) (ok : OkO g E r f) (ha : PE X a (T g E ma)) (hb : PE X b (T g E mb)) : PE X (.BinOp a op b pos) (T g E (opM f ma mb)) := PEw (pe_op ho ha hb) (T_op ok)
theorem r_cmp {a b : Expr} {op : CmpOp} {pos ma mb f r} (ho : OpR X (compareOp op) r) (ok : OkO g E r f) (ha : PE X a (T g E ma)) (hb : PE X b (T g E mb)) (hm : behindInMarks op b = false) : PE X (.Compare a [op] [b] pos) (T g E (opM f ma mb)) := PEw (pe_cmpR ho ha hb hm) (T_op ok)
/-- a computation of a bool, as a test -/
@[simp] def tstM (m : EM) : L → Store → Res Bool := fun ls st => (m ls st).bind fun w st1 => match w with | .bl b => .ok b st1 | _ => .fail
theorem T_tst {m : EM} : ∀ σ H Q, TT' g E (tstM m) σ H Q → T g E m σ H (fun x H1 => ∃ k, x = .bl k ∧ Q k H1) := fun σ H Q ⟨ρ, ls, st, rl, rs, h⟩ =>
  tg_go (R2 := RB) rl rs h fun x H1 ρ1 st1 a n1 rl1 rs1 r1 h1 => by
    cases a with
    | bl b => exact ⟨b, r1, h1 b ρ1 H1 .refl rs1 rfl⟩
    | _ => exact h1.elim
theorem t_cmp {a b : Expr} {op : CmpOp} {pos ma mb f r} (ho : OpR X (compareOp op) r) (ok : OkO g E r f) (ha : PE X a (T g E ma)) (hb : PE X b (T g E mb)) (hm : behindInMarks op b = false) : PT X (.Compare a [op] [b] pos) (TT' g E (tstM (opM f ma mb))) :=
  PTw' (pt_cmpR ho ha hb hm) fun σ H Q h => Tg.mono (T_tst σ H Q h) (fun _ _ q => q) |> fun z => by
    refine T_op ok σ H _ ?_
    exact z
theorem t_val {e : Expr} {m : EM} (h : PE X e (T g E m)) (he : ∀ whole, isTrue e X.env whole = (do let v ← whole; standAt e.pos; holding [v] (truthy v)) := by intro _; rfl) : PT X e (TT' g E (tstM m)) := PTw' (pt_val h he) T_tst
@[simp] def notT (m : L → Store → Res Bool) : L → Store → Res Bool := fun ls st => (m ls st).bind fun b st1 => .ok (!b) st1
theorem t_not {a : Expr} {pos m} (h : PT X a (TT' g E m)) : PT X (.UnaryOp .Not a pos) (TT' g E (notT m)) := PTw' (pt_not h) fun σ H Q ⟨ρ, ls, st, rl, rs, h⟩ =>
  tg_go (R2 := RB) rl rs h fun b H1 ρ1 st1 a n1 rl1 rs1 r1 h1 => h1 (!b) ρ1 H1 .refl rs1 (by rw [r1])
@[simp] def andT (a b : L → Store → Res Bool) : L → Store → Res Bool := fun ls st => (a ls st).bind fun c st1 => if c = true then b ls st1 else .ok false st1
@[simp] def orT (a b : L → Store → Res Bool) : L → Store → Res Bool := fun ls st => (a ls st).bind fun c st1 => if c = true then .ok true st1 else b ls st1
theorem w_and1 {a : Expr} {pos m} (h : PT X a (TT' g E m)) : PW X (.BoolOp .And [a] pos) (TT' g E m) := pw_and1 h
theorem w_or1 {a : Expr} {pos m} (h : PT X a (TT' g E m)) : PW X (.BoolOp .Or [a] pos) (TT' g E m) := pw_or1 h
theorem w_and {a b : Expr} {rest pos m m'} (h : PT X a (TT' g E m)) (h' : PW X (.BoolOp .And (b :: rest) pos) (TT' g E m')) : PW X (.BoolOp .And (a :: b :: rest) pos) (TT' g E (andT m m')) := PWw (pw_and h h') fun σ H Q ⟨ρ, ls, st, rl, rs, h⟩ =>
  tg_go (R2 := RB) rl rs h fun c H1 ρ1 st1 a n1 rl1 rs1 r1 h1 => by
    subst r1
    cases a with
    | true => exact ⟨ρ1, ls, st1, rl1, rs1, h1⟩
    | false => exact h1 false ρ1 H1 .refl rs1 rfl
theorem w_or {a b : Expr} {rest pos m m'} (h : PT X a (TT' g E m)) (h' : PW X (.BoolOp .Or (b :: rest) pos) (TT' g E m')) : PW X (.BoolOp .Or (a :: b :: rest) pos) (TT' g E (orT m m')) := PWw (pw_or h h') fun σ H Q ⟨ρ, ls, st, rl, rs, h⟩ =>
  tg_go (R2 := RB) rl rs h fun c H1 ρ1 st1 a n1 rl1 rs1 r1 h1 => by
    subst r1
    cases a with
    | false => exact ⟨ρ1, ls, st1, rl1, rs1, h1⟩
    | true => exact h1 true ρ1 H1 .refl rs1 rfl
/-- .. as values -/
@[simp] def blM (m : L → Store → Res Bool) : EM := fun ls st => (m ls st).bind fun b st1 => .ok (.bl b) st1
@[simp] def andV (a b : EM) : EM := fun ls st => (a ls st).bind fun w st1 => match w with | .bl true => b ls st1 | .bl false => .ok (.bl false) st1 | _ => .fail
@[simp] def orV (a b : EM) : EM := fun ls st => (a ls st).bind fun w st1 => match w with | .bl false => b ls st1 | .bl true => .ok (.bl true) st1 | _ => .fail
@[simp] def notV (a : EM) : EM := fun ls st => (a ls st).bind fun w st1 => match w with | .bl b => .ok (.bl (!b)) st1 | _ => .fail
theorem r_one {a : Expr} {op pos m} (h : PE X a (T g E m)) : PE X (.BoolOp op [a] pos) (T g E m) := pe_one h
theorem r_and {a b : Expr} {rest pos m m'} (h : PE X a (T g E m)) (h' : PE X (.BoolOp .And (b :: rest) pos) (T g E m')) : PE X (.BoolOp .And (a :: b :: rest) pos) (T g E (andV m m')) := PEw (pe_and h h') fun σ H Q ⟨ρ, ls, st, rl, rs, h⟩ =>
  tg_go (R2 := RW g) rl rs h fun x H1 ρ1 st1 a n1 rl1 rs1 r1 h1 => by
    cases a with
    | bl c =>
      cases c with
      | true => exact ⟨true, r1, ρ1, ls, st1, rl1, rs1, h1⟩
      | false => exact ⟨false, r1, h1 (.bl false) ρ1 H1 .refl rs1 rfl⟩
    | _ => exact h1.elim
theorem r_or {a b : Expr} {rest pos m m'} (h : PE X a (T g E m)) (h' : PE X (.BoolOp .Or (b :: rest) pos) (T g E m')) : PE X (.BoolOp .Or (a :: b :: rest) pos) (T g E (orV m m')) := PEw (pe_or h h') fun σ H Q ⟨ρ, ls, st, rl, rs, h⟩ =>
  tg_go (R2 := RW g) rl rs h fun x H1 ρ1 st1 a n1 rl1 rs1 r1 h1 => by
    cases a with
    | bl c =>
      cases c with
      | false => exact ⟨false, r1, ρ1, ls, st1, rl1, rs1, h1⟩
      | true => exact ⟨true, r1, h1 (.bl true) ρ1 H1 .refl rs1 rfl⟩
    | _ => exact h1.elim
theorem r_not {a : Expr} {pos m} (h : PE X a (T g E m)) : PE X (.UnaryOp .Not a pos) (T g E (notV m)) := PEw (pe_not h) fun σ H Q ⟨ρ, ls, st, rl, rs, h⟩ =>
  tg_go (R2 := RW g) rl rs h fun x H1 ρ1 st1 a n1 rl1 rs1 r1 h1 => by
    cases a with
    | bl c => exact ⟨c, r1, h1 (.bl (!c)) ρ1 H1 .refl rs1 rfl⟩
    | _ => exact h1.elim
@[simp] def ifM (c : L → Store → Res Bool) (a b : EM) : EM := fun ls st => (c ls st).bind fun k st1 => if k = true then a ls st1 else b ls st1
theorem r_if {c a b : Expr} {pos mc ma mb} (hc : PT X c (TT' g E mc)) (ha : PE X a (T g E ma)) (hb : PE X b (T g E mb)) : PE X (.IfExp c a b pos) (T g E (ifM mc ma mb)) := PEw (pe_ifExp hc ha hb) fun σ H Q ⟨ρ, ls, st, rl, rs, h⟩ =>
  tg_go (R2 := RW g) rl rs h fun k H1 ρ1 st1 a n1 rl1 rs1 r1 h1 => by
    subst r1
    cases a with
    | true => exact ⟨ρ1, ls, st1, rl1, rs1, h1⟩
    | false => exact ⟨ρ1, ls, st1, rl1, rs1, h1⟩
/-- a < b < c -/
@[simp] def chM (f f' : OM) (ma mb mc : EM) : EM := fun ls st => (ma ls st).bind fun a st1 => (mb ls st1).bind fun b st2 => (f a b st2).bind fun k st3 => match k with
  | .bl true => (mc ls st3).bind fun c st4 => f' b c st4
  | .bl false => .ok (.bl false) st3
  | _ => .fail
/-- an operation that may be run on and on -/
def OkB (g : G) (E : XK) (r : R2) (f : OM) : Prop := OkO g E r f
theorem ok_bind {r : R2} {f : OM} (ok : OkO g E r f) {α' β' : Type} {R2 : RelT α' β'} {ρ H st a b x y} {Q : β' → Hp → Prop} {k : W → Store → Res α'} (rs : RS g ρ H st) (ra : Rp g ρ H a x) (rb : Rp g ρ H b y)
    (h : wpp g E R2 ρ H Q ((f a b st).bind k)) {Q' : VK} (hk : ∀ z H1 ρ1 st1 c, Nxt ρ H ρ1 H1 → RS g ρ1 H1 st1 → Rp g ρ1 H1 c z → wpp g E R2 ρ1 H1 Q (k c st1) → Q' z H1) : r x y H Q' := by
  refine ok ρ H st a b x y Q' rs ra rb ?_
  cases e : f a b st with
  | ok c st1 => rw [e] at h; exact fun z ρ' H' n' rs' r => hk z H' ρ' st1 c n' rs' r (wpp.mono n' h)
  | exc c x st => rw [e] at h; exact h
  | fail => rw [e] at h; exact h
theorem T_ch {r r' : R2} {f f' : OM} {ma mb mc : EM} (ok : OkO g E r f) (ok' : OkO g E r' f') : ∀ σ H Q, T g E (chM f f' ma mb mc) σ H Q → tChain r r' (T g E ma) (T g E mb) (T g E mc) σ H Q := fun σ H Q ⟨ρ, ls, st, rl, rs, h⟩ =>
  tg_go (R2 := RW g) rl rs h fun x H1 ρ1 st1 a n1 rl1 rs1 r1 h1 => tg_go (R2 := RW g) rl1 rs1 h1 fun y H2 ρ2 st2 b n2 rl2 rs2 r2 h2 => ok_bind ok rs2 (Rp.mono n2 _ _ r1) r2 h2 fun z H3 ρ3 st3 c n3 rs3 r3 h3 => by
    cases c with
    | bl k =>
      refine ⟨k, r3, ?_⟩
      cases k with
      | true => exact tg_go (R2 := RW g) (rl2.mono n3) rs3 h3 fun w H4 ρ4 st4 c n4 rl4 rs4 r4 h4 => ok' ρ4 H4 st4 b c y w Q rs4 (Rp.mono (n3.trans n4) _ _ r2) r4 h4
      | false => exact h3 (.bl false) ρ3 H3 .refl rs3 rfl
    | _ => exact h3.elim
theorem r_ch {a b c : Expr} {op op' : CmpOp} {pos ma mb mc f f' r r'} (ho : OpR X (compareOp op) r) (ok : OkO g E r f) (ho' : OpR X (compareOp op') r') (ok' : OkO g E r' f') (ha : PE X a (T g E ma)) (hb : PE X b (T g E mb)) (hc : PE X c (T g E mc))
    (hm : lastMarks [op, op'] [b, c] = false := by with_unfolding_all rfl) : PE X (.Compare a [op, op'] [b, c] pos) (T g E (chM f f' ma mb mc)) := PEw (pe_chain ho ho' ha hb hc hm) (T_ch ok ok')
theorem t_ch {a b c : Expr} {op op' : CmpOp} {pos ma mb mc f f' r r'} (ho : OpR X (compareOp op) r) (ok : OkO g E r f) (ho' : OpR X (compareOp op') r') (ok' : OkO g E r' f') (ha : PE X a (T g E ma)) (hb : PE X b (T g E mb)) (hc : PE X c (T g E mc))
    (hm : lastMarks [op, op'] [b, c] = false := by with_unfolding_all rfl) : PT X (.Compare a [op, op'] [b, c] pos) (TT' g E (tstM (chM f f' ma mb mc))) := PTw' (pt_chain ho ho' ha hb hc hm) fun σ H Q h => T_ch ok ok' σ H _ (T_tst σ H Q h)
end
end
end VM

set_option Elab.async false
set_option linter.all false
set_option maxRecDepth 100000
namespace VM
noncomputable section
open PySem L2
/-! ### what stands behind a value -/
def asL (st : Store) : W → Option (List W)
  | .lst xs => some xs
  | .ref n => match st[n]? with | some (.lst xs) => some xs | some (.lkL xs) => some xs | _ => none
  | _ => none
def asT : W → Option (List W)
  | .tup xs => some xs
  | .kt xs => some xs
  | _ => none
def asQ (st : Store) (w : W) : Option (List W) := match asT w with | some xs => some xs | none => asL st w
def asKey : W → Option Key
  | .int i => some (.inl i)
  | .str x => some (.inr x)
  | _ => none
def mapKey : List W → Option (List Key)
  | [] => some []
  | w :: ws => match asKey w, mapKey ws with | some k, some ks => some (k :: ks) | _, _ => none
def asKeys : W → Option (List Key)
  | .tup ws => mapKey ws
  | _ => none
def asDK (st : Store) : W → Option (List (Key × W))
  | .dK kvs => some kvs
  | .ref n => match st[n]? with | some (.dK kvs) => some kvs | some (.lkK kvs) => some kvs | _ => none
  | _ => none
def asDT (st : Store) : W → Option (List (List Key × W))
  | .dT kvs => some kvs
  | .ref n => match st[n]? with | some (.dT kvs) => some kvs | some (.lkT kvs) => some kvs | _ => none
  | _ => none
def valW {κ α : Type} [DecidableEq κ] (kvs : List (κ × α)) (k : κ) : Option α := (kvs.find? fun kv => decide (kv.1 = k)).map (·.2)
def putW {κ α : Type} [DecidableEq κ] (kvs : List (κ × α)) (k : κ) (v : α) : List (κ × α) :=
  if (kvs.any fun kv => decide (kv.1 = k)) = true then kvs.map (fun kv => if kv.1 = k then (kv.1, v) else kv) else kvs ++ [(k, v)]
def dropW {κ α : Type} [DecidableEq κ] (kvs : List (κ × α)) (k : κ) : List (κ × α) := kvs.filter fun kv => decide (kv.1 ≠ k)
section
variable {g : G} {ρ : List Addr} {H : Hp} {st : Store}
theorem asL_rp {w v xs} (rs : RS g ρ H st) (r : Rp g ρ H w v) (e : asL st w = some xs) : ∃ a vs, v = .ref a ∧ H a = some (.lst vs) ∧ Rps g ρ H xs vs ∧ xs.length ≤ sizeLine := by
  cases w with
  | lst ws =>
    obtain ⟨a, vs, e1, h, _, r, z⟩ := r
    cases e
    exact ⟨a, vs, e1, h, r, z⟩
  | ref n =>
    obtain ⟨a, e1, h⟩ := r
    obtain ⟨c, hc, rc⟩ := rs.get h
    unfold asL at e
    simp only [hc] at e
    cases c with
    | lst ys =>
      simp only [Option.some.injEq] at e
      subst e
      obtain ⟨vs, h1, r1, z⟩ := rc
      exact ⟨a, vs, e1, h1, r1, z⟩
    | lkL ys =>
      simp only [Option.some.injEq] at e
      subst e
      obtain ⟨vs, h1, r1, z⟩ := rc
      exact ⟨a, vs, e1, h1, r1, z⟩
    | _ => simp at e
  | _ => cases e
theorem asT_rp {w v xs} (r : Rp g ρ H w v) (e : asT w = some xs) : ∃ a vs, v = .ref a ∧ SqT g.K H a vs ∧ Rps g ρ H xs vs ∧ xs.length ≤ sizeLine := by
  cases w with
  | tup ws =>
    obtain ⟨a, vs, e1, h, _, r, z⟩ := r
    cases e
    exact ⟨a, vs, e1, .of h, r, z⟩
  | kt ws =>
    obtain ⟨a, vs, e1, h, r, z⟩ := r
    cases e
    exact ⟨a, vs, e1, .inr h, r, z⟩
  | _ => cases e
theorem asQ_rp {w v xs} (rs : RS g ρ H st) (r : Rp g ρ H w v) (e : asQ st w = some xs) : ∃ a vs, v = .ref a ∧ (SqL g.K H a vs ∨ SqT g.K H a vs) ∧ Rps g ρ H xs vs ∧ xs.length ≤ sizeLine := by
  unfold asQ at e
  split at e
  · rename_i ys e1
    cases e
    obtain ⟨a, vs, e2, h, r, z⟩ := asT_rp r e1
    exact ⟨a, vs, e2, .inr h, r, z⟩
  · obtain ⟨a, vs, e2, h, r, z⟩ := asL_rp rs r e
    exact ⟨a, vs, e2, .inl (.of h), r, z⟩
theorem asKey_rp {w v k} (r : Rp g ρ H w v) (e : asKey w = some k) : v = kV k := by
  cases w with
  | int i => cases e; exact r
  | str x => cases e; exact r.1
  | _ => cases e
theorem mapKey_rp : ∀ {ws : List W} {vs ks}, Rps g ρ H ws vs → mapKey ws = some ks → vs = ks.map kV
  | [], _, _, h, e => by cases h; cases e; rfl
  | w :: ws, _, ks, ⟨v, r, e1, h1, h2⟩, e => by
    unfold mapKey at e
    cases q1 : asKey w with
    | none => rw [q1] at e; cases e
    | some k =>
      cases q2 : mapKey ws with
      | none => rw [q1, q2] at e; cases e
      | some kk =>
        rw [q1, q2] at e
        cases e
        rw [e1, asKey_rp h1 q1, mapKey_rp h2 q2]; rfl
theorem asKeys_rp {w v ks} (r : Rp g ρ H w v) (e : asKeys w = some ks) : ∃ b, v = .ref b ∧ H b = some (.tup (ks.map kV)) := by
  cases w with
  | tup ws =>
    obtain ⟨a, vs, e1, h, _, r, z⟩ := r
    exact ⟨a, e1, by rw [← mapKey_rp r e]; exact h⟩
  | _ => cases e
theorem asDK_rp {w v xs} (rs : RS g ρ H st) (r : Rp g ρ H w v) (e : asDK st w = some xs) : ∃ a us, v = .ref a ∧ Rd H a (.dK us) ∧ RpK g ρ H xs us ∧ xs.length ≤ sizeLine := by
  cases w with
  | dK ws =>
    obtain ⟨a, vs, e1, h, _, r, z⟩ := r
    cases e
    exact ⟨a, vs, e1, h, r, z⟩
  | ref n =>
    obtain ⟨a, e1, h⟩ := r
    obtain ⟨c, hc, rc⟩ := rs.get h
    unfold asDK at e
    simp only [hc] at e
    cases c with
    | dK ys =>
      simp only [Option.some.injEq] at e
      subst e
      obtain ⟨vs, h1, r1, z⟩ := rc
      exact ⟨a, vs, e1, .inl h1, r1, z⟩
    | lkK ys =>
      simp only [Option.some.injEq] at e
      subst e
      obtain ⟨vs, h1, r1, z⟩ := rc
      exact ⟨a, vs, e1, h1, r1, z⟩
    | _ => simp at e
  | _ => cases e
theorem asDT_rp {w v xs} (rs : RS g ρ H st) (r : Rp g ρ H w v) (e : asDT st w = some xs) : ∃ a us, v = .ref a ∧ Rd H a (.dT us) ∧ RpT g ρ H xs us ∧ xs.length ≤ sizeLine := by
  cases w with
  | dT ws =>
    obtain ⟨a, vs, e1, h, _, r, z⟩ := r
    cases e
    exact ⟨a, vs, e1, h, r, z⟩
  | ref n =>
    obtain ⟨a, e1, h⟩ := r
    obtain ⟨c, hc, rc⟩ := rs.get h
    unfold asDT at e
    simp only [hc] at e
    cases c with
    | dT ys =>
      simp only [Option.some.injEq] at e
      subst e
      obtain ⟨vs, h1, r1, z⟩ := rc
      exact ⟨a, vs, e1, .inl h1, r1, z⟩
    | lkT ys =>
      simp only [Option.some.injEq] at e
      subst e
      obtain ⟨vs, h1, r1, z⟩ := rc
      exact ⟨a, vs, e1, h1, r1, z⟩
    | _ => simp at e
  | _ => cases e
theorem RpK.val : ∀ {kvs : List (Key × W)} {us} (k : Key), RpK g ρ H kvs us → (valW kvs k = none ∧ valV us k = none) ∨ ∃ w v, valW kvs k = some w ∧ valV us k = some v ∧ Rp g ρ H w v
  | [], us, k, h => by cases h; exact .inl ⟨rfl, rfl⟩
  | (k0, w) :: r, _, k, ⟨v, us', e, h1, h2⟩ => by
    subst e
    by_cases q : k0 = k
    · exact .inr ⟨w, v, by simp [valW, q], by simp [valV, q], h1⟩
    · have e1 : valW ((k0, w) :: r) k = valW r k := by simp [valW, q]
      have e2 : valV ((k0, v) :: us') k = valV us' k := by simp [valV, q]
      rw [e1, e2]
      exact RpK.val k h2
theorem RpT.val : ∀ {kvs : List (List Key × W)} {us} (k : List Key), RpT g ρ H kvs us → (valW kvs k = none ∧ valV us k = none) ∨ ∃ w v, valW kvs k = some w ∧ valV us k = some v ∧ Rp g ρ H w v
  | [], us, k, h => by cases h; exact .inl ⟨rfl, rfl⟩
  | (k0, w) :: r, _, k, ⟨v, us', e, h1, h2⟩ => by
    subst e
    by_cases q : k0 = k
    · exact .inr ⟨w, v, by simp [valW, q], by simp [valV, q], h1⟩
    · have e1 : valW ((k0, w) :: r) k = valW r k := by simp [valW, q]
      have e2 : valV ((k0, v) :: us') k = valV us' k := by simp [valV, q]
      rw [e1, e2]
      exact RpT.val k h2
theorem RpK.keys : ∀ {kvs : List (Key × W)} {us}, RpK g ρ H kvs us → us.map (·.1) = kvs.map (·.1)
  | [], us, h => by cases h; rfl
  | (k0, w) :: r, _, ⟨v, us', e, h1, h2⟩ => by subst e; simp [RpK.keys h2]
theorem RpT.keys : ∀ {kvs : List (List Key × W)} {us}, RpT g ρ H kvs us → us.map (·.1) = kvs.map (·.1)
  | [], us, h => by cases h; rfl
  | (k0, w) :: r, _, ⟨v, us', e, h1, h2⟩ => by subst e; simp [RpT.keys h2]
theorem RpK.length {kvs : List (Key × W)} {us} (h : RpK g ρ H kvs us) : us.length = kvs.length := by simpa using congrArg List.length h.keys
theorem RpT.length {kvs : List (List Key × W)} {us} (h : RpT g ρ H kvs us) : us.length = kvs.length := by simpa using congrArg List.length h.keys
theorem RpK.append : ∀ {kvs : List (Key × W)} {us k w v}, RpK g ρ H kvs us → Rp g ρ H w v → RpK g ρ H (kvs ++ [(k, w)]) (us ++ [(k, v)])
  | [], us, k, w, v, h, r => by cases h; exact ⟨v, [], rfl, r, rfl⟩
  | (k0, w0) :: r, _, k, w, v, ⟨v0, us', e, h1, h2⟩, r' => by subst e; exact ⟨v0, _, rfl, h1, RpK.append h2 r'⟩
theorem RpT.append : ∀ {kvs : List (List Key × W)} {us k w v}, RpT g ρ H kvs us → Rp g ρ H w v → RpT g ρ H (kvs ++ [(k, w)]) (us ++ [(k, v)])
  | [], us, k, w, v, h, r => by cases h; exact ⟨v, [], rfl, r, rfl⟩
  | (k0, w0) :: r, _, k, w, v, ⟨v0, us', e, h1, h2⟩, r' => by subst e; exact ⟨v0, _, rfl, h1, RpT.append h2 r'⟩
theorem RpK.repl : ∀ {kvs : List (Key × W)} {us} {k w v}, RpK g ρ H kvs us → Rp g ρ H w v → RpK g ρ H (kvs.map fun kv => if kv.1 = k then (kv.1, w) else kv) (us.map fun kv => if kv.1 = k then (kv.1, v) else kv)
  | [], us, k, w, v, h, r => by cases h; rfl
  | (k0, w0) :: r, _, k, w, v, ⟨v0, us', e, h1, h2⟩, r' => by
    subst e
    show RpK g ρ H ((if k0 = k then (k0, w) else (k0, w0)) :: r.map _) ((if k0 = k then (k0, v) else (k0, v0)) :: us'.map _)
    by_cases q : k0 = k
    · rw [if_pos q, if_pos q]; exact ⟨v, _, rfl, r', RpK.repl h2 r'⟩
    · rw [if_neg q, if_neg q]; exact ⟨v0, _, rfl, h1, RpK.repl h2 r'⟩
theorem RpT.repl : ∀ {kvs : List (List Key × W)} {us} {k w v}, RpT g ρ H kvs us → Rp g ρ H w v → RpT g ρ H (kvs.map fun kv => if kv.1 = k then (kv.1, w) else kv) (us.map fun kv => if kv.1 = k then (kv.1, v) else kv)
  | [], us, k, w, v, h, r => by cases h; rfl
  | (k0, w0) :: r, _, k, w, v, ⟨v0, us', e, h1, h2⟩, r' => by
    subst e
    show RpT g ρ H ((if k0 = k then (k0, w) else (k0, w0)) :: r.map _) ((if k0 = k then (k0, v) else (k0, v0)) :: us'.map _)
    by_cases q : k0 = k
    · rw [if_pos q, if_pos q]; exact ⟨v, _, rfl, r', RpT.repl h2 r'⟩
    · rw [if_neg q, if_neg q]; exact ⟨v0, _, rfl, h1, RpT.repl h2 r'⟩
theorem any_keys {κ α β : Type} [DecidableEq κ] {xs : List (κ × α)} {ys : List (κ × β)} (h : ys.map (·.1) = xs.map (·.1)) (k : κ) : (ys.any fun kv => decide (kv.1 = k)) = xs.any fun kv => decide (kv.1 = k) := by
  have e1 : (ys.any fun kv => decide (kv.1 = k)) = (ys.map (·.1)).any fun x => decide (x = k) := by rw [List.any_map]; rfl
  have e2 : (xs.any fun kv => decide (kv.1 = k)) = (xs.map (·.1)).any fun x => decide (x = k) := by rw [List.any_map]; rfl
  rw [e1, e2, h]
theorem RpK.put {kvs : List (Key × W)} {us k w v} (h : RpK g ρ H kvs us) (r : Rp g ρ H w v) : RpK g ρ H (putW kvs k w) (putK us k v) := by
  unfold putW putK
  rw [any_keys h.keys]
  split
  · exact h.repl r
  · exact h.append r
theorem RpT.put {kvs : List (List Key × W)} {us k w v} (h : RpT g ρ H kvs us) (r : Rp g ρ H w v) : RpT g ρ H (putW kvs k w) (putK us k v) := by
  unfold putW putK
  rw [any_keys h.keys]
  split
  · exact h.repl r
  · exact h.append r
theorem RpK.drop : ∀ {kvs : List (Key × W)} {us} (k : Key), RpK g ρ H kvs us → RpK g ρ H (dropW kvs k) (dropK us k)
  | [], us, k, h => by cases h; rfl
  | (k0, w0) :: r, _, k, ⟨v0, us', e, h1, h2⟩ => by
    subst e
    by_cases q : k0 = k
    · have e1 : dropW ((k0, w0) :: r) k = dropW r k := by simp [dropW, q]
      have e2 : dropK ((k0, v0) :: us') k = dropK us' k := by simp [dropK, q]
      rw [e1, e2]; exact RpK.drop k h2
    · have e1 : dropW ((k0, w0) :: r) k = (k0, w0) :: dropW r k := by simp [dropW, q]
      have e2 : dropK ((k0, v0) :: us') k = (k0, v0) :: dropK us' k := by simp [dropK, q]
      rw [e1, e2]; exact ⟨v0, _, rfl, h1, RpK.drop k h2⟩
theorem putW_length {κ α : Type} [DecidableEq κ] (kvs : List (κ × α)) (k : κ) (v : α) : (putW kvs k v).length ≤ kvs.length + 1 := by
  unfold putW; split <;> simp
end
/-! ### arithmetic -/
section
variable {g : G} {E : XK} {X : Cx}
theorem ok_fail {ρ H} {Q : VK} : ¬ wpp g E (RW g) ρ H Q .fail := fun h => h
/-- a flat answer -/
theorem wpp_flat {ρ H st Q w v} (rs : RS g ρ H st) (r : Rp g ρ H w v) (h : wpp g E (RW g) ρ H Q (.ok w st)) : Q v H := h v ρ H .refl rs r
def addW (c : Bool) : OM := fun a b st => match a, b with
  | .int i, .int j => .ok (.int (i + j)) st
  | .str x, .str y => if szB (x.length + y.length) = true then .ok (.str (x ++ y)) st else .fail
  | .tup xs, .tup ys => if szB (xs.length + ys.length) = true then .ok (.tup (xs ++ ys)) st else .fail
  | .kt xs, .tup ys => if xs ≠ [] ∧ ys ≠ [] ∧ szB (xs.length + ys.length) = true then .ok (.tup (xs ++ ys)) st else .fail
  | a, b => match asL st a, asL st b with
    | some xs, some ys => if szB (xs.length + ys.length) = true then newL c (xs ++ ys) st else .fail
    | _, _ => .fail
def rAddA (K : PySem.W.Frag) : R2 := fun x y H Q => ((rI0 fun i j => V.int (i + j)) x y H Q ∨ ∃ i j, x = .str i ∧ y = .str j ∧ i.length + j.length ≤ sizeLine ∧ Q (.str (i ++ j)) H) ∨ (rCatA K x y H Q ∨ rCat x y H Q)
theorem o_add : OpR X (binaryOp .Add) (rAddA X.K) := OpR.or (OpR.or op_add op_add_str) (OpR.or op_catA op_cat)
theorem str_len_append (x y : Str) : (x ++ y).length = x.length + y.length := by
  show (x.cps ++ y.cps).size = _
  simp [Str.length]
theorem k_add (c : Bool) : OkO g E (rAddA g.K) (addW c) := by
  intro ρ H st a b x y Q rs ra rb h
  unfold addW at h
  split at h
  · exact .inl (.inl ⟨_, _, ra, rb, h _ ρ H .refl rs rfl⟩)
  · obtain ⟨hl, h⟩ := wpp_sz h
    exact .inl (.inr ⟨_, _, ra.1, rb.1, hl, h (.str _) ρ H .refl rs ⟨rfl, by rw [str_len_append]; exact hl⟩⟩)
  · obtain ⟨hl, h⟩ := wpp_sz h
    obtain ⟨p, vs, e1, h1, m1, r1, z1⟩ := id ra
    obtain ⟨q, us, e2, h2, m2, r2, z2⟩ := id rb
    refine .inr (.inl ⟨p, q, vs, us, e1, e2, .of h1, .of h2, by rw [← r1.length, ← r2.length]; exact hl, fun e => ?_, fun _ e => ?_, fun _ _ a ha => ?_⟩)
    · have e0 := List.eq_nil_of_length_eq_zero (l := _) (by rw [r1.length, e]; rfl)
      subst e0
      subst e2
      exact wpp_flat rs rb h
    · have e0 := List.eq_nil_of_length_eq_zero (l := _) (by rw [r2.length, e]; rfl)
      subst e0
      rw [List.append_nil] at h
      subst e1
      exact wpp_flat rs ra h
    · exact new_tup rs (r1.append r2) (by rw [List.length_append]; exact hl) ha h
  · obtain ⟨⟨n1, n2, hl⟩, h⟩ := wpp_if h
    have hl := szB_iff.mp hl
    obtain ⟨p, vs, e1, h1, r1, z1⟩ := id ra
    obtain ⟨q, us, e2, h2, m2, r2, z2⟩ := id rb
    refine .inr (.inl ⟨p, q, vs, us, e1, e2, .inr h1, .of h2, by rw [← r1.length, ← r2.length]; exact hl, fun e => ?_, fun _ e => ?_, fun _ _ a ha => ?_⟩)
    · exact absurd (List.eq_nil_of_length_eq_zero (by rw [r1.length, e]; rfl)) n1
    · exact absurd (List.eq_nil_of_length_eq_zero (by rw [r2.length, e]; rfl)) n2
    · exact new_tup rs (r1.append r2) (by rw [List.length_append]; exact hl) ha h
  · split at h
    · rename_i xs ys q1 q2
      obtain ⟨hl, h⟩ := wpp_sz h
      obtain ⟨p, vs, e1, h1, r1, z1⟩ := asL_rp rs ra q1
      obtain ⟨q, us, e2, h2, r2, z2⟩ := asL_rp rs rb q2
      exact .inr (.inr ⟨p, q, vs, us, e1, e2, h1, h2, by rw [← r1.length, ← r2.length]; exact hl, fun a ha => new_L rs (r1.append r2) (by rw [List.length_append]; exact hl) ha h⟩)
    · exact h.elim
def subW : OM := fun a b st => match a, b with
  | .int i, .int j => .ok (.int (i - j)) st
  | _, _ => .fail
theorem k_sub : OkO g E (rI0 fun i j => V.int (i - j)) subW := by
  intro ρ H st a b x y Q rs ra rb h
  unfold subW at h
  split at h
  · exact ⟨_, _, ra, rb, h _ ρ H .refl rs rfl⟩
  · exact h.elim
def mulOk (i j : Int) : Bool := opq ((-(2 ^ 64) < i ∧ i < 2 ^ 64) ∨ (-(2 ^ 64) < j ∧ j < 2 ^ 64))
def mulW (c : Bool) : OM := fun a b st => match a, b with
  | .int i, .int j => if mulOk i j = true then .ok (.int (i * j)) st else .fail
  | a, .int k => match asL st a with
    | some xs => if opq ((-(2 ^ 63) ≤ k ∧ k < 2 ^ 63) ∧ xs.length * k.toNat ≤ sizeLine) = true then newL c (List.replicate k.toNat xs).flatten st else .fail
    | none => .fail
  | _, _ => .fail
def rMulA : R2 := fun x y H Q => (rI CMul fun i j => V.int (i * j)) x y H Q ∨ rRep x y H Q
theorem o_mul : OpR X (binaryOp .Mult) rMulA := OpR.or op_mul op_rep
theorem rps_flat {ρ H} {xs : List W} {vs : List V} (r : Rps g ρ H xs vs) : ∀ n : Nat, Rps g ρ H (List.replicate n xs).flatten (List.replicate n vs).flatten
  | 0 => rfl
  | n + 1 => by simp only [List.replicate_succ, List.flatten_cons]; exact r.append (rps_flat r n)
theorem flat_len {α : Type} (xs : List α) : ∀ n : Nat, (List.replicate n xs).flatten.length = xs.length * n
  | 0 => by simp
  | n + 1 => by simp only [List.replicate_succ, List.flatten_cons, List.length_append, flat_len xs n]; rw [Nat.mul_succ, Nat.add_comm]
theorem k_mul (c : Bool) : OkO g E rMulA (mulW c) := by
  intro ρ H st a b x y Q rs ra rb h
  unfold mulW at h
  split at h
  · obtain ⟨hl, h⟩ := wpp_if h
    refine .inl ⟨_, _, ra, rb, ?_, h _ ρ H .refl rs rfl⟩
    simpa [mulOk, CMul, opq_iff] using hl
  · split at h
    · rename_i k _ _ xs q1
      obtain ⟨hl, h⟩ := wpp_if h
      simp only [opq_iff] at hl
      obtain ⟨p, vs, e1, h1, r1, z1⟩ := asL_rp rs ra q1
      exact .inr ⟨p, k, vs, e1, rb, h1, hl.1.1, hl.1.2, by rw [← r1.length]; exact hl.2, fun a ha => new_L rs (rps_flat r1 _) (by rw [flat_len]; exact hl.2) ha h⟩
    · exact h.elim
  · exact h.elim
def divW : OM := fun a b st => match a, b with
  | .int i, .int j => if opq (0 < j ∧ j.natAbs.log2 < 9000) = true then .ok (.int (i / j)) st else .fail
  | _, _ => .fail
theorem k_div : OkO g E (rI CDivW fun i j => V.int (i / j)) divW := by
  intro ρ H st a b x y Q rs ra rb h
  unfold divW at h
  split at h
  · obtain ⟨hl, h⟩ := wpp_if h
    simp only [opq_iff] at hl
    exact ⟨_, _, ra, rb, hl, h _ ρ H .refl rs rfl⟩
  · exact h.elim
def modW : OM := fun a b st => match a, b with
  | .int i, .int j => if 0 < j then .ok (.int (i % j)) st else .fail
  | _, _ => .fail
theorem k_mod : OkO g E (rI (fun _ j => 0 < j) fun i j => V.int (i % j)) modW := by
  intro ρ H st a b x y Q rs ra rb h
  unfold modW at h
  split at h
  · obtain ⟨hl, h⟩ := wpp_if h
    exact ⟨_, _, ra, rb, hl, h _ ρ H .refl rs rfl⟩
  · exact h.elim
def powOk (i j : Int) : Bool := opq ((0 ≤ j ∧ j ≤ 1000000) ∧ i.natAbs < 2 ^ 64)
def powW : OM := fun a b st => match a, b with
  | .int i, .int j => if powOk i j = true then .ok (.int (i ^ j.toNat)) st else .fail
  | _, _ => .fail
theorem k_pow : OkO g E (rI CPow fun i j => V.int (i ^ j.toNat)) powW := by
  intro ρ H st a b x y Q rs ra rb h
  unfold powW at h
  split at h
  · obtain ⟨hl, h⟩ := wpp_if h
    simp only [powOk, opq_iff] at hl
    exact ⟨_, _, ra, rb, ⟨hl.1.1, hl.1.2, hl.2⟩, h _ ρ H .refl rs rfl⟩
  · exact h.elim
def shlW : OM := fun a b st => match a, b with
  | .int i, .int j => if powOk i j = true then .ok (.int (i * 2 ^ j.toNat)) st else .fail
  | _, _ => .fail
theorem k_shl : OkO g E (rI CPow fun i j => V.int (i * 2 ^ j.toNat)) shlW := by
  intro ρ H st a b x y Q rs ra rb h
  unfold shlW at h
  split at h
  · obtain ⟨hl, h⟩ := wpp_if h
    simp only [powOk, opq_iff] at hl
    exact ⟨_, _, ra, rb, ⟨hl.1.1, hl.1.2, hl.2⟩, h _ ρ H .refl rs rfl⟩
  · exact h.elim
section
variable {a b : Expr} {pos : Pos} {ma mb : EM}
theorem r_add (c : Bool) (hK : X.K = g.K) (ha : PE X a (T g E ma)) (hb : PE X b (T g E mb)) : PE X (.BinOp a .Add b pos) (T g E (opM (addW c) ma mb)) := r_op (hK ▸ o_add) (k_add c) ha hb
theorem r_sub (ha : PE X a (T g E ma)) (hb : PE X b (T g E mb)) : PE X (.BinOp a .Sub b pos) (T g E (opM subW ma mb)) := r_op op_sub k_sub ha hb
theorem r_mul (c : Bool) (ha : PE X a (T g E ma)) (hb : PE X b (T g E mb)) : PE X (.BinOp a .Mult b pos) (T g E (opM (mulW c) ma mb)) := r_op o_mul (k_mul c) ha hb
theorem r_div (ha : PE X a (T g E ma)) (hb : PE X b (T g E mb)) : PE X (.BinOp a .FloorDiv b pos) (T g E (opM divW ma mb)) := r_op op_fdivW k_div ha hb
theorem r_mod (ha : PE X a (T g E ma)) (hb : PE X b (T g E mb)) : PE X (.BinOp a .Mod b pos) (T g E (opM modW ma mb)) := r_op op_mod k_mod ha hb
theorem r_pow (ha : PE X a (T g E ma)) (hb : PE X b (T g E mb)) : PE X (.BinOp a .Pow b pos) (T g E (opM powW ma mb)) := r_op op_pow k_pow ha hb
theorem r_shl (ha : PE X a (T g E ma)) (hb : PE X b (T g E mb)) : PE X (.BinOp a .LShift b pos) (T g E (opM shlW ma mb)) := r_op op_shl k_shl ha hb
end
end
end
end VM

set_option Elab.async false
set_option linter.all false
set_option maxRecDepth 100000
namespace VM
noncomputable section
open PySem L2
/-! ### data -/
mutual
def toD : W → PyData
  | .non => .none
  | .bl b => .bool b
  | .int i => .int i
  | .str x => .str x
  | .tup ws => .tuple (toDs ws)
  | .kt ws => .tuple (toDs ws)
  | .lst ws => .list (toDs ws)
  | .dK _ => .dict []
  | .dT _ => .dict []
  | .ref _ => .dict []
  | .scr _ => .dict []
def toDs : List W → List PyData
  | [] => []
  | w :: ws => toD w :: toDs ws
end
theorem toDs_map : ∀ ws : List W, toDs ws = ws.map toD
  | [] => rfl
  | w :: ws => by rw [toDs, toDs_map ws]; rfl
def asV (st : Store) (w : W) : W := match w with
  | .ref n => (match asL st (.ref n) with | some xs => .lst xs | none => .ref n)
  | w => w
/-- data of a depth that the machine bears -/
def okD (w : W) : Bool := (toD w).plain && decide ((toD w).depth ≤ 60)
section
variable {g : G} {ρ : List Addr} {H : Hp} {st : Store}
mutual
theorem Rp.dp : ∀ (w : W) (v : V), Rp g ρ H w v → (toD w).plain = true → Dp g.K H v (toD w)
  | .non, _, h, _ => by cases h; exact .non
  | .bl b, _, h, _ => by cases h; exact .bl b
  | .int i, _, h, _ => by cases h; exact .int i
  | .str x, _, h, _ => by cases h.1; exact .str x
  | .tup ws, _, ⟨a, vs, e, h, _, r, _⟩, p => by rw [e]; exact .tup (.of h) (Rps.dp ws vs r (by simpa [toD, PyData.plain] using p))
  | .kt ws, _, ⟨a, vs, e, h, r, _⟩, p => by rw [e]; exact .tup (.inr h) (Rps.dp ws vs r (by simpa [toD, PyData.plain] using p))
  | .lst ws, _, ⟨a, vs, e, h, _, r, _⟩, p => by rw [e]; exact .lst (.of h) (Rps.dp ws vs r (by simpa [toD, PyData.plain] using p))
  | .dK _, _, _, p => by simp [toD, PyData.plain] at p
  | .dT _, _, _, p => by simp [toD, PyData.plain] at p
  | .ref _, _, _, p => by simp [toD, PyData.plain] at p
  | .scr _, _, _, p => by simp [toD, PyData.plain] at p
theorem Rps.dp : ∀ (ws : List W) (vs : List V), Rps g ρ H ws vs → PyData.plainAll (toDs ws) = true → DpAll g.K H vs (toDs ws)
  | [], _, h, _ => by cases h; exact .nil
  | w :: ws, _, ⟨v, r, e, h1, h2⟩, p => by
    have p' : (toD w).plain = true ∧ PyData.plainAll (toDs ws) = true := by simpa [toDs, PyData.plainAll] using p
    rw [e]; exact .cons (Rp.dp w v h1 p'.1) (Rps.dp ws r h2 p'.2)
end
theorem asV_dp {w v} (rs : RS g ρ H st) (r : Rp g ρ H w v) (p : (toD (asV st w)).plain = true) : Dp g.K H v (toD (asV st w)) := by
  cases w with
  | ref n =>
    unfold asV at p ⊢
    cases e : asL st (.ref n) with
    | some xs =>
      simp only [e] at p ⊢
      obtain ⟨a, vs, e1, h, r', z⟩ := asL_rp rs r e
      rw [e1]
      exact .lst (.of h) (Rps.dp xs vs r' (by simpa [toD, PyData.plain] using p))
    | none => simp [e, toD, PyData.plain] at p
  | _ => exact Rp.dp _ _ r p
/-- the two operands as data -/
theorem okD_dp {w v} (rs : RS g ρ H st) (r : Rp g ρ H w v) (p : okD (asV st w) = true) : Dp g.K H v (toD (asV st w)) ∧ (toD (asV st w)).plain = true ∧ (toD (asV st w)).depth ≤ 60 := by
  unfold okD at p
  rw [Bool.and_eq_true, decide_eq_true_eq] at p
  exact ⟨asV_dp rs r p.1, p.1, p.2⟩
end
/-! ### ==, <, in -/
def eqW (a b : W) : Bool := PyData.eqv (toD a) (toD b)
def ltW (a b : W) : Bool := PySem.W.dataLt (toD a) (toD b)
def okC (a b : W) : Bool := okD a && okD b && PySem.W.alike (toD a) (toD b) && !(match a with | .non => true | _ => false)
def eqM : OM := fun a b st => if (okD (asV st a) && okD (asV st b)) = true then .ok (.bl (eqW (asV st a) (asV st b))) st else .fail
def neM : OM := fun a b st => if (okD (asV st a) && okD (asV st b)) = true then .ok (.bl (!eqW (asV st a) (asV st b))) st else .fail
def ltM : OM := fun a b st => if okC (asV st a) (asV st b) = true then .ok (.bl (ltW (asV st a) (asV st b))) st else .fail
def gtM : OM := fun a b st => if okC (asV st a) (asV st b) = true then .ok (.bl (ltW (asV st b) (asV st a))) st else .fail
def leM : OM := fun a b st => if okC (asV st a) (asV st b) = true then .ok (.bl (!ltW (asV st b) (asV st a))) st else .fail
def geM : OM := fun a b st => if okC (asV st a) (asV st b) = true then .ok (.bl (!ltW (asV st a) (asV st b))) st else .fail
def rData (K : PySem.W.Frag) (C : PyData → PyData → Prop) (f : PyData → PyData → Bool) : R2 := fun x y H Q => ∃ d e, Dp K H x d ∧ Dp K H y e ∧ d.plain = true ∧ e.plain = true ∧ d.depth ≤ 60 ∧ e.depth ≤ 60 ∧ C d e ∧ Q (.bl (f d e)) H
section
variable {g : G} {E : XK} {X : Cx} {k : Nat}
theorem room_d {d e : PyData} (hr : Room k X.A) (hd : d.depth ≤ 60) : X.A.units + min d.depth e.depth < cLine := by
  have := hr.units
  have := Nat.min_le_left d.depth e.depth
  omega
theorem o_eq (hr : Room k X.A) : OpR X (compareOp .Eq) (rData X.K (fun _ _ => True) PyData.eqv) := by
  intro pins s σ H x y v u Q I rx ry ⟨d, e, hd, he, pd, pe, dd, de, _, q⟩
  obtain ⟨as, r1⟩ := Dp.reads I d x v hd rx
  obtain ⟨bs, r2⟩ := Dp.reads I e y u he ry
  exact SeqAt.eq_plain r1 r2 pd pe (room_d hr dd) ⟨.bl _, H, I, rfl, q⟩
theorem o_ne (hr : Room k X.A) : OpR X (compareOp .NotEq) (rData X.K (fun _ _ => True) fun d e => !PyData.eqv d e) := by
  intro pins s σ H x y v u Q I rx ry ⟨d, e, hd, he, pd, pe, dd, de, _, q⟩
  obtain ⟨as, r1⟩ := Dp.reads I d x v hd rx
  obtain ⟨bs, r2⟩ := Dp.reads I e y u he ry
  exact SeqAt.ne_plain r1 r2 pd pe (room_d hr dd) ⟨.bl _, H, I, rfl, q⟩
abbrev CC (d e : PyData) : Prop := PySem.W.alike d e = true ∧ d ≠ .none
theorem o_lt (hr : Room k X.A) : OpR X (compareOp .Lt) (rData X.K CC PySem.W.dataLt) := by
  intro pins s σ H x y v u Q I rx ry ⟨d, e, hd, he, pd, pe, dd, de, c, q⟩
  obtain ⟨as, r1⟩ := Dp.reads I d x v hd rx
  obtain ⟨bs, r2⟩ := Dp.reads I e y u he ry
  exact PySem.W.lt_data r1 r2 c.1 c.2 (room_d hr dd) ⟨.bl _, H, I, rfl, q⟩
theorem o_gt (hr : Room k X.A) : OpR X (compareOp .Gt) (rData X.K CC fun d e => PySem.W.dataLt e d) := by
  intro pins s σ H x y v u Q I rx ry ⟨d, e, hd, he, pd, pe, dd, de, c, q⟩
  obtain ⟨as, r1⟩ := Dp.reads I d x v hd rx
  obtain ⟨bs, r2⟩ := Dp.reads I e y u he ry
  exact PySem.W.gt_data r1 r2 c.1 c.2 (room_d hr dd) ⟨.bl _, H, I, rfl, q⟩
theorem o_le (hr : Room k X.A) : OpR X (compareOp .LtE) (rData X.K CC fun d e => !PySem.W.dataLt e d) := by
  intro pins s σ H x y v u Q I rx ry ⟨d, e, hd, he, pd, pe, dd, de, c, q⟩
  obtain ⟨as, r1⟩ := Dp.reads I d x v hd rx
  obtain ⟨bs, r2⟩ := Dp.reads I e y u he ry
  exact PySem.W.le_data r1 r2 c.1 c.2 (room_d hr dd) ⟨.bl _, H, I, rfl, q⟩
theorem o_ge (hr : Room k X.A) : OpR X (compareOp .GtE) (rData X.K CC fun d e => !PySem.W.dataLt d e) := by
  intro pins s σ H x y v u Q I rx ry ⟨d, e, hd, he, pd, pe, dd, de, c, q⟩
  obtain ⟨as, r1⟩ := Dp.reads I d x v hd rx
  obtain ⟨bs, r2⟩ := Dp.reads I e y u he ry
  exact PySem.W.ge_data r1 r2 c.1 c.2 (room_d hr dd) ⟨.bl _, H, I, rfl, q⟩
theorem k_data {C : PyData → PyData → Prop} {f : PyData → PyData → Bool} {F : OM} {c : W → W → Bool} (hF : ∀ a b st, F a b st = if c (asV st a) (asV st b) = true then .ok (.bl (f (toD (asV st a)) (toD (asV st b)))) st else .fail)
    (hc : ∀ a b, c a b = true → okD a = true ∧ okD b = true ∧ C (toD a) (toD b)) : OkO g E (rData g.K C f) F := by
  intro ρ H st a b x y Q rs ra rb h
  rw [hF] at h
  obtain ⟨hl, h⟩ := wpp_if h
  obtain ⟨h1, h2, h3⟩ := hc _ _ hl
  obtain ⟨a1, a2, a3⟩ := okD_dp rs ra h1
  obtain ⟨b1, b2, b3⟩ := okD_dp rs rb h2
  exact ⟨_, _, a1, b1, a2, b2, a3, b3, h3, h _ ρ H .refl rs rfl⟩
theorem okC_cc {a b : W} (h : okC a b = true) : okD a = true ∧ okD b = true ∧ CC (toD a) (toD b) := by
  unfold okC at h
  simp only [Bool.and_eq_true] at h
  refine ⟨h.1.1.1, h.1.1.2, h.1.2, fun e => ?_⟩
  cases a <;> simp [toD] at e
  simp at h
theorem k_eq : OkO g E (rData g.K (fun _ _ => True) PyData.eqv) eqM := k_data (c := fun a b => okD a && okD b) (fun _ _ _ => rfl) fun a b h => by simp only [Bool.and_eq_true] at h; exact ⟨h.1, h.2, trivial⟩
theorem k_ne : OkO g E (rData g.K (fun _ _ => True) fun d e => !PyData.eqv d e) neM := k_data (c := fun a b => okD a && okD b) (fun _ _ _ => rfl) fun a b h => by simp only [Bool.and_eq_true] at h; exact ⟨h.1, h.2, trivial⟩
theorem k_lt : OkO g E (rData g.K CC PySem.W.dataLt) ltM := k_data (c := okC) (fun _ _ _ => rfl) fun a b h => okC_cc h
theorem k_gt : OkO g E (rData g.K CC fun d e => PySem.W.dataLt e d) gtM := k_data (c := okC) (fun _ _ _ => rfl) fun a b h => okC_cc h
theorem k_le : OkO g E (rData g.K CC fun d e => !PySem.W.dataLt e d) leM := k_data (c := okC) (fun _ _ _ => rfl) fun a b h => okC_cc h
theorem k_ge : OkO g E (rData g.K CC fun d e => !PySem.W.dataLt d e) geM := k_data (c := okC) (fun _ _ _ => rfl) fun a b h => okC_cc h
/-! is -/
def isM : OM := fun a b st => match b, a with
  | .non, .non => .ok (.bl true) st
  | .non, _ => .ok (.bl false) st
  | .bl c, .bl d => .ok (.bl (decide (d = c))) st
  | _, _ => .fail
def isNotM : OM := fun a b st => match b, a with
  | .non, .non => .ok (.bl false) st
  | .non, _ => .ok (.bl true) st
  | .bl c, .bl d => .ok (.bl (!decide (d = c))) st
  | _, _ => .fail
def rIs : R2 := fun x y H Q => (y = .non ∧ Q (.bl (decide (x = .non))) H) ∨ ∃ a b, x = .bl a ∧ y = .bl b ∧ Q (.bl (decide (a = b))) H
def rIsNot : R2 := fun x y H Q => (y = .non ∧ Q (.bl (!decide (x = .non))) H) ∨ ∃ a b, x = .bl a ∧ y = .bl b ∧ Q (.bl (!decide (a = b))) H
theorem o_is : OpR X (compareOp .Is) rIs := OpR.or op_isN op_is_bl
theorem o_isNot : OpR X (compareOp .IsNot) rIsNot := OpR.or op_notN op_isnot_bl
theorem Rp.ne_non {ρ H w v} (r : Rp g ρ H w v) (h : w ≠ .non) : v ≠ .non := by
  rintro rfl
  cases w with
  | non => exact h rfl
  | bl b => cases r
  | int i => cases r
  | str x => cases r.1
  | tup ws => obtain ⟨a, vs, e, _⟩ := r; cases e
  | kt ws => obtain ⟨a, vs, e, _⟩ := r; cases e
  | lst ws => obtain ⟨a, vs, e, _⟩ := r; cases e
  | dK ws => obtain ⟨a, vs, e, _⟩ := r; cases e
  | dT ws => obtain ⟨a, vs, e, _⟩ := r; cases e
  | ref ws => obtain ⟨a, e, _⟩ := r; cases e
  | scr ws => obtain ⟨a, e, _⟩ := r; cases e
theorem k_is : OkO g E rIs isM := by
  intro ρ H st a b x y Q rs ra rb h
  unfold isM at h
  split at h
  · cases rb; cases ra; exact .inl ⟨rfl, h _ ρ H .refl rs rfl⟩
  · rename_i hn
    cases rb
    refine .inl ⟨rfl, ?_⟩
    rw [decide_eq_false (ra.ne_non fun e => hn e)]
    exact h _ ρ H .refl rs rfl
  · cases rb; cases ra; exact .inr ⟨_, _, rfl, rfl, h _ ρ H .refl rs rfl⟩
  · exact h.elim
theorem k_isNot : OkO g E rIsNot isNotM := by
  intro ρ H st a b x y Q rs ra rb h
  unfold isNotM at h
  split at h
  · cases rb; cases ra; exact .inl ⟨rfl, h _ ρ H .refl rs rfl⟩
  · rename_i hn
    cases rb
    refine .inl ⟨rfl, ?_⟩
    rw [decide_eq_false (ra.ne_non fun e => hn e)]
    exact h _ ρ H .refl rs rfl
  · cases rb; cases ra; exact .inr ⟨_, _, rfl, rfl, h _ ρ H .refl rs rfl⟩
  · exact h.elim
/-! in -/
def inB (st : Store) (a b : W) : Option Bool := match asQ st b with
  | some xs => if okD (asV st a) = true ∧ PyData.plainAll (toDs xs) = true then some (xs.any fun z => eqW z (asV st a)) else none
  | none => match a, b with
    | .str x, .str y => (match x.cps.toList with | [c] => some (decide (c ∈ y.cps.toList)) | _ => none)
    | a, b => match asDK st b with
      | some kvs => (match asKey a with | some k => some (valW kvs k).isSome | none => none)
      | none => match asDT st b with
        | some kvs => (match asKeys a with | some k => some (valW kvs k).isSome | none => none)
        | none => none
def inM : OM := fun a b st => match inB st a b with | some c => .ok (.bl c) st | none => .fail
def notInM : OM := fun a b st => match inB st a b with | some c => .ok (.bl (!c)) st | none => .fail
def rInA (K : PySem.W.Frag) (neg : Bool) : R2 := fun x y H Q =>
  (∃ d ds, Dp K H x d ∧ (Dp K H y (.list ds) ∨ Dp K H y (.tuple ds)) ∧ d.plain = true ∧ PyData.plainAll ds = true ∧ d.depth ≤ 60 ∧ Q (.bl (neg ^^ ds.any fun z => PyData.eqv z d)) H) ∨
  (∃ (c : Nat) (z : Str), x = .str ⟨#[c]⟩ ∧ y = .str z ∧ Q (.bl (neg ^^ decide (c ∈ z.cps.toList))) H) ∨
  ∃ a o, y = .ref a ∧ DGet H a x o ∧ Q (.bl (neg ^^ o.isSome)) H
theorem o_in (hr : Room k X.A) : OpR X (compareOp .In) (rInA X.K false) := by
  intro pins s σ H x y v u Q I rx ry h
  rcases h with ⟨d, ds, hd, he, pd, ps, dd, q⟩ | ⟨c, z, hx, hy, q⟩ | ⟨a, o, hy, hg, q⟩
  · obtain ⟨as, r1⟩ := Dp.reads I d x v hd rx
    have hu : X.A.units + 1 + min (PyData.depthAll ds) d.depth < cLine := by
      have := hr.units
      have := Nat.min_le_right (PyData.depthAll ds) d.depth
      omega
    rw [Bool.false_xor] at q
    rcases he with he | he
    · obtain ⟨bs, r2⟩ := Dp.reads I _ y u he ry
      exact SeqAt.in_list_data r2 r1 ps pd hu ⟨.bl _, H, I, rfl, q⟩
    · obtain ⟨bs, r2⟩ := Dp.reads I _ y u he ry
      exact SeqAt.in_tuple_data r2 r1 ps pd hu ⟨.bl _, H, I, rfl, q⟩
  · exact op_in_sign pins s σ H x y v u Q I rx ry ⟨c, z, hx, hy, by simpa using q⟩
  · subst hy
    obtain rfl : u = Value.ref a := ry
    exact d_in (hu_of hr) I hg rx fun s3 I3 => ⟨.bl o.isSome, H, I3, rfl, by simpa using q⟩
theorem o_notIn (hr : Room k X.A) : OpR X (compareOp .NotIn) (rInA X.K true) := by
  intro pins s σ H x y v u Q I rx ry h
  rcases h with ⟨d, ds, hd, he, pd, ps, dd, q⟩ | ⟨c, z, hx, hy, q⟩ | ⟨a, o, hy, hg, q⟩
  · obtain ⟨as, r1⟩ := Dp.reads I d x v hd rx
    have hu : X.A.units + 1 + min (PyData.depthAll ds) d.depth < cLine := by
      have := hr.units
      have := Nat.min_le_right (PyData.depthAll ds) d.depth
      omega
    rw [Bool.true_xor] at q
    rcases he with he | he
    · obtain ⟨bs, r2⟩ := Dp.reads I _ y u he ry
      exact SeqAt.notIn_list_data r2 r1 ps pd hu ⟨.bl _, H, I, rfl, q⟩
    · obtain ⟨bs, r2⟩ := Dp.reads I _ y u he ry
      exact SeqAt.notIn_tuple_data r2 r1 ps pd hu ⟨.bl _, H, I, rfl, q⟩
  · exact op_notIn_sign pins s σ H x y v u Q I rx ry ⟨c, z, hx, hy, by simpa using q⟩
  · subst hy
    obtain rfl : u = Value.ref a := ry
    exact d_notIn (hu_of hr) I hg rx fun s3 I3 => ⟨.bl (!o.isSome), H, I3, rfl, by simpa using q⟩
theorem str_one {x : Str} {c : Nat} (h : x.cps.toList = [c]) : x = ⟨#[c]⟩ := by
  cases x
  simp only [Str.mk.injEq]
  exact Array.toList_inj.mp h
theorem isSome_of {ρ H} {x : Option W} {y : Option V} (h : (x = none ∧ y = none) ∨ ∃ w v, x = some w ∧ y = some v ∧ Rp g ρ H w v) : x.isSome = y.isSome := by
  rcases h with ⟨e1, e2⟩ | ⟨w, v, e1, e2, _⟩ <;> rw [e1, e2] <;> rfl
theorem k_inG (neg : Bool) {F : OM} (hF : ∀ a b st, F a b st = match inB st a b with | some c => .ok (.bl (neg ^^ c)) st | none => .fail) : OkO g E (rInA g.K neg) F := by
  intro ρ H st a b x y Q rs ra rb h
  rw [hF] at h
  split at h
  · rename_i c e
    unfold inB at e
    split at e
    · rename_i xs q1
      split at e
      · rename_i hc
        cases e
        obtain ⟨a1, a2, a3⟩ := okD_dp rs ra hc.1
        obtain ⟨p, vs, e1, hs, r1, z1⟩ := asQ_rp rs rb q1
        have d1 := Rps.dp xs vs r1 hc.2
        refine .inl ⟨_, toDs xs, a1, ?_, a2, hc.2, a3, ?_⟩
        · rw [e1]
          rcases hs with hs | hs
          · exact .inl (.lst hs d1)
          · exact .inr (.tup hs d1)
        · have := h (.bl _) ρ H .refl rs rfl
          rw [toDs_map, List.any_map]
          exact this
      · cases e
    · split at e
      · split at e
        · rename_i c' ec
          cases e
          refine .inr (.inl ⟨c', _, ?_, rb.1, h _ ρ H .refl rs rfl⟩)
          rw [ra.1]
          exact congrArg V.str (str_one ec)
        · cases e
      · split at e
        · rename_i kvs q1
          split at e
          · rename_i kk q2
            cases e
            obtain ⟨p, us, e1, hd, r1, z1⟩ := asDK_rp rs rb q1
            refine .inr (.inr ⟨p, valV us kk, e1, .inl ⟨us, kk, hd, asKey_rp ra q2, rfl⟩, ?_⟩)
            rw [← isSome_of (r1.val kk)]
            exact h _ ρ H .refl rs rfl
          · cases e
        · split at e
          · rename_i kvs q1
            split at e
            · rename_i kk q2
              cases e
              obtain ⟨p, us, e1, hd, r1, z1⟩ := asDT_rp rs rb q1
              obtain ⟨bb, e2, hb⟩ := asKeys_rp ra q2
              refine .inr (.inr ⟨p, valV us kk, e1, .inr ⟨us, kk, bb, hd, e2, hb, rfl⟩, ?_⟩)
              rw [← isSome_of (r1.val kk)]
              exact h _ ρ H .refl rs rfl
            · cases e
          · cases e
  · exact h.elim
theorem k_in : OkO g E (rInA g.K false) inM := k_inG false fun a b st => by unfold inM; split <;> simp_all
theorem k_notIn : OkO g E (rInA g.K true) notInM := k_inG true fun a b st => by unfold notInM; split <;> simp_all
end
end
end VM

set_option Elab.async false
set_option linter.all false
set_option maxRecDepth 100000
namespace VM
noncomputable section
open PySem L2
abbrev FM := List W → Store → Res W
abbrev AM := L → Store → Res (List W)
def OkF (g : G) (E : XK) (r : List V → Hp → VK → Prop) (f : FM) : Prop := ∀ ρ H st ws vs Q, RS g ρ H st → Rps g ρ H ws vs → wpp g E (RW g) ρ H Q (f ws st) → r vs H Q
@[simp] def bM (f : FM) (m : AM) : EM := fun ls st => (m ls st).bind fun ws st1 => f ws st1
section
variable {g : G} {E : XK} {X : Cx} {k : Nat}
theorem T_B {r : List V → Hp → VK → Prop} {f : FM} {m : AM} (ok : OkF g E r f) : ∀ σ H Q, T g E (bM f m) σ H Q → tCB r (TA' g E m) σ H Q := fun σ H Q ⟨ρ, ls, st, rl, rs, h⟩ =>
  tg_go (R2 := RW g) rl rs h fun vs H1 ρ1 st1 ws n1 rl1 rs1 r1 h1 => ok ρ1 H1 st1 ws vs Q rs1 r1 h1
theorem r_B {x : Str} {id : String} {p pos : Pos} {e : Expr} {es : List Expr} {r f m} (hc : CallR X (.builtin id) r) (ok : OkF g E r f) (hg : Gl X x) (hm : X.mg x = none) (hv : bootBuiltins x = some (.builtin id)) (ha : PA X (e :: es) (TA' g E m)) (hn : x ≠ "__name__" := by decide) (hdb : (x == ("__debug__" : Str)) = false := by decide)
    (he : starEach (e :: es) X.env = (false, eval e X.env) :: starEach es X.env := by rfl) (hpl : (backTo pos (starEach es X.env)).any (·.1) = false := by rfl) : PE X (.Call (.Name x p) (e :: es) [] pos) (T g E (bM f m)) :=
  PEw (pe_callB hc hg hm hv ha hn hdb he hpl) (T_B ok)
theorem r_Ty {x : Str} {id : String} {p pos : Pos} {e : Expr} {es : List Expr} {r f m} (hc : CallR X (.type id) r) (ok : OkF g E r f) (hg : Gl X x) (hm : X.mg x = none) (hv : bootBuiltins x = some (.type id)) (ha : PA X (e :: es) (TA' g E m)) (hn : x ≠ "__name__" := by decide) (hdb : (x == ("__debug__" : Str)) = false := by decide)
    (he : starEach (e :: es) X.env = (false, eval e X.env) :: starEach es X.env := by rfl) (hpl : (backTo pos (starEach es X.env)).any (·.1) = false := by rfl) : PE X (.Call (.Name x p) (e :: es) [] pos) (T g E (bM f m)) :=
  PEw (pe_callTy hc hg hm hv ha hn hdb he hpl) (T_B ok)
theorem rps1 {ρ H ws vs} (r : Rps g ρ H ws vs) {w : W} (e : ws = [w]) : ∃ v, vs = [v] ∧ Rp g ρ H w v := by
  subst e
  obtain ⟨v, r', e, h1, h2⟩ := r
  cases h2
  exact ⟨v, e, h1⟩
theorem rps2 {ρ H ws vs} (r : Rps g ρ H ws vs) {w w' : W} (e : ws = [w, w']) : ∃ v v', vs = [v, v'] ∧ Rp g ρ H w v ∧ Rp g ρ H w' v' := by
  subst e
  obtain ⟨v, r', e, h1, v', r'', e', h2, h3⟩ := r
  cases h3
  exact ⟨v, v', by rw [e, e'], h1, h2⟩
/-! len -/
def lenN (st : Store) (w : W) : Option Nat := match asQ st w with
  | some xs => some xs.length
  | none => match w with
    | .str x => some x.length
    | w => match asDK st w with
      | some kvs => some kvs.length
      | none => match asDT st w with | some kvs => some kvs.length | none => none
def lenF : FM := fun ws st => match ws with
  | [w] => (match lenN st w with | some n => .ok (.int n) st | none => .fail)
  | _ => .fail
def rLenD : List V → Hp → VK → Prop := fun xs H Q => (∃ a kvs, xs = [V.ref a] ∧ Rd H a (.dK kvs) ∧ Q (.int kvs.length) H) ∨ ∃ a kvs, xs = [V.ref a] ∧ Rd H a (.dT kvs) ∧ Q (.int ((kvs.length : Nat) : Int)) H
theorem call_lenDR : CallR X (.builtin "len") rLenD := by
  intro pins s σ H xs us Q I r h
  rcases h with ⟨a, kvs, rfl, hd, q⟩ | ⟨a, kvs, rfl, hd, q⟩
  · obtain ⟨u, rfl, ru⟩ := vals1 r
    cases ru
    exact d_len I hd fun t s' I' => ⟨.int kvs.length, H, I', ⟨t, rfl⟩, q⟩
  · obtain ⟨u, rfl, ru⟩ := vals1 r
    obtain rfl : u = .ref a := ru
    obtain ⟨z, hd', ys, rel, dd⟩ := dt_rd I.hok hd
    have hl : kvs.length = ys.length := Paired.length rel
    refine call_len_dictH hd' dd (by rw [← hl]; rw [sizeLine_eq] at z; omega) ?_
    rw [← hl]
    exact ⟨.int ((kvs.length : Nat) : Int), H, I.tok _, ⟨_, rfl⟩, q⟩
def rLenA (K : PySem.W.Frag) : List V → Hp → VK → Prop := fun xs H Q => ((∃ p ys, xs = [.ref p] ∧ (SqL K H p ys ∨ SqT K H p ys) ∧ Q (.int ys.length) H) ∨ ∃ z, xs = [.str z] ∧ z.length ≤ sizeLine ∧ Q (.int z.length) H) ∨ rLenD xs H Q
theorem c_len : CallR X (.builtin "len") (rLenA X.K) := CallR.or (CallR.or call_len_seq call_len_str) call_lenDR
theorem f_len : OkF g E (rLenA g.K) lenF := by
  intro ρ H st ws vs Q rs r h
  unfold lenF at h
  split at h
  · rename_i w
    obtain ⟨v, rfl, rw'⟩ := rps1 r rfl
    split at h
    · rename_i n e
      unfold lenN at e
      split at e
      · rename_i xs q1
        cases e
        obtain ⟨p, vs', e1, hs, r1, z1⟩ := asQ_rp rs rw' q1
        exact .inl (.inl ⟨p, vs', by rw [e1], hs, by rw [← r1.length]; exact h _ ρ H .refl rs rfl⟩)
      · split at e
        · cases e
          exact .inl (.inr ⟨_, by rw [rw'.1], rw'.2, h _ ρ H .refl rs rfl⟩)
        · split at e
          · rename_i kvs q1
            cases e
            obtain ⟨p, us, e1, hd, r1, z1⟩ := asDK_rp rs rw' q1
            exact .inr (.inl ⟨p, us, by rw [e1], hd, by rw [r1.length]; exact h _ ρ H .refl rs rfl⟩)
          · split at e
            · rename_i kvs q1
              cases e
              obtain ⟨p, us, e1, hd, r1, z1⟩ := asDT_rp rs rw' q1
              exact .inr (.inr ⟨p, us, by rw [e1], hd, by rw [r1.length]; exact h _ ρ H .refl rs rfl⟩)
            · cases e
    · exact h.elim
  · exact h.elim
/-! all, any, sum -/
def asBs : List W → Option (List Bool)
  | [] => some []
  | .bl b :: r => (match asBs r with | some bs => some (b :: bs) | none => none)
  | _ :: _ => none
def asIs : List W → Option (List Int)
  | [] => some []
  | .int b :: r => (match asIs r with | some bs => some (b :: bs) | none => none)
  | _ :: _ => none
theorem asBs_rp {ρ H} : ∀ {ws : List W} {vs bs}, Rps g ρ H ws vs → asBs ws = some bs → vs = bs.map V.bl
  | [], _, _, h, e => by cases h; cases e; rfl
  | w :: ws, _, bs, ⟨v, r, e1, h1, h2⟩, e => by
    cases w with
    | bl b =>
      unfold asBs at e
      split at e
      · rename_i bs' q
        cases e
        rw [e1, asBs_rp h2 q, show v = V.bl b from h1]; rfl
      · cases e
    | _ => simp [asBs] at e
theorem asIs_rp {ρ H} : ∀ {ws : List W} {vs bs}, Rps g ρ H ws vs → asIs ws = some bs → vs = bs.map V.int
  | [], _, _, h, e => by cases h; cases e; rfl
  | w :: ws, _, bs, ⟨v, r, e1, h1, h2⟩, e => by
    cases w with
    | int b =>
      unfold asIs at e
      split at e
      · rename_i bs' q
        cases e
        rw [e1, asIs_rp h2 q, show v = V.int b from h1]; rfl
      · cases e
    | _ => simp [asIs] at e
def onL {α : Type} (p : List W → Option α) (f : α → W) : FM := fun ws st => match ws with
  | [w] => (match asL st w with | some xs => (match p xs with | some a => .ok (f a) st | none => .fail) | none => .fail)
  | _ => .fail
def allF : FM := onL asBs fun bs => .bl (bs.all id)
def anyF : FM := onL asBs fun bs => .bl (bs.any id)
def sumF : FM := onL asIs fun ns => .int ns.sum
theorem f_onL {α : Type} {p : List W → Option α} {f : α → W} {r : List V → Hp → VK → Prop} (hr : ∀ ρ H st a vs xs x Q, H a = some (.lst vs) → Rps g ρ H xs vs → RS g ρ H st → p xs = some x → wpp g E (RW g) ρ H Q (.ok (f x) st) → r [.ref a] H Q) : OkF g E r (onL p f) := by
  intro ρ H st ws vs Q rs rr h
  unfold onL at h
  split at h
  · obtain ⟨v, rfl, rw'⟩ := rps1 rr rfl
    split at h
    · rename_i xs q1
      split at h
      · rename_i x q2
        obtain ⟨a, vs', e1, ha, r1, z1⟩ := asL_rp rs rw' q1
        rw [e1]
        exact hr ρ H st a vs' xs x Q ha r1 rs q2 h
      · exact h.elim
    · exact h.elim
  · exact h.elim
theorem f_all : OkF g E (rAll g.K) allF := f_onL fun ρ H st a vs xs x Q ha r1 rs q h => ⟨a, x, rfl, by rw [← asBs_rp r1 q]; exact .of ha, h _ ρ H .refl rs rfl⟩
theorem f_any : OkF g E (rAny g.K) anyF := f_onL fun ρ H st a vs xs x Q ha r1 rs q h => ⟨a, x, rfl, by rw [← asBs_rp r1 q]; exact .of ha, h _ ρ H .refl rs rfl⟩
theorem f_sum : OkF g E (rSum g.K) sumF := f_onL fun ρ H st a vs xs x Q ha r1 rs q h => ⟨a, x, rfl, by rw [← asIs_rp r1 q]; exact .of ha, h _ ρ H .refl rs rfl⟩
/-! min, max of two ints -/
def min2F : FM := fun ws st => match ws with | [.int i, .int j] => .ok (.int (if j < i then j else i)) st | _ => .fail
def max2F : FM := fun ws st => match ws with | [.int i, .int j] => .ok (.int (if j > i then j else i)) st | _ => .fail
theorem f_min2 : OkF g E (fun xs H Q => ∃ i j, xs = [.int i, .int j] ∧ Q (.int (if j < i then j else i)) H) min2F := by
  intro ρ H st ws vs Q rs r h
  unfold min2F at h
  split at h
  · obtain ⟨v, v', rfl, r1, r2⟩ := rps2 r rfl
    cases r1; cases r2
    exact ⟨_, _, rfl, h _ ρ H .refl rs rfl⟩
  · exact h.elim
theorem f_max2 : OkF g E (fun xs H Q => ∃ i j, xs = [.int i, .int j] ∧ Q (.int (if j > i then j else i)) H) max2F := by
  intro ρ H st ws vs Q rs r h
  unfold max2F at h
  split at h
  · obtain ⟨v, v', rfl, r1, r2⟩ := rps2 r rfl
    cases r1; cases r2
    exact ⟨_, _, rfl, h _ ρ H .refl rs rfl⟩
  · exact h.elim
/-! tuple(..), list(..) of a list or a tuple; list(script) -/
def asA (st : Store) (w : W) : Option (List W) := match asQ st w with
  | some xs => some xs
  | none => match w with | .scr ns => some (ns.map .int) | _ => none
def tupleF : FM := fun ws st => match ws with
  | [.tup xs] => .ok (.tup xs) st
  | [.kt xs] => .ok (.kt xs) st
  | [w] => (match asL st w with | some xs => .ok (.tup xs) st | none => .fail)
  | _ => .fail
theorem f_tuple : OkF g E (fun xs H Q => ∃ p ys, xs = [.ref p] ∧ ((SqL g.K H p ys ∧ ∀ l, H l = none → Q (.ref l) (upd H l (.tup ys))) ∨ (SqT g.K H p ys ∧ Q (.ref p) H))) tupleF := by
  intro ρ H st ws vs Q rs r h
  unfold tupleF at h
  split at h
  · obtain ⟨v, rfl, rw'⟩ := rps1 r rfl
    obtain ⟨a, vs', e1, hs, r1, z1⟩ := asT_rp (w := .tup _) rw' rfl
    exact ⟨a, vs', by rw [e1], .inr ⟨hs, by rw [← e1]; exact wpp_flat rs rw' h⟩⟩
  · obtain ⟨v, rfl, rw'⟩ := rps1 r rfl
    obtain ⟨a, vs', e1, hs, r1, z1⟩ := asT_rp (w := .kt _) rw' rfl
    exact ⟨a, vs', by rw [e1], .inr ⟨hs, by rw [← e1]; exact wpp_flat rs rw' h⟩⟩
  · obtain ⟨v, rfl, rw'⟩ := rps1 r rfl
    split at h
    · rename_i xs q1
      obtain ⟨a, vs', e1, ha, r1, z1⟩ := asL_rp rs rw' q1
      exact ⟨a, vs', by rw [e1], .inl ⟨.of ha, fun l hl => new_tup rs r1 z1 hl h⟩⟩
    · exact h.elim
  · exact h.elim
theorem rps_ints {ρ H} : ∀ ns : List Int, Rps g ρ H (ns.map W.int) (ns.map V.int)
  | [] => rfl
  | n :: ns => ⟨_, _, rfl, rfl, rps_ints ns⟩
theorem asA_rp {ρ H st w v xs} (rs : RS g ρ H st) (r : Rp g ρ H w v) (e : asA st w = some xs) : ∃ a vs, v = .ref a ∧ (SqL g.K H a vs ∨ SqT g.K H a vs) ∧ Rps g ρ H xs vs ∧ xs.length ≤ sizeLine := by
  unfold asA at e
  split at e
  · rename_i ys q
    cases e
    exact asQ_rp rs r q
  · split at e
    · rename_i ns _
      cases e
      obtain ⟨a, e1, h, z⟩ := r
      refine ⟨a, _, e1, .inl ?_, rps_ints ns, by simpa using z⟩
      rcases h with ⟨h, _⟩ | h
      · exact .inl h
      · exact .inr h
    · cases e
def listF (c : Bool) : FM := fun ws st => match ws with
  | [w] => (match asA st w with | some xs => newL c xs st | none => .fail)
  | _ => .fail
theorem f_list (c : Bool) : OkF g E (fun xs H Q => ∃ p ys, xs = [.ref p] ∧ (SqL g.K H p ys ∨ SqT g.K H p ys) ∧ ∀ l, H l = none → Q (.ref l) (upd H l (.lst ys))) (listF c) := by
  intro ρ H st ws vs Q rs r h
  unfold listF at h
  split at h
  · obtain ⟨v, rfl, rw'⟩ := rps1 r rfl
    split at h
    · rename_i xs q1
      obtain ⟨a, vs', e1, ha, r1, z1⟩ := asA_rp rs rw' q1
      exact ⟨a, vs', by rw [e1], ha, fun l hl => new_L rs r1 z1 hl h⟩
    · exact h.elim
  · exact h.elim
/-! isinstance -/
inductive PTy | non | bl | int | str | tup | lst | dct
  deriving DecidableEq
def PTy.nm : PTy → String
  | .non => "NoneType" | .bl => "bool" | .int => "int" | .str => "str" | .tup => "tuple" | .lst => "list" | .dct => "dict"
def PTy.isa (t c : PTy) : Bool := t == c || (t == .bl && c == .int)
theorem kit_pt (t c : PTy) (h : c ≠ .non) : kitB t.nm c.nm = some (t.isa c) := by
  cases c <;> first | exact absurd rfl h | (cases t <;> decide +kernel)
def tyW (st : Store) : W → Option PTy
  | .non => some .non
  | .bl _ => some .bl
  | .int _ => some .int
  | .str _ => some .str
  | .tup _ => some .tup
  | .kt _ => some .tup
  | .lst _ => some .lst
  | .scr _ => some .lst
  | .dK _ => some .dct
  | .dT _ => some .dct
  | .ref n => match st[n]? with
    | some (.lst _) => some .lst | some (.lkL _) => some .lst | some (.dK _) => some .dct | some (.dT _) => some .dct | some (.lkK _) => none | some (.lkT _) => none
    | _ => none
theorem tyW_rp {ρ H st w v t} (rs : RS g ρ H st) (r : Rp g ρ H w v) (e : tyW st w = some t) (hd : t ≠ .dct) : TyX g.K H v (.type t.nm) := by
  cases w with
  | non => cases r; cases e; exact .base .non
  | bl b => cases r; cases e; exact .base (.bl b)
  | int i => cases r; cases e; exact .base (.int i)
  | str x => cases r.1; cases e; exact .base (.str x)
  | tup ws => obtain ⟨a, vs, e1, h, _⟩ := r; cases e; rw [e1]; exact .base (.tup h)
  | kt ws => obtain ⟨a, vs, e1, ⟨o, its, n, h1, h2, _⟩, _⟩ := r; cases e; rw [e1]; exact .kTuple h1 h2
  | lst ws => obtain ⟨a, vs, e1, h, _⟩ := r; cases e; rw [e1]; exact .base (.lst h)
  | scr ws =>
    obtain ⟨a, e1, h, _⟩ := r
    cases e
    rw [e1]
    rcases h with ⟨h | ⟨o, h⟩, _⟩ | ⟨o, its, n, h1, h2, _⟩
    · exact .base (.lst h)
    · exact .base (.frz h)
    · exact .kList h1 h2
  | dK ws => cases e; exact absurd rfl hd
  | dT ws => cases e; exact absurd rfl hd
  | ref n =>
    obtain ⟨a, e1, h⟩ := r
    obtain ⟨c, hc, rc⟩ := rs.get h
    simp only [tyW, hc] at e
    rw [e1]
    cases c with
    | lst xs => cases e; obtain ⟨vs, h, _⟩ := rc; exact .base (.lst h)
    | lkL xs => cases e; obtain ⟨vs, h, _⟩ := rc; exact .base (.lst h)
    | dK xs => cases e; exact absurd rfl hd
    | dT xs => cases e; exact absurd rfl hd
    | _ => cases e
def isiM (cs : List PTy) (m : EM) : EM := fun ls st => (m ls st).bind fun w st1 => match tyW st1 w with
  | some t => if t = .dct then .fail else .ok (.bl (cs.any fun c => t.isa c)) st1
  | none => .fail
theorem isi_go {ρ H Q w st} {f : PTy → Bool} (h : wpp g E (RW g) ρ H Q (match tyW st w with | some t => if t = .dct then .fail else .ok (.bl (f t)) st | none => .fail)) : ∃ t, tyW st w = some t ∧ t ≠ .dct ∧ wpp g E (RW g) ρ H Q (.ok (.bl (f t)) st) := by
  split at h
  · rename_i t e
    split at h
    · exact h.elim
    · exact ⟨t, e, by assumption, h⟩
  · exact h.elim
/-- isinstance(e, T) -/
theorem r_isi1 (hK : X.K = g.K) {e : Expr} {x : Str} {p p2 pos : Pos} {m : EM} (c : PTy) (hc : c ≠ .non) (hg : Gl X "isinstance") (hm : X.mg "isinstance" = none) (hgx : Gl X x) (hmx : X.mg x = none) (hvx : bootBuiltins x = some (.type c.nm)) (he : PE X e (T g E m))
    (hn : x ≠ "__name__" := by decide) (hdb : (x == ("__debug__" : Str)) = false := by decide)
    (hs : starEach (e :: [.Name x p2]) X.env = (false, eval e X.env) :: starEach [.Name x p2] X.env := by rfl) (hs2 : starEach [.Name x p2] X.env = (false, eval (.Name x p2) X.env) :: starEach [] X.env := by rfl) (hpl : (backTo pos (starEach [.Name x p2] X.env)).any (·.1) = false := by rfl) :
    PE X (.Call (.Name "isinstance" p) [e, .Name x p2] [] pos) (T g E (isiM [c] m)) :=
  PEw (pe_callB (call_isi (X := X)) hg hm (by decide +kernel) (pa_cons he (pa_cons (pe_bltn (v := .ty c.nm) hgx hmx hvx rfl hn hdb) pa_nil hs2) hs) (by decide) (by decide) hs hpl) fun σ H Q ⟨ρ, ls, st, rl, rs, h⟩ =>
    tg_go (R2 := RW g) rl rs h fun v H1 ρ1 st1 w n1 rl1 rs1 r1 h1 => by
      obtain ⟨t, e1, e2, h1⟩ := isi_go (f := fun t => [c].any fun c => t.isa c) h1
      refine ⟨v, .ty c.nm, .type t.nm, .type c.nm, t.isa c, rfl, .ty _, by rw [hK]; exact tyW_rp rs1 r1 e1 e2, kit_ty (kit_pt t c hc), ?_⟩
      have := h1 (.bl (t.isa c)) ρ1 H1 .refl rs1 (by show V.bl _ = V.bl _; simp)
      exact this
/-- isinstance(e, (T, U)) -/
theorem r_isi2 (hK : X.K = g.K) {e : Expr} {x y : Str} {p p2 p3 pt pos : Pos} {kk} {m : EM} (c d : PTy) (hc : c ≠ .non) (hd : d ≠ .non) (hg : Gl X "isinstance") (hm : X.mg "isinstance" = none) (hgx : Gl X x) (hmx : X.mg x = none) (hvx : bootBuiltins x = some (.type c.nm)) (hgy : Gl X y) (hmy : X.mg y = none) (hvy : bootBuiltins y = some (.type d.nm)) (he : PE X e (T g E m))
    (hn : x ≠ "__name__" := by decide) (hdb : (x == ("__debug__" : Str)) = false := by decide) (hny : y ≠ "__name__" := by decide) (hdby : (y == ("__debug__" : Str)) = false := by decide)
    (hs : starEach (e :: [.Tuple [.Name x p2, .Name y p3] kk pt]) X.env = (false, eval e X.env) :: starEach [.Tuple [.Name x p2, .Name y p3] kk pt] X.env := by rfl) (hs2 : starEach [.Tuple [.Name x p2, .Name y p3] kk pt] X.env = (false, eval (.Tuple [.Name x p2, .Name y p3] kk pt) X.env) :: starEach [] X.env := by rfl)
    (hs3 : starEach [.Name x p2, .Name y p3] X.env = (false, eval (.Name x p2) X.env) :: starEach [.Name y p3] X.env := by rfl) (hs4 : starEach [.Name y p3] X.env = (false, eval (.Name y p3) X.env) :: starEach [] X.env := by rfl) (hpl : (backTo pos (starEach [.Tuple [.Name x p2, .Name y p3] kk pt] X.env)).any (·.1) = false := by rfl) :
    PE X (.Call (.Name "isinstance" p) [e, .Tuple [.Name x p2, .Name y p3] kk pt] [] pos) (T g E (isiM [c, d] m)) :=
  PEw (pe_callB (call_isiT (X := X)) hg hm (by decide +kernel) (pa_cons he (pa_cons (pe_tup (pa_cons (pe_bltn (v := .ty c.nm) hgx hmx hvx rfl hn hdb) (pa_cons (pe_bltn (v := .ty d.nm) hgy hmy hvy rfl hny hdby) pa_nil hs4) hs3)) pa_nil hs2) hs) (by decide) (by decide) hs hpl) fun σ H Q ⟨ρ, ls, st, rl, rs, h⟩ =>
    tg_go (R2 := RW g) rl rs h fun v H1 ρ1 st1 w n1 rl1 rs1 r1 h1 => by
      obtain ⟨t, e1, e2, h1⟩ := isi_go (f := fun t => [c, d].any fun c => t.isa c) h1
      refine ⟨by show 2 ≤ sizeLine; decide, fun q hq => ?_⟩
      refine ⟨v, q, [.ty c.nm, .ty d.nm], .type t.nm, [.type c.nm, .type d.nm], t.isa c || t.isa d, rfl, upd_same, .cons (.ty _) (.cons (.ty _) .nil), by rw [hK]; exact tyW_rp (rs1.alloc hq) (Rp.mono (.alloc hq) _ _ r1) e1 e2, ?_, ?_⟩
      · refine kitAny_cons (kit_ty (kit_pt t c hc)) (fun hf => ?_) (fun ht => by rw [ht]; rfl)
        rw [hf, Bool.false_or]
        exact kitAny_cons (kit_ty (kit_pt t d hd)) (fun hf => by rw [hf]; exact kitAny_nil) (fun ht => ht)
      · exact h1 _ ρ1 _ (.alloc hq) (rs1.alloc hq) (by show V.bl _ = V.bl _; simp)
end
end
end VM

set_option Elab.async false
set_option linter.all false
set_option maxRecDepth 100000
namespace VM
noncomputable section
open PySem L2
/-! ### subscripts -/
def ixW : OM := fun a b st => match asQ st a with
  | some xs => (match b with | .int i => (match atI xs i with | some w => .ok w st | none => .fail) | _ => .fail)
  | none => match a with
    | .str x => (match b with | .int i => (match atI x.cps.toList i with | some c => .ok (.str ⟨#[c]⟩) st | none => .fail) | _ => .fail)
    | a => match asDK st a with
      | some kvs => (match asKey b with | some k => (match valW kvs k with | some w => .ok w st | none => .fail) | none => .fail)
      | none => match asDT st a with
        | some kvs => (match asKeys b with | some k => (match valW kvs k with | some w => .ok w st | none => .fail) | none => .fail)
        | none => .fail
def rIxDG : R2 := fun x y H Q => ∃ a v, x = .ref a ∧ DGet H a y (some v) ∧ Q v H
def rIxA (K : PySem.W.Frag) : R2 := fun x y H Q => rIx K x y H Q ∨ rIxDG x y H Q
section
variable {g : G} {E : XK} {X : Cx} {k : Nat}
theorem ix_dg (hr : Room k X.A) : IxR X rIxDG := by
  intro value slice pins s σ H x y v u Q I rx ry ⟨a, z, e, hg, q⟩ hs
  subst e
  obtain rfl : v = Value.ref a := rx
  exact PyProof.Rows.tail_any (dict_typeIs I hg) PySem.F.slot_dict_getitem.lookup (d_getItem (hu_of hr) I hg ry fun w' s3 I3 rw' => ⟨z, H, I3, rw', q⟩) hs
theorem x_ix (hr : Room k X.A) : IxR X (rIxA X.K) := IxR.or ix_seq (ix_dg hr)
theorem atI_rps {ρ H} {xs : List W} {vs : List V} {i : Int} {w : W} (r : Rps g ρ H xs vs) (e : atI xs i = some w) : ∃ v, atI vs i = some v ∧ Rp g ρ H w v := by
  unfold atI at e ⊢
  rw [r.length] at e
  cases q : ixN vs.length i with
  | none => rw [q] at e; cases e
  | some j =>
    rw [q] at e
    simp only [Option.bind_some] at e ⊢
    exact r.get e
theorem k_ix : OkO g E (rIxA g.K) ixW := by
  intro ρ H st a b x y Q rs ra rb h
  unfold ixW at h
  split at h
  · rename_i xs q1
    split at h
    · split at h
      · rename_i w q2
        obtain ⟨p, vs, e1, hs, r1, z1⟩ := asQ_rp rs ra q1
        obtain ⟨v, e2, r2⟩ := atI_rps r1 q2
        rcases hs with hs | hs
        · exact .inl (.inl ⟨p, vs, _, v, e1, rb, hs, e2, wpp_flat rs r2 h⟩)
        · exact .inl (.inr (.inl ⟨p, vs, _, v, e1, rb, hs, e2, wpp_flat rs r2 h⟩))
      · exact h.elim
    · exact h.elim
  · split at h
    · split at h
      · split at h
        · rename_i c q2
          exact .inl (.inr (.inr ⟨_, _, c, ra.1, rb, ra.2, q2, h _ ρ H .refl rs ⟨rfl, by show 1 ≤ sizeLine; decide⟩⟩))
        · exact h.elim
      · exact h.elim
    · split at h
      · rename_i kvs q1
        split at h
        · rename_i kk q2
          split at h
          · rename_i w q3
            obtain ⟨p, us, e1, hd, r1, z1⟩ := asDK_rp rs ra q1
            rcases r1.val kk with ⟨e, _⟩ | ⟨w', v, e2, e3, r2⟩
            · rw [e] at q3; cases q3
            · rw [e2] at q3; cases q3
              exact .inr ⟨p, v, e1, .inl ⟨us, kk, hd, asKey_rp rb q2, e3.symm⟩, wpp_flat rs r2 h⟩
          · exact h.elim
        · exact h.elim
      · split at h
        · rename_i kvs q1
          split at h
          · rename_i kk q2
            split at h
            · rename_i w q3
              obtain ⟨p, us, e1, hd, r1, z1⟩ := asDT_rp rs ra q1
              obtain ⟨bb, e5, hb⟩ := asKeys_rp rb q2
              rcases r1.val kk with ⟨e, _⟩ | ⟨w', v, e2, e3, r2⟩
              · rw [e] at q3; cases q3
              · rw [e2] at q3; cases q3
                exact .inr ⟨p, v, e1, .inr ⟨us, kk, bb, hd, e5, hb, e3.symm⟩, wpp_flat rs r2 h⟩
            · exact h.elim
          · exact h.elim
        · exact h.elim
theorem r_ix (hK : X.K = g.K) (hr : Room k X.A) {a b : Expr} {pos ma mb} (ha : PE X a (T g E ma)) (hb : PE X b (T g E mb)) (hs : PlainIx b := by exact fun _ _ => rfl) : PE X (.Subscript a b pos) (T g E (opM ixW ma mb)) :=
  PEw (pe_ix (by rw [← hK]; exact x_ix hr) ha hb hs) (T_op k_ix)
/-! ### slices -/
@[simp] def oN : L → Store → Res (Option Int) := fun _ st => .ok none st
@[simp] def oS (m : EM) : L → Store → Res (Option Int) := fun ls st => (m ls st).bind fun w st1 => match w with | .int i => .ok (some i) st1 | _ => .fail
theorem o_none : PO X none (TO' g E oN) := POw po_none fun σ H Q ⟨ρ, ls, st, rl, rs, h⟩ => h none ρ H .refl rs rfl
theorem o_some {e : Expr} {m} (he : PE X e (T g E m)) : PO X (some e) (TO' g E (oS m)) := POw (po_some he) fun σ H Q ⟨ρ, ls, st, rl, rs, h⟩ =>
  tg_go (R2 := RI) rl rs h fun v H1 ρ1 st1 w n1 rl1 rs1 r1 h1 => by
    cases w with
    | int i => exact ⟨i, r1, h1 (some i) ρ1 H1 .refl rs1 rfl⟩
    | _ => exact h1.elim
def cutW {α : Type} (xs : List α) (lo hi : Option Int) : List α := (xs.drop (HT.sIx xs.length 0 lo)).take (HT.sIx xs.length xs.length hi - HT.sIx xs.length 0 lo)
def slW (c : Bool) (a : W) (lo hi : Option Int) (st : Store) : Res W := match a with
  | .str x => .ok (.str (cutS x lo hi)) st
  | .tup xs => .ok (.tup (cutW xs lo hi)) st
  | a => match asL st a with | some xs => newL c (cutW xs lo hi) st | none => .fail
@[simp] def slM (c : Bool) (me : EM) (ml mh : L → Store → Res (Option Int)) : EM := fun ls st => (me ls st).bind fun a st1 => (ml ls st1).bind fun lo st2 => (mh ls st2).bind fun hi st3 => slW c a lo hi st3
theorem sl_any : SlR X (fun x lo hi H Q => rSlS x lo hi H Q ∨ rSlA X.K x lo hi H Q ∨ rSlL X.K x lo hi H Q) := SlR.or sl_str (SlR.or sl_tupA sl_list)
theorem cutW_len {α : Type} (xs : List α) (lo hi) : (cutW xs lo hi).length ≤ xs.length := by
  unfold cutW
  rw [List.length_take, List.length_drop]; omega
theorem rps_cut {ρ H} {xs : List W} {vs : List V} (r : Rps g ρ H xs vs) (lo hi) : Rps g ρ H (cutW xs lo hi) (cutV vs lo hi) := by
  unfold cutW cutV
  rw [r.length]
  exact (r.drop _).take _
theorem r_sl (c : Bool) (hK : X.K = g.K) {e : Expr} {lo hi : Option Expr} {p2 pos me ml mh} (he : PE X e (T g E me)) (hl : PO X lo (TO' g E ml)) (hh : PO X hi (TO' g E mh)) : PE X (.Subscript e (.Slice lo hi none p2) pos) (T g E (slM c me ml mh)) :=
  PEw (pe_slice (sl_any (X := X)) he hl hh) fun σ H Q ⟨ρ, ls, st, rl, rs, h⟩ => tg_go (R2 := RW g) rl rs h fun x H1 ρ1 st1 a n1 rl1 rs1 r1 h1 => tg_go (R2 := RW g) rl1 rs1 h1 fun l H2 ρ2 st2 l' n2 rl2 rs2 r2 h2 =>
    tg_go (R2 := RW g) rl2 rs2 h2 fun u H3 ρ3 st3 u' n3 rl3 rs3 r3 h3 => by
      subst r2; subst r3
      have ra : Rp g ρ3 H3 a x := Rp.mono (n2.trans n3) _ _ r1
      unfold slW at h3
      split at h3
      · exact .inl ⟨_, ra.1, ra.2, h3 _ ρ3 H3 .refl rs3 ⟨rfl, Nat.le_trans (cutS_length _ _ _) ra.2⟩⟩
      · obtain ⟨p, vs, e1, hp, m, r, z⟩ := id ra
        refine .inr (.inl ⟨p, vs, e1, .of hp, fun hw => ?_, fun _ q hq => new_tup rs3 (rps_cut r _ _) (Nat.le_trans (cutW_len _ _ _) z) hq h3⟩)
        rw [← e1]
        refine wpp_flat (E := E) rs3 ra ?_
        rename_i xs
        have : cutW xs l' u' = xs := by
          unfold cutW
          rw [r.length, hw.1, hw.2, ← r.length]
          simp
        rw [← this]; exact h3
      · split at h3
        · rename_i xs q
          obtain ⟨p, vs, e1, hp, r, z⟩ := asL_rp rs3 ra q
          exact .inr (.inr ⟨p, vs, e1, .of hp, fun q hq => new_L rs3 (rps_cut r _ _) (Nat.le_trans (cutW_len _ _ _) z) hq h3⟩)
        · exact h3.elim
/-! ### stores -/
abbrev UM := W → W → W → Store → Res Unit
def rSetA : TSet := fun o i v H Q => rSetL o i v H Q ∨ rSetD o i v H Q
theorem set_any (hr : Room k X.A) : PSet X rSetA := by
  intro pins s σ H o i v ov iv u Q I ro ri rv h
  rcases h with h | h
  · exact set_list pins s σ H o i v ov iv u Q I ro ri rv h
  · exact set_dict (hu_of hr) pins s σ H o i v ov iv u Q I ro ri rv h
def setW : W → W → W → Store → Res Unit := fun o i v st => match o with
  | .ref n => (match st[n]? with
    | some (.lst xs) => (match i with | .int j => (match ixN xs.length j with | some j => .ok () (st.set n (.lst (xs.set j v))) | none => .fail) | _ => .fail)
    | some (.dK kvs) => (match asKey i with | some k => if szB (kvs.length + 1) = true then .ok () (st.set n (.dK (putW kvs k v))) else .fail | none => .fail)
    | some (.dT kvs) => (match asKeys i with | some k => if szB (kvs.length + 1) = true then .ok () (st.set n (.dT (putW kvs k v))) else .fail | none => .fail)
    | _ => .fail)
  | _ => .fail
theorem put_le {κ α : Type} [DecidableEq κ] {kvs : List (κ × α)} {k : κ} {v : α} (h : kvs.length < sizeLine) : (putW kvs k v).length ≤ sizeLine := Nat.le_trans (putW_length kvs k v) h
theorem k_set {ρ H st o i v x y z} {Q : Hp → Prop} (rs : RS g ρ H st) (ro : Rp g ρ H o x) (ri : Rp g ρ H i y) (rv : Rp g ρ H v z) (h : (setW o i v st).wp (fun _ st' => ∀ ρ' H', Nxt ρ H ρ' H' → RS g ρ' H' st' → Q H') (XPost g E ρ H)) : rSetA x y z H Q := by
  unfold setW at h
  split at h
  · rename_i n
    obtain ⟨a, e1, hn⟩ := ro
    obtain ⟨c, hc, rc⟩ := rs.get hn
    rw [hc] at h
    have nx : ∀ u, Nxt ρ H ρ (upd H a u) := fun u => Nxt.write hn (by cases q : H a with | none => exact absurd q rc.ne | some _ => rfl)
    cases c with
    | lst xs =>
      simp only at h
      split at h
      · split at h
        · rename_i j ej
          obtain ⟨vs, h1, r1, z1⟩ := rc
          refine .inl ⟨a, vs, _, j, e1, ri, h1, by rw [← r1.length]; exact ej, ?_⟩
          have r2 := Rps.mono (nx (.lst (vs.set j z))) _ _ (r1.set j rv)
          exact h ρ _ (nx _) (rs.write hn ⟨_, upd_same, r2, by rw [List.length_set]; exact z1⟩)
        · exact h.elim
      · exact h.elim
    | dK kvs =>
      simp only at h
      split at h
      · rename_i kk ek
        split at h
        · rename_i hl
          have hl : kvs.length < sizeLine := szB_iff.mp hl
          obtain ⟨us, h1, r1, z1⟩ := rc
          refine .inr ⟨a, _, e1, .inl ⟨us, kk, h1, asKey_rp ri ek, by rw [r1.length]; exact hl, rfl⟩, ?_⟩
          exact h ρ _ (nx _) (rs.write hn ⟨_, upd_same, RpK.mono (nx _) _ _ (r1.put rv), put_le hl⟩)
        · exact h.elim
      · exact h.elim
    | dT kvs =>
      simp only at h
      split at h
      · rename_i kk ek
        split at h
        · rename_i hl
          have hl : kvs.length < sizeLine := szB_iff.mp hl
          obtain ⟨us, h1, r1, z1⟩ := rc
          obtain ⟨bb, e5, hb⟩ := asKeys_rp ri ek
          refine .inr ⟨a, _, e1, .inr ⟨us, kk, bb, h1, e5, hb, by rw [r1.length]; exact hl, rfl⟩, ?_⟩
          exact h ρ _ (nx _) (rs.write hn ⟨_, upd_same, RpT.mono (nx _) _ _ (r1.put rv), put_le hl⟩)
        · exact h.elim
      · exact h.elim
    | _ => exact h.elim
  · exact h.elim
/-! ### methods of lists -/
abbrev MM := W → List W → Store → Res W
def OkM (g : G) (E : XK) (r : V → List V → Hp → VK → Prop) (f : MM) : Prop := ∀ ρ H st w ws x vs Q, RS g ρ H st → Rp g ρ H w x → Rps g ρ H ws vs → wpp g E (RW g) ρ H Q (f w ws st) → r x vs H Q
@[simp] def mlM (f : MM) (mo : EM) (ma : AM) : EM := fun ls st => (mo ls st).bind fun w st1 => if (asL st1 w).isSome = true then (ma ls st1).bind fun ws st2 => f w ws st2 else .fail
theorem asL_ty {ρ H st w v} (rs : RS g ρ H st) (r : Rp g ρ H w v) (h : (asL st w).isSome = true) : tyV g.K "list" v H := by
  cases e : asL st w with
  | none => rw [e] at h; cases h
  | some xs =>
    obtain ⟨a, vs, e1, ha, _⟩ := asL_rp rs r e
    rw [e1]
    exact .inl ⟨rfl, vs, .of ha⟩
theorem T_ml {r : V → List V → Hp → VK → Prop} {f : MM} {mo ma} (ok : OkM g E r f) : ∀ σ H Q, T g E (mlM f mo ma) σ H Q → tBM g.K "list" r (T g E mo) (TA' g E ma) σ H Q := fun σ H Q ⟨ρ, ls, st, rl, rs, h⟩ =>
  tg_go (R2 := RW g) rl rs h fun x H1 ρ1 st1 w n1 rl1 rs1 r1 h1 => by
    obtain ⟨hc, h1⟩ := wpp_if h1
    exact ⟨asL_ty rs1 r1 hc, tg_go (R2 := RW g) rl1 rs1 h1 fun vs H2 ρ2 st2 ws n2 rl2 rs2 r2 h2 => ok ρ2 H2 st2 w ws x vs Q rs2 (Rp.mono n2 _ _ r1) r2 h2⟩
theorem T_ml0 {r : V → List V → Hp → VK → Prop} {f : MM} {mo} (ok : OkM g E r f) : ∀ σ H Q, T g E (mlM f mo aN) σ H Q → tBM0 g.K "list" r (T g E mo) σ H Q := fun σ H Q ⟨ρ, ls, st, rl, rs, h⟩ =>
  tg_go (R2 := RW g) rl rs h fun x H1 ρ1 st1 w n1 rl1 rs1 r1 h1 => by
    obtain ⟨hc, h1⟩ := wpp_if h1
    exact ⟨asL_ty rs1 r1 hc, ok ρ1 H1 st1 w [] x [] Q rs1 r1 rfl h1⟩
/-- a cell that holds a list -/
def cellL (st : Store) : W → Option (Nat × List W)
  | .ref n => (match st[n]? with | some (.lst xs) => some (n, xs) | _ => none)
  | _ => none
theorem cellL_rp {ρ H st w v n xs} (rs : RS g ρ H st) (r : Rp g ρ H w v) (e : cellL st w = some (n, xs)) : ∃ a vs, v = .ref a ∧ ρ[n]? = some a ∧ H a = some (.lst vs) ∧ Rps g ρ H xs vs ∧ xs.length ≤ sizeLine := by
  cases w with
  | ref m =>
    obtain ⟨a, e1, h⟩ := r
    obtain ⟨c, hc, rc⟩ := rs.get h
    simp only [cellL, hc] at e
    cases c with
    | lst ys =>
      simp only [Option.some.injEq, Prod.mk.injEq] at e
      obtain ⟨rfl, rfl⟩ := e
      obtain ⟨vs, h1, r1, z⟩ := rc
      exact ⟨a, vs, e1, h, h1, r1, z⟩
    | _ => cases e
  | _ => cases e
theorem cell_write {ρ H st} {n : Nat} {a vs ys us} (rs : RS g ρ H st) (hn : ρ[n]? = some a) (ha : H a = some (.lst vs)) (r : Rps g ρ H ys us) (z : ys.length ≤ sizeLine) : Nxt ρ H ρ (upd H a (.lst us)) ∧ RS g ρ (upd H a (.lst us)) (st.set n (.lst ys)) := by
  have nx : Nxt ρ H ρ (upd H a (.lst us)) := Nxt.write hn (by rw [ha]; rfl)
  exact ⟨nx, rs.write hn ⟨_, upd_same, Rps.mono nx _ _ r, z⟩⟩
def appF : MM := fun w ws st => match cellL st w, ws with
  | some (n, xs), [y] => if szB (xs.length + 1) = true then .ok .non (st.set n (.lst (xs ++ [y]))) else .fail
  | _, _ => .fail
def popF : MM := fun w ws st => match cellL st w, ws with
  | some (n, xs), [] => (match xs[xs.length - 1]? with | some y => .ok y (st.set n (.lst xs.dropLast)) | none => .fail)
  | _, _ => .fail
def popAtF : MM := fun w ws st => match cellL st w, ws with
  | some (n, xs), [.int i] => if 0 ≤ i ∧ i < xs.length then (match xs[i.toNat]? with | some y => .ok y (st.set n (.lst (xs.eraseIdx i.toNat))) | none => .fail) else .fail
  | _, _ => .fail
def insF : MM := fun w ws st => match cellL st w, ws with
  | some (n, xs), [.int i, y] => if opq (0 ≤ i ∧ i < 2 ^ 63 ∧ xs.length < sizeLine) = true then .ok .non (st.set n (.lst (xs.take i.toNat ++ [y] ++ xs.drop i.toNat))) else .fail
  | _, _ => .fail
def extF : MM := fun w ws st => match cellL st w, ws with
  | some (n, xs), [y] => (match asL st y with | some ys => if szB (xs.length + ys.length) = true then .ok .non (st.set n (.lst (xs ++ ys))) else .fail | none => .fail)
  | _, _ => .fail
theorem rps_drop1 {ρ H} : ∀ {xs : List W} {vs : List V}, Rps g ρ H xs vs → Rps g ρ H xs.dropLast vs.dropLast := fun {xs vs} r => by
  rw [List.dropLast_eq_take, List.dropLast_eq_take, ← r.length]; exact r.take _
theorem rps_erase {ρ H} {xs : List W} {vs : List V} (r : Rps g ρ H xs vs) (j : Nat) : Rps g ρ H (xs.eraseIdx j) (vs.eraseIdx j) := by
  rw [List.eraseIdx_eq_take_drop_succ, List.eraseIdx_eq_take_drop_succ]; exact (r.take _).append (r.drop _)
theorem m_app : OkM g E rAppend appF := by
  intro ρ H st w ws x vs Q rs r ra h
  unfold appF at h
  split at h
  · rename_i n xs y q
    obtain ⟨hl, h⟩ := wpp_sz h
    obtain ⟨a, us, e1, hn, ha, r1, z⟩ := cellL_rp rs r q
    obtain ⟨v, e2, ry⟩ := rps1 ra rfl
    obtain ⟨nx, rs'⟩ := cell_write rs hn ha (r1.append (Rps.one ry)) (by rw [List.length_append]; exact hl)
    exact ⟨a, us, v, e1, e2, ha, by rw [← r1.length]; exact hl, h _ ρ _ nx rs' rfl⟩
  · exact h.elim
theorem m_pop : OkM g E rPop popF := by
  intro ρ H st w ws x vs Q rs r ra h
  unfold popF at h
  split at h
  · rename_i n xs q
    split at h
    · rename_i y ey
      obtain ⟨a, us, e1, hn, ha, r1, z⟩ := cellL_rp rs r q
      cases ra
      obtain ⟨v, e3, ry⟩ := r1.get ey
      obtain ⟨nx, rs'⟩ := cell_write rs hn ha (rps_drop1 r1) (by rw [List.length_dropLast]; omega)
      exact ⟨a, us, v, e1, rfl, ha, by rw [← r1.length]; exact e3, h _ ρ _ nx rs' (Rp.mono nx _ _ ry)⟩
    · exact h.elim
  · exact h.elim
theorem m_popAt : OkM g E rPopAt popAtF := by
  intro ρ H st w ws x vs Q rs r ra h
  unfold popAtF at h
  split at h
  · rename_i n xs i q
    obtain ⟨hl, h⟩ := wpp_if h
    split at h
    · rename_i y ey
      obtain ⟨a, us, e1, hn, ha, r1, z⟩ := cellL_rp rs r q
      obtain ⟨v0, e2, ri⟩ := rps1 ra rfl
      cases ri
      obtain ⟨v, e3, ry⟩ := r1.get ey
      obtain ⟨nx, rs'⟩ := cell_write rs hn ha (rps_erase r1 i.toNat) (Nat.le_trans (List.length_eraseIdx_le ..) z)
      rw [sizeLine_eq] at z
      refine ⟨a, us, i, i.toNat, v, e1, e2, ha, by omega, by omega, ?_, e3, h _ ρ _ nx rs' (Rp.mono nx _ _ ry)⟩
      unfold seqIndex?
      rw [← r1.length]
      simp only [show ¬ i < 0 by omega, if_false]
      rw [if_pos (by simp; omega)]
    · exact h.elim
  · exact h.elim
theorem m_ins : OkM g E (fun x vs H Q => ∃ (l : Addr) (xs : List V) (i : Int) (y : V), x = .ref l ∧ vs = [.int i, y] ∧ H l = some (.lst xs) ∧ xs.length < sizeLine ∧ 0 ≤ i ∧ i < 2 ^ 63 ∧ Q .non (upd H l (.lst (xs.take i.toNat ++ [y] ++ xs.drop i.toNat)))) insF := by
  intro ρ H st w ws x vs Q rs r ra h
  unfold insF at h
  split at h
  · rename_i n xs i y q
    obtain ⟨hl, h⟩ := wpp_if h
    have hl := opq_iff.mp hl
    obtain ⟨a, us, e1, hn, ha, r1, z⟩ := cellL_rp rs r q
    obtain ⟨v0, v, e2, ri, ry⟩ := rps2 ra rfl
    cases ri
    obtain ⟨nx, rs'⟩ := cell_write rs hn ha (((r1.take i.toNat).append (Rps.one ry)).append (r1.drop i.toNat)) (by
      rw [List.length_append, List.length_append, List.length_take, List.length_drop, List.length_singleton]; have := hl.2.2; omega)
    exact ⟨a, us, i, v, e1, e2, ha, by rw [← r1.length]; exact hl.2.2, hl.1, hl.2.1, h _ ρ _ nx rs' rfl⟩
  · exact h.elim
theorem m_ext : OkM g E rExtend extF := by
  intro ρ H st w ws x vs Q rs r ra h
  unfold extF at h
  split at h
  · rename_i n xs y q
    split at h
    · rename_i ys q2
      obtain ⟨hl, h⟩ := wpp_sz h
      obtain ⟨a, us, e1, hn, ha, r1, z⟩ := cellL_rp rs r q
      obtain ⟨v, e2, ry⟩ := rps1 ra rfl
      obtain ⟨b, us2, e3, hb, r2, z2⟩ := asL_rp rs ry q2
      obtain ⟨nx, rs'⟩ := cell_write rs hn ha (r1.append r2) (by rw [List.length_append]; exact hl)
      exact ⟨a, b, us, us2, e1, by rw [e2, e3], ha, hb, by rw [← r1.length, ← r2.length]; exact hl, h _ ρ _ nx rs' rfl⟩
    · exact h.elim
  · exact h.elim
/-! xs[::-1] -/
def revW (c : Bool) (a : W) (st : Store) : Res W := match a with
  | .tup xs => .ok (.tup xs.reverse) st
  | a => match asL st a with | some xs => newL c xs.reverse st | none => .fail
end
end
end VM

set_option Elab.async false
set_option linter.all false
set_option maxRecDepth 100000
namespace VM
noncomputable section
open PySem L2
/-! ### another view -/
structure Cv (g : G) (ρ : List Addr) (H : Hp) (g' : G) (ρ' : List Addr) (H' : Hp) : Prop where
  k : g'.K = g.K
  pre : ∀ (n : Nat) (a : Addr), ρ[n]? = some a → ρ'[n]? = some a
  at_ : ∀ a, Out g ρ a → H a ≠ none → Out g' ρ' a ∧ H' a = H a
section
variable {g g' : G} {ρ ρ' : List Addr} {H H' : Hp} (n : Cv g ρ H g' ρ' H')
include n
theorem Cv.rd {a u} (h : Rd H a u) (m : Out g ρ a) : Rd H' a u := by
  have e := (n.at_ a m (rd_ne h)).2
  rcases h with h | ⟨o, h⟩
  · exact .inl (e.trans h)
  · exact .inr ⟨o, e.trans h⟩
mutual
theorem Rp.conv : ∀ (w : W) (v : V), Rp g ρ H w v → Rp g' ρ' H' w v
  | .non, _, h => h
  | .bl _, _, h => h
  | .int _, _, h => h
  | .str _, _, h => h
  | .tup ws, v, ⟨a, vs, e, h, m, r, z⟩ => ⟨a, vs, e, (n.at_ a m (by rw [h]; simp)).2.trans h, (n.at_ a m (by rw [h]; simp)).1, Rps.conv ws vs r, z⟩
  | .kt ws, v, ⟨a, vs, e, h, r, z⟩ => ⟨a, vs, e, by rw [n.k]; exact h, Rps.conv ws vs r, z⟩
  | .lst ws, v, ⟨a, vs, e, h, m, r, z⟩ => ⟨a, vs, e, (n.at_ a m (by rw [h]; simp)).2.trans h, (n.at_ a m (by rw [h]; simp)).1, Rps.conv ws vs r, z⟩
  | .dK kvs, v, ⟨a, us, e, h, m, r, z⟩ => ⟨a, us, e, n.rd h m, (n.at_ a m (rd_ne h)).1, RpK.conv kvs us r, z⟩
  | .dT kvs, v, ⟨a, us, e, h, m, r, z⟩ => ⟨a, us, e, n.rd h m, (n.at_ a m (rd_ne h)).1, RpT.conv kvs us r, z⟩
  | .ref k, v, ⟨a, e, h⟩ => ⟨a, e, n.pre _ _ h⟩
  | .scr ns, v, ⟨a, e, h, z⟩ => ⟨a, e, h.imp (fun ⟨h, m⟩ => ⟨n.rd h m, (n.at_ a m (rd_ne h)).1⟩) (by rw [n.k]; exact id), z⟩
theorem Rps.conv : ∀ (ws : List W) (vs : List V), Rps g ρ H ws vs → Rps g' ρ' H' ws vs
  | [], _, h => h
  | w :: ws, _, ⟨v, r, e, h1, h2⟩ => ⟨v, r, e, Rp.conv w v h1, Rps.conv ws r h2⟩
theorem RpK.conv : ∀ (ws : List (Key × W)) (vs : List (Key × V)), RpK g ρ H ws vs → RpK g' ρ' H' ws vs
  | [], _, h => h
  | (k, w) :: ws, _, ⟨v, r, e, h1, h2⟩ => ⟨v, r, e, Rp.conv w v h1, RpK.conv ws r h2⟩
theorem RpT.conv : ∀ (ws : List (List Key × W)) (vs : List (List Key × V)), RpT g ρ H ws vs → RpT g' ρ' H' ws vs
  | [], _, h => h
  | (k, w) :: ws, _, ⟨v, r, e, h1, h2⟩ => ⟨v, r, e, Rp.conv w v h1, RpT.conv ws r h2⟩
end
theorem RpF.conv : ∀ (ws : List (Str × W)) (vs : List (Str × V)), RpF g ρ H ws vs → RpF g' ρ' H' ws vs
  | [], _, h => h
  | (k, w) :: ws, _, ⟨v, r, e, h1, h2⟩ => ⟨v, r, e, Rp.conv n w v h1, RpF.conv ws r h2⟩
theorem RL.conv {ls : L} {σ : St} (h : RL g ρ H ls σ) : RL g' ρ' H' ls σ := ⟨h.len, fun i w e => let ⟨v, e1, r⟩ := h.at_ i w e; ⟨v, e1, Rp.conv n w v r⟩⟩
theorem CellRp.conv (hc : g'.cl = g.cl) {a : Addr} {c : Cell} (e : H' a = H a) (h : CellRp g ρ H a c) : CellRp g' ρ' H' a c := by
  cases c with
  | lst ws => obtain ⟨vs, h1, h2, z⟩ := h; exact ⟨vs, e.trans h1, Rps.conv n _ _ h2, z⟩
  | lkL ws => obtain ⟨vs, h1, h2, z⟩ := h; exact ⟨vs, e.trans h1, Rps.conv n _ _ h2, z⟩
  | dK ws => obtain ⟨vs, h1, h2, z⟩ := h; exact ⟨vs, e.trans h1, RpK.conv n _ _ h2, z⟩
  | dT ws => obtain ⟨vs, h1, h2, z⟩ := h; exact ⟨vs, e.trans h1, RpT.conv n _ _ h2, z⟩
  | lkK ws => obtain ⟨vs, h1, h2, z⟩ := h; exact ⟨vs, h1.imp e.trans (fun ⟨o, q⟩ => ⟨o, e.trans q⟩), RpK.conv n _ _ h2, z⟩
  | lkT ws => obtain ⟨vs, h1, h2, z⟩ := h; exact ⟨vs, h1.imp e.trans (fun ⟨o, q⟩ => ⟨o, e.trans q⟩), RpT.conv n _ _ h2, z⟩
  | ins c fs => obtain ⟨dx, us, h1, h2⟩ := h; exact ⟨dx, us, by rw [hc]; exact e.trans h1, RpF.conv n _ _ h2⟩
end
section
variable {g : G} {ρ : List Addr} {H : Hp} {st : Store} {D : Addr}
/-- D is hidden -/
theorem Cv.hide (h : H D = none) : Cv g ρ H (g.wz (D :: g.z)) ρ H := ⟨rfl, fun _ _ e => e, fun a m hn => ⟨⟨m.1, fun q => by
  rcases List.mem_cons.mp q with q | q
  · subst q; exact hn h
  · exact m.2 q⟩, rfl⟩⟩
theorem Cv.show_ : Cv (g.wz (D :: g.z)) ρ H g ρ H := ⟨rfl, fun _ _ e => e, fun a m _ => ⟨⟨m.1, fun q => m.2 (List.mem_cons_of_mem _ q)⟩, rfl⟩⟩
/-- what is hidden changes -/
theorem Cv.hidw {z : List Addr} {o : HO} (hz : D ∈ z) : Cv (g.wz z) ρ H (g.wz z) ρ (upd H D o) := ⟨rfl, fun _ _ e => e, fun a m _ => ⟨m, upd_ne fun q => m.2 (q ▸ hz)⟩⟩
/-- what was hidden becomes a cell -/
theorem Cv.cell : Cv (g.wz (D :: g.z)) ρ H g (ρ ++ [D]) H := ⟨rfl, fun n a e => by rw [List.getElem?_append_left (List.getElem?_eq_some_iff.mp e).1]; exact e, fun a m _ => ⟨⟨fun q => by
  rcases List.mem_append.mp q with q | q
  · exact m.1 q
  · simp at q; subst q; exact m.2 List.mem_cons_self, fun q => m.2 (List.mem_cons_of_mem _ q)⟩, rfl⟩⟩
theorem RS.hide (rs : RS g ρ H st) {o} (h : H D = none) : RS (g.wz (D :: g.z)) ρ (upd H D o) st := by
  have rs1 : RS g ρ (upd H D o) st := rs.alloc h
  refine ⟨rs.len, rs.nd, fun n a c h1 h2 => ?_, fun a m => ?_⟩
  · have c1 := (rs.cell n a c h1 h2).conv (Cv.hide h) rfl rfl
    have hne : a ≠ D := fun e => rs.free h (e ▸ List.mem_of_getElem? h1)
    exact c1.conv (Cv.hidw List.mem_cons_self) rfl (upd_ne hne)
  · rcases List.mem_cons.mp m with m | m
    · subst m; exact ⟨by rw [upd_same]; simp, rs.free h⟩
    · exact rs1.hid a m
theorem RS.hidw {z : List Addr} (rs : RS (g.wz z) ρ H st) {o} (hz : D ∈ z) : RS (g.wz z) ρ (upd H D o) st := by
  refine ⟨rs.len, rs.nd, fun n a c h1 h2 => ?_, fun a m => ⟨upd_some (rs.hid a m).1, (rs.hid a m).2⟩⟩
  exact (rs.cell n a c h1 h2).conv (Cv.hidw hz) rfl (upd_ne fun e => (rs.hid D hz).2 (e ▸ List.mem_of_getElem? h1))
theorem RS.show_ (rs : RS (g.wz (D :: g.z)) ρ H st) : RS g ρ H st :=
  ⟨rs.len, rs.nd, fun n a c h1 h2 => (rs.cell n a c h1 h2).conv Cv.show_ rfl rfl, fun a m => rs.hid a (List.mem_cons_of_mem _ m)⟩
theorem RS.celld (rs : RS (g.wz (D :: g.z)) ρ H st) {c} (hz : D ∉ g.z) (hc : CellRp g (ρ ++ [D]) H D c) : RS g (ρ ++ [D]) H (st ++ [c]) := by
  have hD := (rs.hid D List.mem_cons_self).2
  refine ⟨by simp [rs.len], ?_, fun n a d h1 h2 => ?_, fun a m => ⟨(rs.hid a (List.mem_cons_of_mem _ m)).1, fun q => ?_⟩⟩
  · rw [List.nodup_append]
    exact ⟨rs.nd, by simp, fun a ha b hb => by simp at hb; subst hb; rintro rfl; exact hD ha⟩
  · by_cases hn : n < ρ.length
    · rw [List.getElem?_append_left hn] at h1
      rw [List.getElem?_append_left (by rw [← rs.len]; exact hn)] at h2
      exact (rs.cell n a d h1 h2).conv Cv.cell rfl rfl
    · have e : n = ρ.length := by
        have := (List.getElem?_eq_some_iff.mp h1).1
        simp at this; omega
      subst e
      rw [List.getElem?_append_right (Nat.le_refl _)] at h1
      rw [rs.len, List.getElem?_append_right (Nat.le_refl _)] at h2
      simp at h1 h2
      subst h1; subst h2; exact hc
  · rcases List.mem_append.mp q with q | q
    · exact (rs.hid a (List.mem_cons_of_mem _ m)).2 q
    · simp at q; subst q; exact hz m
/-- a list in the making is done -/
theorem made {E : XK} {c : Bool} {ρ1 H1 Q ws vs} (nx : Nxt ρ1 H1 ρ H) (h1 : H1 D = none) (hz : D ∉ g.z) (rs : RS (g.wz (D :: g.z)) ρ H st) (hD : H D = some (.lst vs)) (r : Rps (g.wz (D :: g.z)) ρ H ws vs) (hl : ws.length ≤ sizeLine)
    (h : wpp g E (RW g) ρ1 H1 Q (newL c ws st)) : Q (.ref D) H := by
  have hD' := (rs.hid D List.mem_cons_self).2
  cases c with
  | false => exact h _ ρ H nx rs.show_ ⟨D, vs, rfl, hD, ⟨hD', hz⟩, Rps.conv Cv.show_ _ _ r, hl⟩
  | true =>
    refine h _ (ρ ++ [D]) H ⟨?_, nx.keep, fun a m m' => ?_, nx.dom⟩ (rs.celld hz ⟨vs, hD, Rps.conv Cv.cell _ _ r, hl⟩) ⟨D, rfl, by rw [← rs.len]; simp⟩
    · obtain ⟨t, e⟩ := nx.pre
      exact ⟨t ++ [D], by rw [e, List.append_assoc]⟩
    · rcases List.mem_append.mp m with m | m
      · exact nx.new a m m'
      · simp at m; subst m; exact h1
end
/-! ### equal data -/
mutual
def beqW : W → W → Bool
  | .non, .non => true
  | .bl a, .bl b => a == b
  | .int a, .int b => a == b
  | .str a, .str b => decide (a = b)
  | .tup a, .tup b => beqs a b
  | .kt a, .kt b => beqs a b
  | .lst a, .lst b => beqs a b
  | .dK a, .dK b => beqK a b
  | .dT a, .dT b => beqT a b
  | .ref a, .ref b => a == b
  | .scr a, .scr b => a == b
  | _, _ => false
def beqs : List W → List W → Bool
  | [], [] => true
  | a :: as, b :: bs => beqW a b && beqs as bs
  | _, _ => false
def beqK : List (Key × W) → List (Key × W) → Bool
  | [], [] => true
  | (k, a) :: as, (j, b) :: bs => decide (k = j) && beqW a b && beqK as bs
  | _, _ => false
def beqT : List (List Key × W) → List (List Key × W) → Bool
  | [], [] => true
  | (k, a) :: as, (j, b) :: bs => decide (k = j) && beqW a b && beqT as bs
  | _, _ => false
end
mutual
theorem beqW_eq : ∀ (a b : W), beqW a b = true → a = b
  | .non, b, h => by cases b <;> simp [beqW] at h ⊢
  | .bl _, b, h => by cases b <;> simp [beqW] at h ⊢ <;> exact h
  | .int _, b, h => by cases b <;> simp [beqW] at h ⊢ <;> exact h
  | .str _, b, h => by cases b <;> simp [beqW] at h ⊢ <;> exact h
  | .ref _, b, h => by cases b <;> simp [beqW] at h ⊢ <;> exact h
  | .scr _, b, h => by cases b <;> simp [beqW] at h ⊢ <;> exact h
  | .tup as, b, h => by cases b <;> simp [beqW] at h ⊢ <;> exact beqs_eq as _ h
  | .kt as, b, h => by cases b <;> simp [beqW] at h ⊢ <;> exact beqs_eq as _ h
  | .lst as, b, h => by cases b <;> simp [beqW] at h ⊢ <;> exact beqs_eq as _ h
  | .dK as, b, h => by cases b <;> simp [beqW] at h ⊢ <;> exact beqK_eq as _ h
  | .dT as, b, h => by cases b <;> simp [beqW] at h ⊢ <;> exact beqT_eq as _ h
theorem beqs_eq : ∀ (a b : List W), beqs a b = true → a = b
  | [], b, h => by cases b <;> simp [beqs] at h ⊢
  | a :: as, [], h => by simp [beqs] at h
  | a :: as, b :: bs, h => by
    simp only [beqs, Bool.and_eq_true] at h
    rw [beqW_eq a b h.1, beqs_eq as bs h.2]
theorem beqK_eq : ∀ (a b : List (Key × W)), beqK a b = true → a = b
  | [], b, h => by cases b <;> simp [beqK] at h ⊢
  | (k, a) :: as, [], h => by simp [beqK] at h
  | (k, a) :: as, (j, b) :: bs, h => by
    simp only [beqK, Bool.and_eq_true, decide_eq_true_eq] at h
    rw [h.1.1, beqW_eq a b h.1.2, beqK_eq as bs h.2]
theorem beqT_eq : ∀ (a b : List (List Key × W)), beqT a b = true → a = b
  | [], b, h => by cases b <;> simp [beqT] at h ⊢
  | (k, a) :: as, [], h => by simp [beqT] at h
  | (k, a) :: as, (j, b) :: bs, h => by
    simp only [beqT, Bool.and_eq_true, decide_eq_true_eq] at h
    rw [h.1.1, beqW_eq a b h.1.2, beqT_eq as bs h.2]
end
mutual
theorem beqW_refl : ∀ (a : W), beqW a a = true
  | .non => by simp [beqW]
  | .bl _ => by simp [beqW]
  | .int _ => by simp [beqW]
  | .str _ => by simp [beqW]
  | .ref _ => by simp [beqW]
  | .scr _ => by simp [beqW]
  | .tup as => by simp only [beqW]; exact beqs_refl as
  | .kt as => by simp only [beqW]; exact beqs_refl as
  | .lst as => by simp only [beqW]; exact beqs_refl as
  | .dK as => by simp only [beqW]; exact beqK_refl as
  | .dT as => by simp only [beqW]; exact beqT_refl as
theorem beqs_refl : ∀ (a : List W), beqs a a = true
  | [] => by simp [beqs]
  | a :: as => by simp only [beqs]; rw [beqW_refl a, beqs_refl as]; rfl
theorem beqK_refl : ∀ (a : List (Key × W)), beqK a a = true
  | [] => by simp [beqK]
  | (k, a) :: as => by simp only [beqK]; rw [beqW_refl a, beqK_refl as]; simp
theorem beqT_refl : ∀ (a : List (List Key × W)), beqT a a = true
  | [] => by simp [beqT]
  | (k, a) :: as => by simp only [beqT]; rw [beqW_refl a, beqT_refl as]; simp
end
/-! ### targets -/
inductive Tgt where
  | nm (i : Nat) | tp (ts : List Tgt)
mutual
def Tgt.slots : Tgt → List Nat
  | .nm i => [i]
  | .tp ts => Tgt.slotss ts
def Tgt.slotss : List Tgt → List Nat
  | [] => []
  | t :: ts => t.slots ++ Tgt.slotss ts
end
mutual
def bindT (st : Store) : Tgt → W → L → Option L
  | .nm i, w, ls => if i < ls.length then some (ls.set i (some w)) else none
  | .tp ts, w, ls => (match asT w with | some ws => bindTs st ts ws ls | none => none)
def bindTs (st : Store) : List Tgt → List W → L → Option L
  | [], [], ls => some ls
  | t :: ts, w :: ws, ls => (match bindT st t w ls with | some ls1 => bindTs st ts ws ls1 | none => none)
  | _, _, _ => none
end
mutual
def gT (K : PySem.W.Frag) : Tgt → TG
  | .nm i => gName i
  | .tp ts => gTup K ts.length (gTs K ts)
def gTs (K : PySem.W.Frag) : List Tgt → TGs
  | [] => gNil
  | t :: ts => gCons (gT K t) (gTs K ts)
end
theorem wipe_get (σ : St) (j : Nat) : ∀ vs : List Nat, (wipe σ vs)[j]? = if j ∈ vs then (if j < σ.length then some none else none) else σ[j]?
  | [] => by simp [wipe]
  | v :: vs => by
    unfold wipe
    by_cases h : v = j
    · subst h
      by_cases hl : v < σ.length
      · rw [List.getElem?_set_self (by rw [wipe_length]; exact hl)]; simp [hl]
      · rw [List.getElem?_eq_none (by rw [List.length_set, wipe_length]; omega)]; simp [hl]
    · rw [List.getElem?_set_ne h, wipe_get σ j vs]
      simp [Ne.symm h]
/-- outside of vs they are the same -/
def OutS (vs : List Nat) (σ σ' : St) : Prop := σ.length = σ'.length ∧ ∀ j, j ∉ vs → σ[j]? = σ'[j]?
theorem OutS.wipe {vs σ σ'} (h : OutS vs σ σ') : wipe σ' vs = wipe σ vs := by
  apply List.ext_getElem?
  intro j
  rw [wipe_get, wipe_get, h.1]
  split
  · rfl
  · rename_i hj; exact (h.2 j hj).symm
theorem OutS.trans {vs σ σ1 σ2} (a : OutS vs σ σ1) (b : OutS vs σ1 σ2) : OutS vs σ σ2 := ⟨a.1.trans b.1, fun j hj => (a.2 j hj).trans (b.2 j hj)⟩
section
variable {g : G} {ρ : List Addr} {H : Hp} {st : Store}
theorem RL.set {ls : L} {σ : St} (h : RL g ρ H ls σ) {i : Nat} {w v} (r : Rp g ρ H w v) : RL g ρ H (ls.set i (some w)) (σ.set i (some v)) := by
  refine ⟨by simp [h.len], fun j w' e => ?_⟩
  by_cases hj : i = j
  · subst hj
    have hl : i < ls.length := by
      have := (List.getElem?_eq_some_iff.mp e).1
      simpa using this
    rw [List.getElem?_set_self hl] at e
    cases e
    exact ⟨v, by rw [List.getElem?_set_self (by rw [← h.len]; exact hl)], r⟩
  · rw [List.getElem?_set_ne hj] at e ⊢
    exact h.at_ j w' e
mutual
theorem bindT_ok (vs : List Nat) (hK : g.K = K) : ∀ (t : Tgt) (w : W) (v : V) (ls ls' : L) (σ : St) (Q : St → Hp → Prop), (∀ i ∈ t.slots, i ∈ vs) → RL g ρ H ls σ → Rp g ρ H w v → bindT st t w ls = some ls' → (∀ σ', RL g ρ H ls' σ' → OutS vs σ σ' → Q σ' H) → gT K t v σ H Q
  | .nm i, w, v, ls, ls', σ, Q, hv, rl, r, e, k => by
    simp only [bindT] at e
    split at e
    · rename_i hl
      cases e
      refine k _ (rl.set r) ⟨by simp, fun j hj => ?_⟩
      rw [List.getElem?_set_ne (fun q => hj (by rw [← q]; exact hv i (by simp [Tgt.slots])))]
    · cases e
  | .tp ts, w, v, ls, ls', σ, Q, hv, rl, r, e, k => by
    simp only [bindT] at e
    split at e
    · rename_i ws q
      obtain ⟨a, xs, e1, hs, rs, z⟩ := asT_rp r q
      obtain ⟨hlen, h⟩ := bindTs_ok vs hK ts ws xs ls ls' σ Q (fun i hi => hv i (by simpa [Tgt.slots] using hi)) rl rs e k
      exact ⟨a, xs, e1, hK ▸ hs, hlen, h⟩
    · cases e
theorem bindTs_ok (vs : List Nat) (hK : g.K = K) : ∀ (ts : List Tgt) (ws : List W) (xs : List V) (ls ls' : L) (σ : St) (Q : St → Hp → Prop), (∀ i ∈ Tgt.slotss ts, i ∈ vs) → RL g ρ H ls σ → Rps g ρ H ws xs → bindTs st ts ws ls = some ls' → (∀ σ', RL g ρ H ls' σ' → OutS vs σ σ' → Q σ' H) → xs.length = ts.length ∧ gTs K ts xs σ H Q
  | [], [], xs, ls, ls', σ, Q, hv, rl, r, e, k => by
    cases r
    simp only [bindTs] at e
    cases e
    exact ⟨rfl, rfl, k σ rl ⟨rfl, fun _ _ => rfl⟩⟩
  | t :: ts, w :: ws, xs, ls, ls', σ, Q, hv, rl, ⟨v, r, e1, r1, r2⟩, e, k => by
    simp only [bindTs] at e
    split at e
    · rename_i ls1 q
      subst e1
      refine ⟨?_, v, r, rfl, ?_⟩
      · have hl : ∀ (ts : List Tgt) (ws : List W) (ls ls' : L), bindTs st ts ws ls = some ls' → ws.length = ts.length := by
          intro ts
          induction ts with
          | nil => intro ws ls ls' h; cases ws <;> simp [bindTs] at h ⊢
          | cons t ts ih =>
            intro ws ls ls' h
            cases ws with
            | nil => simp [bindTs] at h
            | cons w ws =>
              simp only [bindTs] at h
              split at h
              · simp [ih _ _ _ h]
              · cases h
        rw [List.length_cons, List.length_cons, ← r2.length, hl _ _ _ _ e]
      · refine bindT_ok vs hK t w v ls ls1 σ _ (fun i hi => hv i (by simp [Tgt.slotss, hi])) rl r1 q fun σ1 rl1 o1 => ?_
        exact (bindTs_ok vs hK ts ws r ls1 ls' σ1 Q (fun i hi => hv i (by simp [Tgt.slotss, hi])) rl1 r2 e fun σ' rl' o' => k σ' rl' (o1.trans o')).2
    · cases e
  | [], _ :: _, _, _, _, _, _, _, _, _, e, _ => by simp [bindTs] at e
  | _ :: _, [], _, _, _, _, _, _, _, _, e, _ => by simp [bindTs] at e
end
end
/-! ### what is walked -/
structure Src where
  ws : List W
  gd : Option (Nat × List W) := none
def gdB (gd : Option (Nat × List W)) (st : Store) : Bool := match gd with
  | none => true
  | some (n, xs) => (match st[n]? with | some (.lst ys) => beqs xs ys | some (.lkL ys) => beqs xs ys | _ => false)
structure Wk (g : G) (J : It) (ρ0 : List Addr) (H0 : Hp) (s : Src) : Prop where
  len : s.ws.length ≤ sizeLine
  go : ∀ z i ρ H st, Nxt ρ0 H0 ρ H → RS (g.wz z) ρ H st → gdB s.gd st = true → i < s.ws.length → J.go i H
  yld : ∀ z i ρ H st x H', Nxt ρ0 H0 ρ H → RS (g.wz z) ρ H st → (∀ a ∈ z, a ∉ g.z → H0 a = none) → gdB s.gd st = true → i < s.ws.length → J.yld i H x H' → ∃ w, s.ws[i]? = some w ∧ Nxt ρ H ρ H' ∧ RS (g.wz z) ρ H' st ∧ Rp (g.wz z) ρ H' w x ∧ ∀ a ∈ z, H' a = H a
  stop : ∀ z i ρ H st, Nxt ρ0 H0 ρ H → RS (g.wz z) ρ H st → gdB s.gd st = true → s.ws.length ≤ i → J.stop i H
abbrev SM' := L → Store → Res Src
def iM (g : G) (E : XK) (m : SM') : TI := fun σ H R => ∃ ρ ls st, RL g ρ H ls σ ∧ RS g ρ H st ∧ (m ls st).wp (fun s st' => ∀ J ρ' H', Nxt ρ H ρ' H' → RS g ρ' H' st' → Wk g J ρ' H' s → R J H') (XPost g E ρ H)
theorem PIw {X : Cx} {tg e : Expr} {t t' : TI} (h : PI X tg e t) (w : ∀ σ H R, t' σ H R → t σ H R) : PI X tg e t' := ⟨fun pins s σ H R I q => h.run pins s σ H R I (w _ _ _ q)⟩
theorem PI.or3 {X : Cx} {tg e : Expr} {t t' t'' : TI} (h : PI X tg e t) (h' : PI X tg e t') (h'' : PI X tg e t'') : PI X tg e (fun σ H R => t σ H R ∨ t' σ H R ∨ t'' σ H R) := ⟨fun pins s σ H R I q => by
  rcases q with q | q | q
  · exact h.run pins s σ H R I q
  · exact h'.run pins s σ H R I q
  · exact h''.run pins s σ H R I q⟩
def signs (x : Str) : List W := x.cps.toList.map fun c => .str ⟨#[c]⟩
def seqS (me : EM) : SM' := fun ls st => (me ls st).bind fun w st1 => match w with
  | .tup xs => .ok ⟨xs, none⟩ st1
  | .kt xs => .ok ⟨xs, none⟩ st1
  | .lst xs => .ok ⟨xs, none⟩ st1
  | .str x => .ok ⟨signs x, none⟩ st1
  | .ref n => (match st1[n]? with | some (.lst xs) => .ok ⟨xs, some (n, xs)⟩ st1 | some (.lkL xs) => .ok ⟨xs, some (n, xs)⟩ st1 | _ => .fail)
  | _ => .fail
section
variable {g : G} {E : XK} {X : Cx}
theorem Wk.cv {ρ0 H0 ρ H z} (n : Nxt ρ0 H0 ρ H) (hz : ∀ a ∈ z, a ∉ g.z → H0 a = none) : Cv g ρ0 H0 (g.wz z) ρ H := ⟨rfl, fun k a e => by
  obtain ⟨t, et⟩ := n.pre
  rw [et, List.getElem?_append_left (List.getElem?_eq_some_iff.mp e).1]; exact e, fun a m hn => ⟨⟨n.out hn m.1, fun q => hn (hz a q m.2)⟩, by
  cases e : H0 a with
  | none => exact absurd e hn
  | some o => exact n.keep a o e m.1⟩⟩
theorem gd_cell {ρ H st z n a xs} (rs : RS (g.wz z) ρ H st) (hn : ρ[n]? = some a) (h : gdB (some (n, xs)) st = true) : ∃ vs, H a = some (.lst vs) ∧ Rps (g.wz z) ρ H xs vs := by
  obtain ⟨c, hc, rc⟩ := rs.get hn
  simp only [gdB, hc] at h
  cases c with
  | lst ys =>
    obtain ⟨vs, h1, r1, _⟩ := rc
    exact ⟨vs, h1, by rw [beqs_eq _ _ h]; exact r1⟩
  | lkL ys =>
    obtain ⟨vs, h1, r1, _⟩ := rc
    exact ⟨vs, h1, by rw [beqs_eq _ _ h]; exact r1⟩
  | _ => cases h
theorem sqL_one {K : PySem.W.Frag} {H : Hp} {a xs ys} (h : H a = some (.lst xs)) (h' : Rd H a (.lst ys)) : xs = ys := by
  rcases h' with h' | ⟨o, h'⟩ <;> rw [h] at h' <;> cases h' <;> rfl
/-- a list that stays: over what is walked at an address -/
theorem wk_lst {ρ H ws vs a} (ha : H a = some (.lst vs)) (m : Out g ρ a) (r : Rps g ρ H ws vs) (z : ws.length ≤ sizeLine) : Wk g (Itl g.K a) ρ H ⟨ws, none⟩ where
  len := z
  go := fun z i ρ' H' st n _ _ hi => ⟨vs, vs[i]'(by rw [← r.length]; exact hi), .of (n.keep _ _ ha m.1), by simp⟩
  yld := fun z i ρ' H' st x H'' n rs hz _ hi ⟨e, hx⟩ => by
    subst e
    have h1 := hx vs (.of (n.keep _ _ ha m.1))
    obtain ⟨w, e1, r1⟩ := r.getV h1
    exact ⟨w, e1, .refl, rs, Rp.conv (Wk.cv n hz) _ _ r1, fun _ _ => rfl⟩
  stop := fun z i ρ' H' st n _ _ hi => ⟨vs, .of (n.keep _ _ ha m.1), by rw [← r.length]; exact hi⟩
theorem wk_cell {ρ H ws n a} (hn : ρ[n]? = some a) (z : ws.length ≤ sizeLine) : Wk g (Itl g.K a) ρ H ⟨ws, some (n, ws)⟩ where
  len := z
  go := fun z i ρ' H' st nx rs hg hi => by
    obtain ⟨t, et⟩ := nx.pre
    obtain ⟨vs, h1, r1⟩ := gd_cell rs (by rw [et, List.getElem?_append_left (List.getElem?_eq_some_iff.mp hn).1]; exact hn) hg
    exact ⟨vs, vs[i]'(by rw [← r1.length]; exact hi), .of h1, by simp⟩
  yld := fun z i ρ' H' st x H'' nx rs hz hg hi ⟨e, hx⟩ => by
    subst e
    obtain ⟨t, et⟩ := nx.pre
    obtain ⟨vs, h1, r1⟩ := gd_cell rs (by rw [et, List.getElem?_append_left (List.getElem?_eq_some_iff.mp hn).1]; exact hn) hg
    obtain ⟨w, e1, r2⟩ := r1.getV (hx vs (.of h1))
    exact ⟨w, e1, .refl, rs, r2, fun _ _ => rfl⟩
  stop := fun z i ρ' H' st nx rs hg hi => by
    obtain ⟨t, et⟩ := nx.pre
    obtain ⟨vs, h1, r1⟩ := gd_cell rs (by rw [et, List.getElem?_append_left (List.getElem?_eq_some_iff.mp hn).1]; exact hn) hg
    exact ⟨vs, .of h1, by rw [← r1.length]; exact hi⟩
theorem wk_tup {ρ H ws vs a} (ha : (H a = some (.tup vs) ∧ Out g ρ a) ∨ KT g.K a vs) (r : Rps g ρ H ws vs) (z : ws.length ≤ sizeLine) : Wk g (Itt g.K a) ρ H ⟨ws, none⟩ := by
  have sq : ∀ {ρ' H'}, Nxt ρ H ρ' H' → SqT g.K H' a vs := fun n => by
    rcases ha with ⟨h, m⟩ | h
    · exact .of (n.keep _ _ h m.1)
    · exact .inr h
  exact {
    len := z
    go := fun z i ρ' H' st n _ _ hi => ⟨vs, vs[i]'(by rw [← r.length]; exact hi), sq n, by simp⟩
    yld := fun z i ρ' H' st x H'' n rs hz _ hi ⟨e, hx⟩ => by
      subst e
      obtain ⟨w, e1, r1⟩ := r.getV (hx vs (sq n))
      exact ⟨w, e1, .refl, rs, Rp.conv (Wk.cv n hz) _ _ r1, fun _ _ => rfl⟩
    stop := fun z i ρ' H' st n _ _ hi => ⟨vs, sq n, by rw [← r.length]; exact hi⟩ }
theorem wk_str {ρ H} (x : Str) (z : x.length ≤ sizeLine) : Wk g (Its x) ρ H ⟨signs x, none⟩ where
  len := by show (x.cps.toList.map _).length ≤ _; rw [List.length_map, Array.length_toList]; exact z
  go := fun z i ρ' H' st n _ _ hi => show i < x.cps.size by simpa [signs] using hi
  yld := fun z i ρ' H' st v H'' n rs hz _ hi ⟨e, c, hc, hv⟩ => by
    subst e; subst hv
    refine ⟨.str ⟨#[c]⟩, ?_, .refl, rs, ⟨rfl, by show 1 ≤ sizeLine; decide⟩, fun _ _ => rfl⟩
    simp only [signs, List.getElem?_map, Array.getElem?_toList, hc]; rfl
  stop := fun z i ρ' H' st n _ _ hi => show x.cps.size ≤ i by simpa [signs] using hi
def intsW (lo : Int) (n : Nat) : List W := (List.range n).map fun k => .int (lo + (k : Nat))
theorem intsW_len (lo : Int) (n : Nat) : (intsW lo n).length = n := by simp [intsW]
theorem intsW_get {lo : Int} {n i : Nat} (h : i < n) : (intsW lo n)[i]? = some (.int (lo + (i : Nat))) := by simp [intsW, h]
theorem wk_rng {ρ H} (lo : Int) (n : Nat) (z : n ≤ sizeLine) : Wk g (Itr lo n) ρ H ⟨intsW lo n, none⟩ where
  len := by show (intsW lo n).length ≤ _; rw [intsW_len]; exact z
  go := fun z i ρ' H' st _ _ _ hi => by rw [intsW_len] at hi; exact hi
  yld := fun z i ρ' H' st v H'' _ rs hz _ hi ⟨e, hv⟩ => by
    subst e; subst hv
    rw [intsW_len] at hi
    exact ⟨_, intsW_get hi, .refl, rs, rfl, fun _ _ => rfl⟩
  stop := fun z i ρ' H' st _ _ _ hi => by rw [intsW_len] at hi; exact hi
/-- the workhorse for what is walked -/
theorem im_go {α β : Type} {R : RelT α β} {m : L → Store → Res α} {k : α → Store → Res Src} {ρ ls st σ H} {RR : It → Hp → Prop} (rl : RL g ρ H ls σ) (rs : RS g ρ H st)
    (h : ((m ls st).bind k).wp (fun s st' => ∀ J ρ' H', Nxt ρ H ρ' H' → RS g ρ' H' st' → Wk g J ρ' H' s → RR J H') (XPost g E ρ H)) {Q' : β → Hp → Prop}
    (hk : ∀ b H1 ρ1 st1 a, Nxt ρ H ρ1 H1 → RL g ρ1 H1 ls σ → RS g ρ1 H1 st1 → R ρ1 H1 a b → (k a st1).wp (fun s st' => ∀ J ρ' H', Nxt ρ1 H1 ρ' H' → RS g ρ' H' st' → Wk g J ρ' H' s → RR J H') (XPost g E ρ1 H1) → Q' b H1) : Tg g E R m σ H Q' := by
  refine ⟨ρ, ls, st, rl, rs, ?_⟩
  cases e : m ls st with
  | ok a st1 =>
    rw [e] at h
    refine fun b ρ' H' n' rs' r => hk b H' ρ' st1 a n' (rl.mono n') rs' r ?_
    simp only [Res.bind_ok] at h
    cases e2 : k a st1 with
    | ok s st2 => rw [e2] at h; exact fun J ρ'' H'' n'' rs'' w => h J ρ'' H'' (n'.trans n'') rs'' w
    | exc c x st => rw [e2] at h; exact XPost.mono n' h
    | fail => rw [e2] at h; exact h
  | exc c x st => rw [e] at h; exact h
  | fail => rw [e] at h; exact h
def iAny (K : PySem.W.Frag) (tl : TE) : TI := fun σ H R => tl σ H fun x H1 => (∃ a, x = .ref a ∧ (∃ xs, SqL K H1 a xs) ∧ R (Itl K a) H1) ∨ (∃ a, x = .ref a ∧ (∃ xs, SqT K H1 a xs) ∧ R (Itt K a) H1) ∨ ∃ z, x = .str z ∧ R (Its z) H1
theorem pi_any {tg l : Expr} {tl : TE} (hl : PE X l tl) : PI X tg l (iAny X.K tl) := by
  refine ⟨fun pins s σ H R I h => ?_⟩
  refine thn (hl.run pins s σ H _ I h) fun v s1 ⟨x, H1, I1, r1, q1⟩ => ?_
  rcases q1 with ⟨a, e, ⟨xs, hq⟩, q⟩ | ⟨a, e, ⟨xs, hq⟩, q⟩ | ⟨z, e, q⟩
  · subst e
    cases r1
    obtain ⟨its, rv, p, hz⟩ := I1.list hq
    refine wpAny_pyIter_list p.isList ?_
    refine ⟨s1.heap.objs.size, [s1.heap.objs.size], _, _, H1, rfl, I1.kept (t' := s1.toks) fun b o e => Heap.get?_push_of_some _ e, turn_list a _, ⟨_, Heap.get?_push_size _ rfl, rfl, rfl⟩, fun b hb => ?_, q⟩
    have e : b = s1.heap.objs.size := by simpa using hb
    subst e
    exact I1.fpOk (Nat.le_refl _) (I1.hok.fresh (Nat.le_refl _))
  · subst e
    cases r1
    obtain ⟨its, rv, p, hz⟩ := I1.tuple hq
    refine wpAny_pyIter_tuple (show s1.heap.IsTuple a its.toArray from p) ?_
    refine ⟨s1.heap.objs.size, [s1.heap.objs.size], _, _, H1, rfl, I1.kept (t' := s1.toks) fun b o e => Heap.get?_push_of_some _ e, turn_tuple a _, ⟨_, Heap.get?_push_size _ rfl, rfl, rfl⟩, fun b hb => ?_, q⟩
    have e : b = s1.heap.objs.size := by simpa using hb
    subst e
    exact I1.fpOk (Nat.le_refl _) (I1.hok.fresh (Nat.le_refl _))
  · subst e
    obtain ⟨t, rfl⟩ := r1
    cases ha : z.cps.all (· < 128)
    · exact wpAny_pyIter_wide ha (pi_one (tk := s1.toks) I1 _ (turn_str _ z t "str_iterator" (.inr rfl)) ⟨_, Heap.get?_push_size _ rfl, rfl, rfl⟩ q)
    · exact wpAny_pyIter_ascii ha (pi_one (tk := s1.toks) I1 _ (turn_str _ z t "str_ascii_iterator" (.inl rfl)) ⟨_, Heap.get?_push_size _ rfl, rfl, rfl⟩ q)
theorem i_seq (hK : X.K = g.K) {tg l : Expr} {me : EM} (h : PE X l (T g E me)) : PI X tg l (iM g E (seqS me)) := PIw (pi_any h) fun σ H RR ⟨ρ, ls, st, rl, rs, h⟩ =>
  im_go (R := RW g) rl rs h fun v H1 ρ1 st1 w n1 rl1 rs1 r1 h1 => by
    rw [hK]
    cases w with
    | tup xs =>
      obtain ⟨a, vs, e, ha, m, r, z⟩ := id r1
      exact .inr (.inl ⟨a, e, ⟨vs, .of ha⟩, h1 _ ρ1 H1 .refl rs1 (wk_tup (.inl ⟨ha, m⟩) r z)⟩)
    | kt xs =>
      obtain ⟨a, vs, e, ha, r, z⟩ := id r1
      exact .inr (.inl ⟨a, e, ⟨vs, .inr ha⟩, h1 _ ρ1 H1 .refl rs1 (wk_tup (.inr ha) r z)⟩)
    | lst xs =>
      obtain ⟨a, vs, e, ha, m, r, z⟩ := id r1
      exact .inl ⟨a, e, ⟨vs, .of ha⟩, h1 _ ρ1 H1 .refl rs1 (wk_lst ha m r z)⟩
    | str x => exact .inr (.inr ⟨x, r1.1, h1 _ ρ1 H1 .refl rs1 (wk_str x r1.2)⟩)
    | ref n =>
      obtain ⟨a, e, hn⟩ := id r1
      obtain ⟨c, hc, rc⟩ := rs1.get hn
      simp only [hc] at h1
      cases c with
      | lst xs =>
        obtain ⟨vs, ha, r, z⟩ := rc
        exact .inl ⟨a, e, ⟨vs, .of ha⟩, h1 _ ρ1 H1 .refl rs1 (wk_cell hn z)⟩
      | lkL xs =>
        obtain ⟨vs, ha, r, z⟩ := rc
        exact .inl ⟨a, e, ⟨vs, .of ha⟩, h1 _ ρ1 H1 .refl rs1 (wk_cell hn z)⟩
      | _ => exact h1.elim
    | _ => exact h1.elim
def rngOk (i : Int) : Bool := opq (-(2 ^ 62) ≤ i ∧ i < 2 ^ 62)
def rng1S (ma : AM) : SM' := fun ls st => (ma ls st).bind fun ws st1 => match ws with
  | [.int j] => if (rngOk j && szB j.toNat) = true then .ok ⟨intsW 0 j.toNat, none⟩ st1 else .fail
  | _ => .fail
def rng2S (ma : AM) : SM' := fun ls st => (ma ls st).bind fun ws st1 => match ws with
  | [.int i, .int j] => if (rngOk i && rngOk j && szB (j - i).toNat) = true then .ok ⟨intsW i (j - i).toNat, none⟩ st1 else .fail
  | _ => .fail
theorem im_if {ρ H} {RR : It → Hp → Prop} {c : Prop} [Decidable c] {r : Res Src} (h : (if c then r else .fail).wp (fun s st' => ∀ J ρ' H', Nxt ρ H ρ' H' → RS g ρ' H' st' → Wk g J ρ' H' s → RR J H') (XPost g E ρ H)) : c ∧ r.wp (fun s st' => ∀ J ρ' H', Nxt ρ H ρ' H' → RS g ρ' H' st' → Wk g J ρ' H' s → RR J H') (XPost g E ρ H) := by
  split at h
  · exact ⟨by assumption, h⟩
  · exact h.elim
theorem i_rng1 {tg a : Expr} {ma : AM} {p pos : Pos} (hg : Gl X "range") (hm : X.mg "range" = none) (ha : PA X [a] (TA' g E ma)) (hs : starEach [a] X.env = [(false, eval a X.env)] := by rfl) : PI X tg (.Call (.Name "range" p) [a] [] pos) (iM g E (rng1S ma)) :=
  PIw (pi_range1 hg hm ha hs) fun σ H RR ⟨ρ, ls, st, rl, rs, h⟩ => im_go (R := RWs g) rl rs h fun vs H1 ρ1 st1 ws n1 rl1 rs1 r1 h1 => by
    split at h1
    · obtain ⟨hc, h1⟩ := im_if h1
      obtain ⟨v, e, rv⟩ := rps1 r1 rfl
      cases rv
      simp only [rngOk, Bool.and_eq_true, opq_iff, szB_iff] at hc
      exact ⟨_, e, hc.1.1, hc.1.2, h1 _ ρ1 H1 .refl rs1 (wk_rng 0 _ hc.2)⟩
    · exact h1.elim
theorem i_rng2 {tg a b : Expr} {ma : AM} {p pos : Pos} (hg : Gl X "range") (hm : X.mg "range" = none) (ha : PA X [a, b] (TA' g E ma)) (hs : starEach [a, b] X.env = [(false, eval a X.env), (false, eval b X.env)] := by rfl) (hs2 : starEach [b] X.env = [(false, eval b X.env)] := by rfl) :
    PI X tg (.Call (.Name "range" p) [a, b] [] pos) (iM g E (rng2S ma)) :=
  PIw (pi_range2 hg hm ha hs hs2) fun σ H RR ⟨ρ, ls, st, rl, rs, h⟩ => im_go (R := RWs g) rl rs h fun vs H1 ρ1 st1 ws n1 rl1 rs1 r1 h1 => by
    split at h1
    · obtain ⟨hc, h1⟩ := im_if h1
      obtain ⟨v, v', e, rv, rv'⟩ := rps2 r1 rfl
      cases rv; cases rv'
      simp only [rngOk, Bool.and_eq_true, opq_iff, szB_iff] at hc
      exact ⟨_, _, e, ⟨hc.1.1.1, hc.1.1.2, hc.1.2.1, hc.1.2.2⟩, h1 _ ρ1 H1 .refl rs1 (wk_rng _ _ hc.2)⟩
    · exact h1.elim
end
end
end VM

set_option Elab.async false
set_option linter.all false
set_option maxRecDepth 100000
namespace VM
noncomputable section
open PySem L2
/-! ### comprehensions -/
def Res.nx {α : Type} (r : Res α) : Res α := match r with | .ok a st => .ok a st | _ => .fail
@[simp] theorem Res.nx_ok {α : Type} (a : α) (st) : (Res.ok a st).nx = .ok a st := rfl
@[simp] theorem Res.nx_exc {α : Type} (c x st) : (Res.exc c x st : Res α).nx = .fail := rfl
@[simp] theorem Res.nx_fail {α : Type} : (Res.fail : Res α).nx = .fail := rfl
def wipeL (ls : L) : List Nat → L
  | [] => ls
  | v :: vs => (wipeL ls vs).set v none
def lcGo (tg : Tgt) (gd : Option (Nat × List W)) (tt : L → Store → Res Bool) (te : EM) (ls : L) : List W → Store → Res (List W)
  | [], st => if gdB gd st = true then .ok [] st else .fail
  | w :: ws, st => if gdB gd st = true then (match bindT st tg w ls with
    | some ls1 => (tt ls1 st).nx.bind fun b st1 => if b = true then (te ls1 st1).nx.bind fun y st2 => (lcGo tg gd tt te ls ws st2).bind fun ys st3 => .ok (y :: ys) st3 else lcGo tg gd tt te ls ws st1
    | none => .fail) else .fail
def lcM (c : Bool) (vs : List Nat) (tg : Tgt) (src : SM') (tt : L → Store → Res Bool) (te : EM) : EM := fun ls st => (src ls st).bind fun s st1 => (lcGo tg s.gd tt te (wipeL ls vs) s.ws st1).bind fun ys st2 => newL c ys st2
def yesT : L → Store → Res Bool := fun _ st => .ok true st
abbrev E00 : XK := fun _ _ _ => False
section
variable {g : G} {E : XK} {X : Cx}
theorem RL.wipe {ρ H ls σ} (h : RL g ρ H ls σ) : ∀ vs : List Nat, RL g ρ H (wipeL ls vs) (wipe σ vs)
  | [] => h
  | v :: vs => by
    have ih := RL.wipe h vs
    unfold wipeL L2.wipe
    refine ⟨by simp [ih.len], fun i w e => ?_⟩
    by_cases hj : v = i
    · subst hj
      have hl : v < (wipeL ls vs).length := by simpa using (List.getElem?_eq_some_iff.mp e).1
      rw [List.getElem?_set_self hl] at e
      cases e
    · rw [List.getElem?_set_ne hj] at e ⊢
      exact ih.at_ i w e
theorem t_yes : ∀ (σ : St) (H : Hp) (Q : Bool → Hp → Prop), TT' g E yesT σ H Q → tYes σ H Q := fun σ H Q ⟨ρ, ls, st, rl, rs, h⟩ => h true ρ H .refl rs rfl
/-- a computation in a block, then the rest (told at another place) -/
theorem nx_go {α β α' β' : Type} {g' : G} {R : RelT α β} {R2 : RelT α' β'} {ρ H ls σ st ρ0 H0} {Q : β' → Hp → Prop} {m : L → Store → Res α} {k : α → Store → Res α'}
    (rl : RL g' ρ H ls σ) (rs : RS g' ρ H st) (h : wpp g E R2 ρ0 H0 Q ((m ls st).nx.bind k)) {Q' : β → Hp → Prop}
    (hk : ∀ b H1 ρ1 st1 a, Nxt ρ H ρ1 H1 → RS g' ρ1 H1 st1 → R ρ1 H1 a b → wpp g E R2 ρ0 H0 Q (k a st1) → Q' b H1) : Tg g' E00 R m σ H Q' := by
  refine ⟨ρ, ls, st, rl, rs, ?_⟩
  cases e : m ls st with
  | ok a st1 =>
    rw [e] at h
    exact fun b ρ' H' n' rs' r => hk b H' ρ' st1 a n' rs' r h
  | exc c x st => rw [e] at h; exact h.elim
  | fail => rw [e] at h; exact h.elim
theorem wpp_if' {α β : Type} {R : RelT α β} {ρ H} {Q : β → Hp → Prop} {c : Prop} [Decidable c] {α' : Type} {k : α' → Store → Res α} {r' : Res α'} (h : wpp g E R ρ H Q ((if c then r' else .fail).bind k)) : c ∧ wpp g E R ρ H Q (r'.bind k) := by
  split at h
  · exact ⟨by assumption, h⟩
  · exact h.elim
theorem bind_bind {α β γ : Type} (r : Res α) (k : α → Store → Res β) (k' : β → Store → Res γ) : (r.bind k).bind k' = r.bind fun a st => (k a st).bind k' := by cases r <;> rfl
theorem T_lc {c : Bool} {vs : List Nat} {tg : Tgt} {src : SM'} {tt : L → Store → Res Bool} {te : EM} {tt' : TT} {te' : TE} (hv : ∀ i ∈ tg.slots, i ∈ vs)
    (htt : ∀ z σ H Q, TT' (g.wz z) E00 tt σ H Q → tt' σ H Q) (hte : ∀ z σ H Q, T (g.wz z) E00 te σ H Q → te' σ H Q) :
    ∀ σ H Q, T g E (lcM c vs tg src tt te) σ H Q → tLc (iM g E src) (gT g.K tg) tt' te' vs σ H Q := fun σ H Q ⟨ρ, ls, st, rl, rs, h⟩ => by
  refine ⟨ρ, ls, st, rl, rs, ?_⟩
  unfold lcM at h
  cases e : src ls st with
  | fail => rw [e] at h; exact h
  | exc c x st1 => rw [e] at h; exact h
  | ok s st1 =>
    rw [e] at h
    intro J ρ1 H1 n1 rs1 wk D hD
    have h := wpp.mono n1 h
    simp only [Res.bind_ok] at h
    have hzD : D ∉ g.z := fun q => (rs1.hid D q).1 hD
    have rl0 : RL (g.wz (D :: g.z)) ρ1 H1 (wipeL ls vs) (wipe σ vs) := ((rl.mono n1).wipe vs).conv (Cv.hide hD)
    refine ⟨fun i m H => m = s.ws.length - i ∧ i ≤ s.ws.length ∧ ∃ ρ st acc us, Nxt ρ1 H1 ρ H ∧ RS (g.wz (D :: g.z)) ρ H st ∧ H D = some (.lst us) ∧ Rps (g.wz (D :: g.z)) ρ H acc us ∧ acc.length ≤ i ∧
      wpp g E (RW g) ρ1 H1 Q ((lcGo tg s.gd tt te (wipeL ls vs) (s.ws.drop i) st).bind fun ys st2 => newL c (acc ++ ys) st2), ⟨s.ws.length, by simp, Nat.zero_le _, ρ1, st1, [], [], .alloc hD, rs1.hide hD, upd_same, rfl, Nat.le_refl _, by simpa using h⟩, ?_⟩
    rintro i m H2 ⟨rfl, hi, ρ2, st2, acc, us, n2, rs2, hD2, ra, hl, h2⟩
    have hzz : ∀ a ∈ D :: g.z, a ∉ g.z → H1 a = none := fun a ha hn => by
      rcases List.mem_cons.mp ha with q | q
      · subst q; exact hD
      · exact absurd q hn
    by_cases hlt : i < s.ws.length
    · refine .inr ?_
      have ed : s.ws.drop i = s.ws[i] :: s.ws.drop (i + 1) := List.drop_eq_getElem_cons hlt
      rw [ed] at h2
      unfold lcGo at h2
      obtain ⟨hg, h2⟩ := wpp_if' h2
      refine ⟨wk.go _ i ρ2 H2 st2 n2 rs2 hg hlt, fun H => ∃ ρ st acc us, Nxt ρ1 H1 ρ H ∧ RS (g.wz (D :: g.z)) ρ H st ∧ H D = some (.lst us) ∧ Rps (g.wz (D :: g.z)) ρ H acc us ∧ acc.length ≤ i + 1 ∧
        wpp g E (RW g) ρ1 H1 Q ((lcGo tg s.gd tt te (wipeL ls vs) (s.ws.drop (i + 1)) st).bind fun ys st2 => newL c (acc ++ ys) st2), fun H' q => ⟨_, by omega, rfl, hlt, q⟩, fun x H3 y => ?_⟩
      obtain ⟨w, ew, n3, rs3, rx, hDz⟩ := wk.yld _ i ρ2 H2 st2 x H3 n2 rs2 hzz hg hlt y
      have ew' : s.ws[i] = w := by
        rw [List.getElem?_eq_getElem hlt] at ew
        exact Option.some.inj ew
      rw [ew'] at h2
      have hD3 : H3 D = some (.lst us) := (hDz D List.mem_cons_self).trans hD2
      have rl3 : RL (g.wz (D :: g.z)) ρ2 H3 (wipeL ls vs) (wipe σ vs) := rl0.mono (n2.trans n3)
      have ra3 := Rps.mono n3 _ _ ra
      split at h2
      · rename_i ls1 eb
        refine bindT_ok (g := g.wz (D :: g.z)) (K := g.K) vs rfl tg w x (wipeL ls vs) ls1 (wipe σ vs) _ hv rl3 rx eb fun σ' rl' o' => ?_
        refine ⟨?_, htt (D :: g.z) _ _ _ ?_⟩
        · rw [o'.wipe]
          apply List.ext_getElem?
          intro j
          rw [wipe_get, wipe_length, wipe_get]
          split <;> rfl
        rw [bind_bind] at h2
        refine nx_go (R := RB) rl' rs3 h2 fun b H4 ρ4 st4 b' n4 rs4 rb h4 => ?_
        subst rb
        have hD4 : H4 D = some (.lst us) := n4.keep _ _ hD3 (rs3.hid D List.mem_cons_self).2
        cases b' with
        | true =>
          simp only [if_true] at h4 ⊢
          rw [bind_bind] at h4
          refine hte (D :: g.z) _ _ _ (nx_go (R := RW (g.wz (D :: g.z))) (rl'.mono n4) rs4 h4 fun v H5 ρ5 st5 yw n5 rs5 ry h5 => ?_)
          have hD5 : H5 D = some (.lst us) := n5.keep _ _ hD4 (rs4.hid D List.mem_cons_self).2
          have lus : us.length = acc.length := ra.length.symm
          have hsz : s.ws.length ≤ sizeLine := wk.len
          refine ⟨us, hD5, by rw [lus]; omega, ρ5, st5, acc ++ [yw], us ++ [v], ?_, rs5.hidw List.mem_cons_self, upd_same, ?_, by rw [List.length_append]; exact Nat.succ_le_succ hl, ?_⟩
          · have nn := ((n2.trans n3).trans n4).trans n5
            refine ⟨nn.pre, fun a o ha hm => ?_, nn.new, fun a ha => ?_⟩
            · rw [upd_ne (ne_of_none ha hD)]
              exact nn.keep a o ha hm
            · by_cases q : a = D
              · subst q; exact hD
              · rw [upd_ne q] at ha; exact nn.dom a ha
          · exact Rps.conv (Cv.hidw List.mem_cons_self) _ _ ((Rps.mono (n4.trans n5) _ _ ra3).append (Rps.one ry))
          · rw [bind_bind] at h5
            simpa using h5
        | false =>
          simp only [Bool.false_eq_true, if_false] at h4 ⊢
          exact ⟨ρ4, st4, acc, us, (n2.trans n3).trans n4, rs4, hD4, Rps.mono n4 _ _ ra3, Nat.le_succ_of_le hl, h4⟩
      · exact h2.elim
    · have ei : i = s.ws.length := by omega
      subst ei
      rw [List.drop_eq_nil_of_le (Nat.le_refl _)] at h2
      unfold lcGo at h2
      obtain ⟨hg, h2⟩ := wpp_if' h2
      simp only [Res.bind_ok, List.append_nil] at h2
      refine .inl ⟨wk.stop _ _ ρ2 H2 st2 n2 rs2 hg (Nat.le_refl _), ?_⟩
      exact made n2 hD hzD rs2 hD2 ra (Nat.le_trans hl wk.len) h2
end
end
end VM
namespace VM
noncomputable section
open PySem L2
section
variable {g : G} {E : XK} {X : Cx}
theorem PE.ex {e : Expr} {ι : Type} {t : ι → TE} (h : ∀ i, PE X e (t i)) : PE X e (fun σ H Q => ∃ i, t i σ H Q) := ⟨fun pins s σ H Q I ⟨i, q⟩ => (h i).run pins s σ H Q I q⟩
theorem PT.ex {e : Expr} {ι : Type} {t : ι → TT} (h : ∀ i, PT X e (t i)) : PT X e (fun σ H Q => ∃ i, t i σ H Q) := ⟨fun pins s σ H Q I ⟨i, q⟩ => (h i).run pins s σ H Q I q⟩
def slotsOk (tg : Tgt) (vs : List Nat) : Bool := tg.slots.all fun i => vs.contains i
theorem slots_of {tg : Tgt} {vs : List Nat} (h : slotsOk tg vs = true) : ∀ i ∈ tg.slots, i ∈ vs := fun i hi => by
  have := List.all_eq_true.mp h i hi
  simpa using this
section
variable {elt tg iter c : Expr} {scope : Scope} {pos : Pos} {src : SM'} {te : EM} {tt : L → Store → Res Bool}
/-- [elt for tg in iter] -/
theorem r_lc0 (cl : Bool) (own : List (Str × Nat)) (tgt : Tgt) (hcalm : X.calm = true) (hN : X.N.Nodup) (hi : PI X tg iter (iM g E src)) (ok : BlkOk X.N X.env.scope scope own) (hv : slotsOk tgt (own.map (·.2)) = true)
    (hg : ∀ (s : Shared) (H : Hp) (C : Addr) (cl : List (Str × Addr)) (fp : List Addr), PG (X.blk s H scope (compEnvC scope cl C X.env) fp) tg (gT g.K tgt))
    (he : ∀ (z : List Addr) (s : Shared) (H : Hp) (C : Addr) (cl : List (Str × Addr)) (fp : List Addr), PE (X.blk s H scope (compEnvC scope cl C X.env) fp) elt (T (g.wz z) E00 te)) (hs : ∀ x, foldedSetIterable iter X.env x = pure x := by intro _; rfl) :
    PE X (.ListComp elt [⟨tg, iter, [], 0⟩] scope pos) (T g E (lcM cl (own.map (·.2)) tgt src yesT te)) :=
  PEw (pe_lc hcalm hN hi ok hg (fun _ _ _ _ _ => pts_nil) (fun s H C cl fp => PE.ex fun z => he z s H C cl fp) hs) (T_lc (slots_of hv) (fun z σ H Q => t_yes σ H Q) fun z σ H Q h => ⟨z, h⟩)
theorem r_lc1 (cl : Bool) (own : List (Str × Nat)) (tgt : Tgt) (hcalm : X.calm = true) (hN : X.N.Nodup) (hi : PI X tg iter (iM g E src)) (ok : BlkOk X.N X.env.scope scope own) (hv : slotsOk tgt (own.map (·.2)) = true)
    (hg : ∀ (s : Shared) (H : Hp) (C : Addr) (cl : List (Str × Addr)) (fp : List Addr), PG (X.blk s H scope (compEnvC scope cl C X.env) fp) tg (gT g.K tgt))
    (ht : ∀ (z : List Addr) (s : Shared) (H : Hp) (C : Addr) (cl : List (Str × Addr)) (fp : List Addr), PT (X.blk s H scope (compEnvC scope cl C X.env) fp) c (TT' (g.wz z) E00 tt))
    (he : ∀ (z : List Addr) (s : Shared) (H : Hp) (C : Addr) (cl : List (Str × Addr)) (fp : List Addr), PE (X.blk s H scope (compEnvC scope cl C X.env) fp) elt (T (g.wz z) E00 te)) (hs : ∀ x, foldedSetIterable iter X.env x = pure x := by intro _; rfl) :
    PE X (.ListComp elt [⟨tg, iter, [c], 0⟩] scope pos) (T g E (lcM cl (own.map (·.2)) tgt src tt te)) :=
  PEw (pe_lc hcalm hN hi ok hg (fun s H C cl fp => pts_one (PT.ex fun z => ht z s H C cl fp)) (fun s H C cl fp => PE.ex fun z => he z s H C cl fp) hs) (T_lc (slots_of hv) (fun z σ H Q h => ⟨z, h⟩) fun z σ H Q h => ⟨z, h⟩)
end
/-! ### statements -/
inductive SRes where
  | nx (ls : L) (st : Store) | rt (w : W) (st : Store) | bk (ls : L) (st : Store) | ct (ls : L) (st : Store) | exc (c : Str) (x : Option W) (ls : L) (st : Store) | fail
abbrev SM := L → Store → SRes
def swp (g : G) (E : XK) (ρ : List Addr) (H : Hp) (D : Ends) : SRes → Prop
  | .nx ls st => ∀ σ' ρ' H', Nxt ρ H ρ' H' → RL g ρ' H' ls σ' → RS g ρ' H' st → D.nx σ' H'
  | .bk ls st => ∀ σ' ρ' H', Nxt ρ H ρ' H' → RL g ρ' H' ls σ' → RS g ρ' H' st → D.bk σ' H'
  | .ct ls st => ∀ σ' ρ' H', Nxt ρ H ρ' H' → RL g ρ' H' ls σ' → RS g ρ' H' st → D.ct σ' H'
  | .rt w st => post g (RW g) ρ H D.rt w st
  | .exc c x _ st => XPost g E ρ H c x st
  | .fail => False
theorem swp.mono {ρ H ρ1 H1 D r} (n : Nxt ρ H ρ1 H1) (h : swp g E ρ H D r) : swp g E ρ1 H1 D r := by
  cases r with
  | nx ls st => exact fun σ' ρ' H' n' => h σ' ρ' H' (n.trans n')
  | bk ls st => exact fun σ' ρ' H' n' => h σ' ρ' H' (n.trans n')
  | ct ls st => exact fun σ' ρ' H' n' => h σ' ρ' H' (n.trans n')
  | rt w st => exact post.mono n h
  | exc c x ls st => exact XPost.mono n h
  | fail => exact h
def TSm (g : G) (E : XK) (m : SM) : TS := fun D σ H => ∃ ρ ls st, RL g ρ H ls σ ∧ RS g ρ H st ∧ swp g E ρ H D (m ls st)
theorem PSw {st : Stmt} {t t' : TS} (h : PS X st t) (w : ∀ D σ H, t' D σ H → t D σ H) : PS X st t' := ⟨fun pins s σ H D I q => h.run pins s σ H D I (w _ _ _ q)⟩
theorem PSsw {st : List Stmt} {t t' : TS} (h : PSs X st t) (w : ∀ D σ H, t' D σ H → t D σ H) : PSs X st t' := ⟨fun pins s σ H D I q => h.run pins s σ H D I (w _ _ _ q)⟩
@[simp] def sb {α : Type} (ls : L) (r : Res α) (k : α → Store → SRes) : SRes := match r with | .ok a st => k a st | .exc c x st => .exc c x ls st | .fail => .fail
theorem ts_go {α β : Type} {R : RelT α β} {ρ H ls ls0 σ st} {D : Ends} {m : L → Store → Res α} {k : α → Store → SRes}
    (rl : RL g ρ H ls σ) (rs : RS g ρ H st) (h : swp g E ρ H D (sb ls0 (m ls st) k)) {Q' : β → Hp → Prop}
    (hk : ∀ b H1 ρ1 st1 a, Nxt ρ H ρ1 H1 → RL g ρ1 H1 ls σ → RS g ρ1 H1 st1 → R ρ1 H1 a b → swp g E ρ1 H1 D (k a st1) → Q' b H1) : Tg g E R m σ H Q' := by
  refine ⟨ρ, ls, st, rl, rs, ?_⟩
  cases e : m ls st with
  | ok a st1 =>
    rw [e] at h
    exact fun b ρ' H' n' rs' r => hk b H' ρ' st1 a n' (rl.mono n') rs' r (swp.mono n' h)
  | exc c x st => rw [e] at h; exact h
  | fail => rw [e] at h; exact h
@[simp] def nxS : SM := fun ls st => .nx ls st
@[simp] def seqM (a b : SM) : SM := fun ls st => match a ls st with | .nx ls1 st1 => b ls1 st1 | r => r
theorem ss_nil : PSs X [] (TSm g E nxS) := PSsw pss_nil fun D σ H ⟨ρ, ls, st, rl, rs, h⟩ => h σ ρ H .refl rl rs
theorem ss_one {s : Stmt} {m} (h : PS X s (TSm g E m)) : PSs X [s] (TSm g E m) := pss_one h
theorem ss_cons {s : Stmt} {r : List Stmt} {m m'} (h : PS X s (TSm g E m)) (h' : PSs X r (TSm g E m')) : PSs X (s :: r) (TSm g E (seqM m m')) := PSsw (pss_cons h h') fun D σ H ⟨ρ, ls, st, rl, rs, h⟩ => by
  refine ⟨ρ, ls, st, rl, rs, ?_⟩
  unfold seqM at h
  cases e : m ls st with
  | nx ls1 st1 => rw [e] at h; exact fun σ' ρ' H' n' rl' rs' => ⟨ρ', ls1, st1, rl', rs', swp.mono n' h⟩
  | rt w st => rw [e] at h; exact h
  | bk ls st => rw [e] at h; exact h
  | ct ls st => rw [e] at h; exact h
  | exc c x ls st => rw [e] at h; exact h
  | fail => rw [e] at h; exact h
@[simp] def setM (i : Nat) (m : EM) : SM := fun ls st => sb ls (m ls st) fun w st1 => .nx (ls.set i (some w)) st1
theorem s_set {i : Nat} {x : Str} {e : Expr} {pos pos' : Pos} {m : EM} (hN : X.N.Nodup) (hi : X.N[i]? = some x) (hx : Loc X.env.scope x) (he : PE X e (T g E m)) (hs : swapsWith e (some (.Name x pos')) pos.line X.env = pure false := by rfl) (hf : X.fn x = true ∨ X.env.scope.names.lookup x = some .local := by first | exact .inl rfl | exact .inr rfl | assumption) :
    PS X (.Assign [.Name x pos'] e pos) (TSm g E (setM i m)) := PSw (ps_set hN hi hx he hs hf) fun D σ H ⟨ρ, ls, st, rl, rs, h⟩ =>
  ts_go (R := RW g) rl rs h fun v H1 ρ1 st1 w n1 rl1 rs1 r1 h1 => h1 _ ρ1 H1 .refl (rl1.set r1) rs1
/-- name = [..], the name a local -/
theorem s_setLc0 {i : Nat} {y : Str} {py : Pos} {elt tg iter : Expr} {scope : Scope} {pos spos : Pos} {src : SM'} {te : EM} (cl : Bool) (own : List (Str × Nat)) (tgt : Tgt) (hc : X.calm = true) (hN : X.N.Nodup) (hy : X.N[i]? = some y) (hyl : X.env.scope.names.lookup y = some .local)
    (hsw : swapsWith (.ListComp elt [⟨tg, iter, [], 0⟩] scope pos) (some (.Name y py)) spos.line X.env = pure true) (hi : PI X tg iter (iM g E src)) (ok : BlkOk X.N X.env.scope scope own) (hv : slotsOk tgt (own.map (·.2)) = true)
    (hg : ∀ (s : Shared) (H : Hp) (C : Addr) (cl : List (Str × Addr)) (fp : List Addr), PG (X.blk s H scope (compEnvC scope cl C X.env) fp) tg (gT g.K tgt))
    (he : ∀ (z : List Addr) (s : Shared) (H : Hp) (C : Addr) (cl : List (Str × Addr)) (fp : List Addr), PE (X.blk s H scope (compEnvC scope cl C X.env) fp) elt (T (g.wz z) E00 te)) (hs : ∀ x, foldedSetIterable iter X.env x = pure x := by intro _; rfl) :
    PS X (.Assign [.Name y py] (.ListComp elt [⟨tg, iter, [], 0⟩] scope pos) spos) (TSm g E (setM i (lcM cl (own.map (·.2)) tgt src yesT te))) :=
  PSw (ps_setLc hc hN hy hyl hsw hi ok hg (fun _ _ _ _ _ => pts_nil) (fun s H C cl fp => PE.ex fun z => he z s H C cl fp) hs) fun D σ H ⟨ρ, ls, st, rl, rs, h⟩ =>
    T_lc (slots_of hv) (fun z σ H Q => t_yes σ H Q) (fun z σ H Q h => ⟨z, h⟩) σ H _ (ts_go (R := RW g) rl rs h fun v H1 ρ1 st1 w n1 rl1 rs1 r1 h1 => h1 _ ρ1 H1 .refl (rl1.set r1) rs1)
theorem s_setLc1 {i : Nat} {y : Str} {py : Pos} {elt tg iter c : Expr} {scope : Scope} {pos spos : Pos} {src : SM'} {te : EM} {tt : L → Store → Res Bool} (cl : Bool) (own : List (Str × Nat)) (tgt : Tgt) (hc : X.calm = true) (hN : X.N.Nodup) (hy : X.N[i]? = some y) (hyl : X.env.scope.names.lookup y = some .local)
    (hsw : swapsWith (.ListComp elt [⟨tg, iter, [c], 0⟩] scope pos) (some (.Name y py)) spos.line X.env = pure true) (hi : PI X tg iter (iM g E src)) (ok : BlkOk X.N X.env.scope scope own) (hv : slotsOk tgt (own.map (·.2)) = true)
    (hg : ∀ (s : Shared) (H : Hp) (C : Addr) (cl : List (Str × Addr)) (fp : List Addr), PG (X.blk s H scope (compEnvC scope cl C X.env) fp) tg (gT g.K tgt))
    (ht : ∀ (z : List Addr) (s : Shared) (H : Hp) (C : Addr) (cl : List (Str × Addr)) (fp : List Addr), PT (X.blk s H scope (compEnvC scope cl C X.env) fp) c (TT' (g.wz z) E00 tt))
    (he : ∀ (z : List Addr) (s : Shared) (H : Hp) (C : Addr) (cl : List (Str × Addr)) (fp : List Addr), PE (X.blk s H scope (compEnvC scope cl C X.env) fp) elt (T (g.wz z) E00 te)) (hs : ∀ x, foldedSetIterable iter X.env x = pure x := by intro _; rfl) :
    PS X (.Assign [.Name y py] (.ListComp elt [⟨tg, iter, [c], 0⟩] scope pos) spos) (TSm g E (setM i (lcM cl (own.map (·.2)) tgt src tt te))) :=
  PSw (ps_setLc hc hN hy hyl hsw hi ok hg (fun s H C cl fp => pts_one (PT.ex fun z => ht z s H C cl fp)) (fun s H C cl fp => PE.ex fun z => he z s H C cl fp) hs) fun D σ H ⟨ρ, ls, st, rl, rs, h⟩ =>
    T_lc (slots_of hv) (fun z σ H Q h => ⟨z, h⟩) (fun z σ H Q h => ⟨z, h⟩) σ H _ (ts_go (R := RW g) rl rs h fun v H1 ρ1 st1 w n1 rl1 rs1 r1 h1 => h1 _ ρ1 H1 .refl (rl1.set r1) rs1)
/-- target = e -/
@[simp] def asgM (tg : Tgt) (m : EM) : SM := fun ls st => sb ls (m ls st) fun w st1 => match bindT st1 tg w ls with | some ls1 => .nx ls1 st1 | none => .fail
theorem s_asg {tge e : Expr} {pos : Pos} {m : EM} (tg : Tgt) (he : PE X e (T g E m)) (hg : PG X tge (gT g.K tg)) (hs : swapsWithSole [tge] e pos.line X.env = pure false := by rfl) (hw : swappedStores [tge] e X.env = pure none := by rfl)
    (h1 : (assignEach [tge] X.env).map (·.2) = [assign tge X.env] := by rfl) : PS X (.Assign [tge] e pos) (TSm g E (asgM tg m)) := PSw (ps_asg he hg hs hw h1) fun D σ H ⟨ρ, ls, st, rl, rs, h⟩ =>
  ts_go (R := RW g) rl rs h fun v H1 ρ1 st1 w n1 rl1 rs1 r1 h1 => by
    split at h1
    · rename_i ls1 eb
      exact bindT_ok (g := g) (K := g.K) tg.slots rfl tg w v ls ls1 σ _ (fun _ h => h) rl1 r1 eb fun σ' rl' _ => h1 σ' ρ1 H1 .refl rl' rs1
    · exact h1.elim
/-- a, b = x, y -/
@[simp] def parM (i j : Nat) (m : AM) : SM := fun ls st => sb ls (m ls st) fun ws st1 => match ws with | [v, w] => .nx ((ls.set i (some v)).set j (some w)) st1 | _ => .fail
theorem s_par {i j : Nat} {x y : Str} {a b : Expr} {m : AM} {px py pt pos : Pos} {kt k2 pt2} (hc : X.calm = true) (hN : X.N.Nodup) (hi : X.N[i]? = some x) (hj : X.N[j]? = some y) (hij : i ≠ j)
    (hx : X.env.scope.names.lookup x = some .local) (hy : X.env.scope.names.lookup y = some .local) (ha : PA X [a, b] (TA' g E m))
    (hw : swappedStores [.Tuple [.Name x px, .Name y py] kt pt] (.Tuple [a, b] k2 pt2) X.env = pure (some [x, y]))
    (hs : swapsWithSole [.Tuple [.Name x px, .Name y py] kt pt] (.Tuple [a, b] k2 pt2) pos.line X.env = pure false := by rfl) :
    PS X (.Assign [.Tuple [.Name x px, .Name y py] kt pt] (.Tuple [a, b] k2 pt2) pos) (TSm g E (parM i j m)) := PSw (ps_par hc hN hi hj hij hx hy ha hw hs) fun D σ H ⟨ρ, ls, st, rl, rs, h⟩ =>
  ts_go (R := RWs g) rl rs h fun vs H1 ρ1 st1 ws n1 rl1 rs1 r1 h1 => by
    split at h1
    · obtain ⟨v, v', e, r2, r3⟩ := rps2 r1 rfl
      exact ⟨v, v', e, h1 _ ρ1 H1 .refl ((rl1.set r2).set r3) rs1⟩
    · exact h1.elim
/-- o[i] = e -/
@[simp] def putM (mo mi me : EM) : SM := fun ls st => sb ls (me ls st) fun v st1 => sb ls (mo ls st1) fun o st2 => sb ls (mi ls st2) fun i st3 => sb ls (setW o i v st3) fun _ st4 => .nx ls st4
theorem s_put {k : Nat} {o i e : Expr} {pos pos' : Pos} {mo mi me : EM} (hr : Room k X.A) (ho : PE X o (T g E mo)) (hi : PE X i (T g E mi)) (he : PE X e (T g E me))
    (ha : ∀ v, assign (.Subscript o i pos') X.env v = (do
      let ov ← holding [v] (eval o X.env)
      let iv ← holding [v, ov] (eval i X.env)
      standAt pos'
      holding [v, ov, iv] (setItem ov iv v)
      release [v, ov, iv] []) := by intro _; rfl)
    (hs : swapsWithSole [.Subscript o i pos'] e pos.line X.env = pure false := by rfl) (hw : swappedStores [.Subscript o i pos'] e X.env = pure none := by rfl)
    (h1 : (assignEach [.Subscript o i pos'] X.env).map (·.2) = [assign (.Subscript o i pos') X.env] := by rfl) : PS X (.Assign [.Subscript o i pos'] e pos) (TSm g E (putM mo mi me)) :=
  PSw (ps_asg he (pg_sub ho hi (set_any hr) ha) hs hw h1) fun D σ H ⟨ρ, ls, st, rl, rs, h⟩ =>
    ts_go (R := RW g) rl rs h fun v H1 ρ1 st1 w n1 rl1 rs1 r1 h1 => ts_go (R := RW g) rl1 rs1 h1 fun x H2 ρ2 st2 wo n2 rl2 rs2 r2 h2 => ts_go (R := RW g) rl2 rs2 h2 fun y H3 ρ3 st3 wi n3 rl3 rs3 r3 h3 => by
      refine k_set (g := g) (E := E) rs3 (Rp.mono n3 _ _ r2) r3 (Rp.mono (n2.trans n3) _ _ r1) ?_
      cases e : setW wo wi w st3 with
      | ok a st4 => rw [e] at h3; exact fun ρ' H' n' rs' => h3 σ ρ' H' n' (rl3.mono n') rs'
      | exc c x st => rw [e] at h3; exact h3
      | fail => rw [e] at h3; exact h3
@[simp] def exprM (m : EM) : SM := fun ls st => sb ls (m ls st) fun _ st1 => .nx ls st1
theorem s_expr {e : Expr} {pos : Pos} {m : EM} (he : PE X e (T g E m)) (hs : swapsWith e none pos.line X.env = pure false := by rfl) : PS X (.Expr e pos) (TSm g E (exprM m)) := PSw (ps_expr he hs) fun D σ H ⟨ρ, ls, st, rl, rs, h⟩ =>
  ts_go (R := RW g) rl rs h fun v H1 ρ1 st1 w n1 rl1 rs1 r1 h1 => h1 σ ρ1 H1 .refl rl1 rs1
@[simp] def retM (m : EM) : SM := fun ls st => sb ls (m ls st) fun w st1 => .rt w st1
theorem s_ret {e : Expr} {pos : Pos} {m : EM} (he : PE X e (T g E m)) : PS X (.Return (some e) pos) (TSm g E (retM m)) := PSw (ps_ret he) fun D σ H ⟨ρ, ls, st, rl, rs, h⟩ =>
  ts_go (R := RW g) rl rs h fun v H1 ρ1 st1 w n1 rl1 rs1 r1 h1 => h1 v ρ1 H1 .refl rs1 r1
@[simp] def ifS (c : L → Store → Res Bool) (a b : SM) : SM := fun ls st => sb ls (c ls st) fun k st1 => if k = true then a ls st1 else b ls st1
theorem s_if {c : Expr} {a b : List Stmt} {pos mc ma mb} (hc : PT X c (TT' g E mc)) (ha : PSs X a (TSm g E ma)) (hb : PSs X b (TSm g E mb)) : PS X (.If c a b pos) (TSm g E (ifS mc ma mb)) := PSw (ps_if hc ha hb) fun D σ H ⟨ρ, ls, st, rl, rs, h⟩ =>
  ts_go (R := RB) rl rs h fun k H1 ρ1 st1 a n1 rl1 rs1 r1 h1 => by
    subst r1
    cases a with
    | true => exact ⟨ρ1, ls, st1, rl1, rs1, h1⟩
    | false => exact ⟨ρ1, ls, st1, rl1, rs1, h1⟩
theorem s_pass {pos : Pos} : PS X (.Pass pos) (TSm g E nxS) := PSw ps_pass fun D σ H ⟨ρ, ls, st, rl, rs, h⟩ => h σ ρ H .refl rl rs
def whileN (c : L → Store → Res Bool) (b : SM) : Nat → L → Store → SRes
  | 0, _, _ => .fail
  | n + 1, ls, st => sb ls (c ls st) fun k st1 => if k = true then (match b ls st1 with
    | .nx ls2 st2 => whileN c b n ls2 st2
    | .ct ls2 st2 => whileN c b n ls2 st2
    | .bk ls2 st2 => .nx ls2 st2
    | r => r) else .nx ls st1
theorem s_while (n : Nat) {c : Expr} {body : List Stmt} {pos mc mb} (hp : PassesOwn (model X.prog X.w) X.A X.env X.xe) (hc : PT X c (TT' g E mc)) (hb : PSs X body (TSm g E mb)) : PS X (.While c body [] pos) (TSm g E (whileN mc mb n)) := PSw (ps_while hp hc hb) fun D σ H ⟨ρ, ls, st, rl, rs, h⟩ => by
  refine ⟨fun m σ H => ∃ ρ ls st, RL g ρ H ls σ ∧ RS g ρ H st ∧ swp g E ρ H D (whileN mc mb m ls st), ⟨n, ρ, ls, st, rl, rs, h⟩, ?_⟩
  rintro m σ H ⟨ρ, ls, st, rl, rs, h⟩
  cases m with
  | zero => exact h.elim
  | succ m =>
    unfold whileN at h
    refine ts_go (R := RB) rl rs h fun k H1 ρ1 st1 a n1 rl1 rs1 r1 h1 => ?_
    subst r1
    cases a with
    | false => exact h1 σ ρ1 H1 .refl rl1 rs1
    | true =>
      simp only [if_true] at h1 ⊢
      refine ⟨fun σ H => ∃ ρ ls st, RL g ρ H ls σ ∧ RS g ρ H st ∧ swp g E ρ H D (whileN mc mb m ls st), fun σ' H' q => ⟨m, Nat.lt_succ_self m, q⟩, ρ1, ls, st1, rl1, rs1, ?_⟩
      cases e : mb ls st1 with
      | nx ls2 st2 => rw [e] at h1; exact fun σ' ρ' H' n' rl' rs' => ⟨ρ', ls2, st2, rl', rs', swp.mono n' h1⟩
      | ct ls2 st2 => rw [e] at h1; exact fun σ' ρ' H' n' rl' rs' => ⟨ρ', ls2, st2, rl', rs', swp.mono n' h1⟩
      | bk ls2 st2 => rw [e] at h1; exact fun σ' ρ' H' n' rl' rs' => h1 σ' ρ' H' n' rl' rs'
      | rt w st2 => rw [e] at h1; exact h1
      | exc c x ls2 st2 => rw [e] at h1; exact h1
      | fail => rw [e] at h1; exact h1
def forGo (tg : Tgt) (gd : Option (Nat × List W)) (b : SM) : List W → L → Store → SRes
  | [], ls, st => if gdB gd st = true then .nx ls st else .fail
  | w :: ws, ls, st => if gdB gd st = true then (match bindT st tg w ls with
    | some ls1 => (match b ls1 st with
      | .nx ls2 st2 => forGo tg gd b ws ls2 st2
      | .ct ls2 st2 => forGo tg gd b ws ls2 st2
      | .bk ls2 st2 => .nx ls2 st2
      | r => r)
    | none => .fail) else .fail
def forM (tg : Tgt) (src : SM') (b : SM) : SM := fun ls st => sb ls (src ls st) fun s st1 => forGo tg s.gd b s.ws ls st1
theorem swp_if {ρ H D} {c : Prop} [Decidable c] {r : SRes} (h : swp g E ρ H D (if c then r else .fail)) : c ∧ swp g E ρ H D r := by
  split at h
  · exact ⟨by assumption, h⟩
  · exact h.elim
theorem s_for (tg : Tgt) {tge iter : Expr} {body : List Stmt} {pos : Pos} {src : SM'} {mb : SM} (hp : PassesOwn (model X.prog X.w) X.A X.env X.xe) (hc : X.calm = true) (hi : PI X tge iter (iM g E src)) (hg : PG X tge (gT g.K tg)) (hb : PSs X body (TSm g E mb))
    (hs : ∀ x, foldedSetIterable iter X.env x = pure x := by intro _; rfl) : PS X (.For tge iter body [] pos) (TSm g E (forM tg src mb)) := PSw (ps_for hp hc hi hg hb hs) fun D σ H ⟨ρ, ls, st, rl, rs, h⟩ => by
  refine ⟨ρ, ls, st, rl, rs, ?_⟩
  unfold forM at h
  cases e : src ls st with
  | fail => rw [e] at h; exact h
  | exc c x st1 => rw [e] at h; exact h
  | ok s st1 =>
    rw [e] at h
    intro J ρ1 H1 n1 rs1 wk
    have h := swp.mono n1 h
    simp only [sb] at h
    refine ⟨fun i m σ H => m = s.ws.length - i ∧ i ≤ s.ws.length ∧ ∃ ρ ls st, Nxt ρ1 H1 ρ H ∧ RL g ρ H ls σ ∧ RS g ρ H st ∧ swp g E ρ H D (forGo tg s.gd mb (s.ws.drop i) ls st), ⟨s.ws.length, by simp, Nat.zero_le _, ρ1, ls, st1, .refl, rl.mono n1, rs1, by simpa using h⟩, ?_⟩
    rintro i m σ H2 ⟨rfl, hi, ρ2, ls2, st2, n2, rl2, rs2, h2⟩
    by_cases hlt : i < s.ws.length
    · refine .inr ?_
      have ed : s.ws.drop i = s.ws[i] :: s.ws.drop (i + 1) := List.drop_eq_getElem_cons hlt
      rw [ed] at h2
      unfold forGo at h2
      obtain ⟨hg', h2⟩ := swp_if h2
      refine ⟨wk.go g.z i ρ2 H2 st2 n2 rs2 hg' hlt, fun σ H => ∃ ρ ls st, Nxt ρ1 H1 ρ H ∧ RL g ρ H ls σ ∧ RS g ρ H st ∧ swp g E ρ H D (forGo tg s.gd mb (s.ws.drop (i + 1)) ls st), fun σ' H' q => ⟨_, by omega, rfl, hlt, q⟩, fun x H3 y => ?_⟩
      obtain ⟨w, ew, n3, rs3, rx, _⟩ := wk.yld g.z i ρ2 H2 st2 x H3 n2 rs2 (fun a h1 h2 => absurd h1 h2) hg' hlt y
      have ew' : s.ws[i] = w := by
        rw [List.getElem?_eq_getElem hlt] at ew
        exact Option.some.inj ew
      rw [ew'] at h2
      split at h2
      · rename_i ls1 eb
        refine bindT_ok (g := g) (K := g.K) tg.slots rfl tg w x ls2 ls1 σ _ (fun _ h => h) (rl2.mono n3) rx eb fun σ' rl' o' => ⟨ρ2, ls1, st2, rl', rs3, ?_⟩
        have h2 := swp.mono n3 h2
        cases e : mb ls1 st2 with
        | nx ls3 st3 => rw [e] at h2; exact fun σ' ρ' H' n' rl' rs' => ⟨ρ', ls3, st3, (n2.trans n3).trans n', rl', rs', swp.mono n' h2⟩
        | ct ls3 st3 => rw [e] at h2; exact fun σ' ρ' H' n' rl' rs' => ⟨ρ', ls3, st3, (n2.trans n3).trans n', rl', rs', swp.mono n' h2⟩
        | bk ls3 st3 => rw [e] at h2; exact fun σ' ρ' H' n' rl' rs' => h2 σ' ρ' H' n' rl' rs'
        | rt w st3 => rw [e] at h2; exact h2
        | exc c x ls3 st3 => rw [e] at h2; exact h2
        | fail => rw [e] at h2; exact h2
      · exact h2.elim
    · have ei : i = s.ws.length := by omega
      subst ei
      rw [List.drop_eq_nil_of_le (Nat.le_refl _)] at h2
      unfold forGo at h2
      obtain ⟨hg', h2⟩ := swp_if h2
      exact .inl ⟨wk.stop g.z _ ρ2 H2 st2 n2 rs2 hg' (Nat.le_refl _), h2 σ ρ2 H2 .refl rl2 rs2⟩
end
end
end VM

set_option Elab.async false
set_option linter.all false
set_option maxRecDepth 100000
namespace VM
noncomputable section
open PySem L2
/-! ### leaving a def -/
mutual
def lowW (n : Nat) : W → Bool
  | .ref m => decide (m < n)
  | .tup xs => lows n xs
  | .kt xs => lows n xs
  | .lst xs => lows n xs
  | .dK kvs => lowK n kvs
  | .dT kvs => lowT n kvs
  | .non => true
  | .bl _ => true
  | .int _ => true
  | .str _ => true
  | .scr _ => true
def lows (n : Nat) : List W → Bool
  | [] => true
  | w :: ws => lowW n w && lows n ws
def lowK (n : Nat) : List (Key × W) → Bool
  | [] => true
  | (_, w) :: ws => lowW n w && lowK n ws
def lowT (n : Nat) : List (List Key × W) → Bool
  | [] => true
  | (_, w) :: ws => lowW n w && lowT n ws
end
def lowF (n : Nat) : List (Str × W) → Bool
  | [] => true
  | (_, w) :: ws => lowW n w && lowF n ws
def lowC (n : Nat) : Cell → Bool
  | .lst xs => lows n xs
  | .lkL xs => lows n xs
  | .dK xs => lowK n xs
  | .lkK xs => lowK n xs
  | .dT xs => lowT n xs
  | .lkT xs => lowT n xs
  | .ins _ fs => lowF n fs
def beqF : List (Str × W) → List (Str × W) → Bool
  | [], [] => true
  | (k, a) :: as, (j, b) :: bs => decide (k = j) && beqW a b && beqF as bs
  | _, _ => false
def beqC : Cell → Cell → Bool
  | .lst a, .lst b => beqs a b
  | .lkL a, .lkL b => beqs a b
  | .dK a, .dK b => beqK a b
  | .lkK a, .lkK b => beqK a b
  | .dT a, .dT b => beqT a b
  | .lkT a, .lkT b => beqT a b
  | .ins c a, .ins d b => decide (c = d) && beqF a b
  | _, _ => false
theorem beqF_eq : ∀ (a b : List (Str × W)), beqF a b = true → a = b
  | [], b, h => by cases b <;> simp [beqF] at h ⊢
  | (k, a) :: as, [], h => by simp [beqF] at h
  | (k, a) :: as, (j, b) :: bs, h => by
    simp only [beqF, Bool.and_eq_true, decide_eq_true_eq] at h
    rw [h.1.1, beqW_eq a b h.1.2, beqF_eq as bs h.2]
theorem beqF_refl : ∀ (a : List (Str × W)), beqF a a = true
  | [] => by simp [beqF]
  | (k, a) :: as => by simp only [beqF]; rw [beqW_refl a, beqF_refl as]; simp
theorem beqC_eq (a b : Cell) (h : beqC a b = true) : a = b := by
  cases a <;> cases b <;> simp [beqC] at h ⊢
  · exact beqs_eq _ _ h
  · exact beqK_eq _ _ h
  · exact beqT_eq _ _ h
  · exact beqs_eq _ _ h
  · exact beqK_eq _ _ h
  · exact beqT_eq _ _ h
  · exact ⟨h.1, beqF_eq _ _ h.2⟩
theorem beqC_refl (a : Cell) : beqC a a = true := by
  cases a <;> simp [beqC, beqs_refl, beqK_refl, beqT_refl, beqF_refl]
def outOk (n : Nat) : List Cell → List Cell → Bool
  | [], _ => true
  | c :: cs, d :: ds => (beqC c d || lowC n d) && outOk n cs ds
  | _ :: _, [] => false
theorem outOk_app (n : Nat) : ∀ (st t : List Cell), outOk n st (st ++ t) = true
  | [], _ => rfl
  | c :: cs, t => by simp only [List.cons_append, outOk]; rw [beqC_refl, outOk_app n cs t]; rfl
theorem outOk_self (n : Nat) (st : List Cell) : outOk n st st = true := by simpa using outOk_app n st []
theorem outOk_set (n : Nat) {d : Cell} (h : lowC n d = true) : ∀ (st t : List Cell) (i : Nat), outOk n st (st.set i d ++ t) = true
  | [], _, _ => rfl
  | c :: cs, t, 0 => by simp only [List.set_cons_zero, List.cons_append, outOk]; rw [h, outOk_app n cs t]; simp
  | c :: cs, t, i + 1 => by simp only [List.set_cons_succ, List.cons_append, outOk]; rw [beqC_refl, outOk_set n h cs t i]; simp
theorem outOk_set' (n : Nat) {d : Cell} (h : lowC n d = true) (st : List Cell) (i : Nat) : outOk n st (st.set i d) = true := by simpa using outOk_set n h st [] i
theorem outOk_get {n : Nat} : ∀ {st st' : List Cell} {i : Nat} {d : Cell}, outOk n st st' = true → i < st.length → st'[i]? = some d → st[i]? = some d ∨ lowC n d = true
  | c :: cs, d' :: ds, 0, d, h, _, e => by
    simp only [outOk, Bool.and_eq_true, Bool.or_eq_true] at h
    simp at e; subst e
    rcases h.1 with h | h
    · exact .inl (by rw [beqC_eq _ _ h]; rfl)
    · exact .inr h
  | c :: cs, d' :: ds, i + 1, d, h, hl, e => by
    simp only [outOk, Bool.and_eq_true] at h
    simpa using outOk_get (i := i) (d := d) h.2 (by simpa using hl) (by simpa using e)
  | c :: cs, [], _, _, h, _, _ => by simp [outOk] at h
theorem outOk_len {n : Nat} : ∀ {st st' : List Cell}, outOk n st st' = true → st.length ≤ st'.length
  | [], _, _ => Nat.zero_le _
  | c :: cs, d :: ds, h => by
    simp only [outOk, Bool.and_eq_true] at h
    simpa using outOk_len h.2
  | c :: cs, [], h => by simp [outOk] at h
mutual
def frzW (f : Nat → Option W) : W → Option W
  | .ref m => f m
  | .tup xs => (match frzs f xs with | some ys => some (.tup ys) | none => none)
  | .kt xs => (match frzs f xs with | some ys => some (.kt ys) | none => none)
  | .lst xs => (match frzs f xs with | some ys => some (.lst ys) | none => none)
  | .dK kvs => (match frzK f kvs with | some ys => some (.dK ys) | none => none)
  | .dT kvs => (match frzT f kvs with | some ys => some (.dT ys) | none => none)
  | .non => some .non
  | .bl b => some (.bl b)
  | .int i => some (.int i)
  | .str x => some (.str x)
  | .scr ns => some (.scr ns)
def frzs (f : Nat → Option W) : List W → Option (List W)
  | [] => some []
  | w :: ws => (match frzW f w, frzs f ws with | some y, some ys => some (y :: ys) | _, _ => none)
def frzK (f : Nat → Option W) : List (Key × W) → Option (List (Key × W))
  | [] => some []
  | (k, w) :: ws => (match frzW f w, frzK f ws with | some y, some ys => some ((k, y) :: ys) | _, _ => none)
def frzT (f : Nat → Option W) : List (List Key × W) → Option (List (List Key × W))
  | [] => some []
  | (k, w) :: ws => (match frzW f w, frzT f ws with | some y, some ys => some ((k, y) :: ys) | _, _ => none)
end
def frzR (st : Store) (n0 : Nat) : Nat → Nat → Option W
  | 0, m => if m < n0 then some (.ref m) else none
  | k + 1, m => if m < n0 then some (.ref m) else match st[m]? with
    | some (.lst xs) => (match frzs (frzR st n0 k) xs with | some ys => some (.lst ys) | none => none)
    | some (.dK xs) => (match frzK (frzR st n0 k) xs with | some ys => some (.dK ys) | none => none)
    | some (.dT xs) => (match frzT (frzR st n0 k) xs with | some ys => some (.dT ys) | none => none)
    | _ => none
/-- no cell is told of -/
abbrev pureW (w : W) : Prop := lowW 0 w = true
mutual
theorem frz_low {f : Nat → Option W} : ∀ (w : W), lowW 0 w = true → frzW f w = some w
  | .ref m, h => by simp [lowW] at h
  | .tup xs, h => by simp only [frzW]; rw [frzs_low xs h]
  | .kt xs, h => by simp only [frzW]; rw [frzs_low xs h]
  | .lst xs, h => by simp only [frzW]; rw [frzs_low xs h]
  | .dK xs, h => by simp only [frzW]; rw [frzK_low xs h]
  | .dT xs, h => by simp only [frzW]; rw [frzT_low xs h]
  | .non, _ => rfl
  | .bl _, _ => rfl
  | .int _, _ => rfl
  | .str _, _ => rfl
  | .scr _, _ => rfl
theorem frzs_low {f : Nat → Option W} : ∀ (ws : List W), lows 0 ws = true → frzs f ws = some ws
  | [], _ => rfl
  | w :: ws, h => by
    simp only [lows, Bool.and_eq_true] at h
    simp only [frzs]; rw [frz_low w h.1, frzs_low ws h.2]
theorem frzK_low {f : Nat → Option W} : ∀ (ws : List (Key × W)), lowK 0 ws = true → frzK f ws = some ws
  | [], _ => rfl
  | (k, w) :: ws, h => by
    simp only [lowK, Bool.and_eq_true] at h
    simp only [frzK]; rw [frz_low w h.1, frzK_low ws h.2]
theorem frzT_low {f : Nat → Option W} : ∀ (ws : List (List Key × W)), lowT 0 ws = true → frzT f ws = some ws
  | [], _ => rfl
  | (k, w) :: ws, h => by
    simp only [lowT, Bool.and_eq_true] at h
    simp only [frzT]; rw [frz_low w h.1, frzT_low ws h.2]
end
mutual
theorem low_mono {m n : Nat} (h : m ≤ n) : ∀ (w : W), lowW m w = true → lowW n w = true
  | .ref k, q => by simp [lowW] at q ⊢; omega
  | .tup xs, q => lows_mono h xs q
  | .kt xs, q => lows_mono h xs q
  | .lst xs, q => lows_mono h xs q
  | .dK xs, q => lowK_mono h xs q
  | .dT xs, q => lowT_mono h xs q
  | .non, _ => rfl
  | .bl _, _ => rfl
  | .int _, _ => rfl
  | .str _, _ => rfl
  | .scr _, _ => rfl
theorem lows_mono {m n : Nat} (h : m ≤ n) : ∀ (ws : List W), lows m ws = true → lows n ws = true
  | [], _ => rfl
  | w :: ws, q => by
    simp only [lows, Bool.and_eq_true] at q ⊢
    exact ⟨low_mono h w q.1, lows_mono h ws q.2⟩
theorem lowK_mono {m n : Nat} (h : m ≤ n) : ∀ (ws : List (Key × W)), lowK m ws = true → lowK n ws = true
  | [], _ => rfl
  | (k, w) :: ws, q => by
    simp only [lowK, Bool.and_eq_true] at q ⊢
    exact ⟨low_mono h w q.1, lowK_mono h ws q.2⟩
theorem lowT_mono {m n : Nat} (h : m ≤ n) : ∀ (ws : List (List Key × W)), lowT m ws = true → lowT n ws = true
  | [], _ => rfl
  | (k, w) :: ws, q => by
    simp only [lowT, Bool.and_eq_true] at q ⊢
    exact ⟨low_mono h w q.1, lowT_mono h ws q.2⟩
end
section
variable {g : G} {ρ t : List Addr} {H : Hp} {st : Store}
mutual
theorem Rp.isLow : ∀ (w : W) (v : V), Rp g ρ H w v → lowW ρ.length w = true
  | .ref m, _, ⟨a, _, h⟩ => by simp [lowW]; exact (List.getElem?_eq_some_iff.mp h).1
  | .tup xs, _, ⟨_, vs, _, _, _, r, _⟩ => Rps.isLow xs vs r
  | .kt xs, _, ⟨_, vs, _, _, r, _⟩ => Rps.isLow xs vs r
  | .lst xs, _, ⟨_, vs, _, _, _, r, _⟩ => Rps.isLow xs vs r
  | .dK xs, _, ⟨_, vs, _, _, _, r, _⟩ => RpK.isLow xs vs r
  | .dT xs, _, ⟨_, vs, _, _, _, r, _⟩ => RpT.isLow xs vs r
  | .non, _, _ => rfl
  | .bl _, _, _ => rfl
  | .int _, _, _ => rfl
  | .str _, _, _ => rfl
  | .scr _, _, _ => rfl
theorem Rps.isLow : ∀ (ws : List W) (vs : List V), Rps g ρ H ws vs → lows ρ.length ws = true
  | [], _, _ => rfl
  | w :: ws, _, ⟨v, r, _, h1, h2⟩ => by simp only [lows]; rw [Rp.isLow w v h1, Rps.isLow ws r h2]; rfl
theorem RpK.isLow : ∀ (ws : List (Key × W)) (vs : List (Key × V)), RpK g ρ H ws vs → lowK ρ.length ws = true
  | [], _, _ => rfl
  | (k, w) :: ws, _, ⟨v, r, _, h1, h2⟩ => by simp only [lowK]; rw [Rp.isLow w v h1, RpK.isLow ws r h2]; rfl
theorem RpT.isLow : ∀ (ws : List (List Key × W)) (vs : List (List Key × V)), RpT g ρ H ws vs → lowT ρ.length ws = true
  | [], _, _ => rfl
  | (k, w) :: ws, _, ⟨v, r, _, h1, h2⟩ => by simp only [lowT]; rw [Rp.isLow w v h1, RpT.isLow ws r h2]; rfl
end
theorem RpF.isLow : ∀ (ws : List (Str × W)) (vs : List (Str × V)), RpF g ρ H ws vs → lowF ρ.length ws = true
  | [], _, _ => rfl
  | (k, w) :: ws, _, ⟨v, r, _, h1, h2⟩ => by simp only [lowF]; rw [Rp.isLow w v h1, RpF.isLow ws r h2]; rfl
theorem CellRp.isLow {a c} (h : CellRp g ρ H a c) : lowC ρ.length c = true := by
  cases c with
  | lst ws => obtain ⟨vs, _, r, _⟩ := h; exact Rps.isLow _ _ r
  | lkL ws => obtain ⟨vs, _, r, _⟩ := h; exact Rps.isLow _ _ r
  | dK ws => obtain ⟨vs, _, r, _⟩ := h; exact RpK.isLow _ _ r
  | lkK ws => obtain ⟨vs, _, r, _⟩ := h; exact RpK.isLow _ _ r
  | dT ws => obtain ⟨vs, _, r, _⟩ := h; exact RpT.isLow _ _ r
  | lkT ws => obtain ⟨vs, _, r, _⟩ := h; exact RpT.isLow _ _ r
  | ins c fs => obtain ⟨dx, vs, _, r⟩ := h; exact RpF.isLow _ _ r
theorem Out.app {a} (h : Out g (ρ ++ t) a) : Out g ρ a := ⟨fun q => h.1 (List.mem_append_left _ q), h.2⟩
mutual
theorem Rp.down : ∀ (w : W) (v : V), lowW ρ.length w = true → Rp g (ρ ++ t) H w v → Rp g ρ H w v
  | .ref m, _, q, ⟨a, e, h⟩ => ⟨a, e, by simp [lowW] at q; rwa [List.getElem?_append_left q] at h⟩
  | .tup xs, _, q, ⟨a, vs, e, h, m, r, z⟩ => ⟨a, vs, e, h, m.app, Rps.down xs vs q r, z⟩
  | .kt xs, _, q, ⟨a, vs, e, h, r, z⟩ => ⟨a, vs, e, h, Rps.down xs vs q r, z⟩
  | .lst xs, _, q, ⟨a, vs, e, h, m, r, z⟩ => ⟨a, vs, e, h, m.app, Rps.down xs vs q r, z⟩
  | .dK xs, _, q, ⟨a, vs, e, h, m, r, z⟩ => ⟨a, vs, e, h, m.app, RpK.down xs vs q r, z⟩
  | .dT xs, _, q, ⟨a, vs, e, h, m, r, z⟩ => ⟨a, vs, e, h, m.app, RpT.down xs vs q r, z⟩
  | .non, _, _, h => h
  | .bl _, _, _, h => h
  | .int _, _, _, h => h
  | .str _, _, _, h => h
  | .scr _, _, _, ⟨a, e, h, z⟩ => ⟨a, e, h.imp (fun ⟨h, m⟩ => ⟨h, m.app⟩) id, z⟩
theorem Rps.down : ∀ (ws : List W) (vs : List V), lows ρ.length ws = true → Rps g (ρ ++ t) H ws vs → Rps g ρ H ws vs
  | [], _, _, h => h
  | w :: ws, _, q, ⟨v, r, e, h1, h2⟩ => by
    simp only [lows, Bool.and_eq_true] at q
    exact ⟨v, r, e, Rp.down w v q.1 h1, Rps.down ws r q.2 h2⟩
theorem RpK.down : ∀ (ws : List (Key × W)) (vs : List (Key × V)), lowK ρ.length ws = true → RpK g (ρ ++ t) H ws vs → RpK g ρ H ws vs
  | [], _, _, h => h
  | (k, w) :: ws, _, q, ⟨v, r, e, h1, h2⟩ => by
    simp only [lowK, Bool.and_eq_true] at q
    exact ⟨v, r, e, Rp.down w v q.1 h1, RpK.down ws r q.2 h2⟩
theorem RpT.down : ∀ (ws : List (List Key × W)) (vs : List (List Key × V)), lowT ρ.length ws = true → RpT g (ρ ++ t) H ws vs → RpT g ρ H ws vs
  | [], _, _, h => h
  | (k, w) :: ws, _, q, ⟨v, r, e, h1, h2⟩ => by
    simp only [lowT, Bool.and_eq_true] at q
    exact ⟨v, r, e, Rp.down w v q.1 h1, RpT.down ws r q.2 h2⟩
end
theorem RpF.down : ∀ (ws : List (Str × W)) (vs : List (Str × V)), lowF ρ.length ws = true → RpF g (ρ ++ t) H ws vs → RpF g ρ H ws vs
  | [], _, _, h => h
  | (k, w) :: ws, _, q, ⟨v, r, e, h1, h2⟩ => by
    simp only [lowF, Bool.and_eq_true] at q
    exact ⟨v, r, e, Rp.down w v q.1 h1, RpF.down ws r q.2 h2⟩
theorem CellRp.down {a c} (q : lowC ρ.length c = true) (h : CellRp g (ρ ++ t) H a c) : CellRp g ρ H a c := by
  cases c with
  | lst ws => obtain ⟨vs, h1, r, z⟩ := h; exact ⟨vs, h1, Rps.down _ _ q r, z⟩
  | lkL ws => obtain ⟨vs, h1, r, z⟩ := h; exact ⟨vs, h1, Rps.down _ _ q r, z⟩
  | dK ws => obtain ⟨vs, h1, r, z⟩ := h; exact ⟨vs, h1, RpK.down _ _ q r, z⟩
  | lkK ws => obtain ⟨vs, h1, r, z⟩ := h; exact ⟨vs, h1, RpK.down _ _ q r, z⟩
  | dT ws => obtain ⟨vs, h1, r, z⟩ := h; exact ⟨vs, h1, RpT.down _ _ q r, z⟩
  | lkT ws => obtain ⟨vs, h1, r, z⟩ := h; exact ⟨vs, h1, RpT.down _ _ q r, z⟩
  | ins c fs => obtain ⟨dx, vs, h1, r⟩ := h; exact ⟨dx, vs, h1, RpF.down _ _ q r⟩
/-- what stood before the cells of a def -/
def FOk (g : G) (ρ t : List Addr) (H : Hp) (f : Nat → Option W) : Prop := ∀ m w' v, f m = some w' → Rp g (ρ ++ t) H (.ref m) v → Rp g ρ H w' v
mutual
theorem frzW_ok {f} (hf : FOk g ρ t H f) : ∀ (w w' : W) (v : V), frzW f w = some w' → Rp g (ρ ++ t) H w v → Rp g ρ H w' v
  | .ref m, w', v, e, r => hf m w' v e r
  | .tup xs, w', v, e, ⟨a, vs, e1, h, m, r, z⟩ => by
    simp only [frzW] at e
    split at e
    · rename_i ys q
      cases e
      obtain ⟨r', l⟩ := frzs_ok hf xs ys vs q r
      exact ⟨a, vs, e1, h, m.app, r', by rw [l]; exact z⟩
    · cases e
  | .kt xs, w', v, e, ⟨a, vs, e1, h, r, z⟩ => by
    simp only [frzW] at e
    split at e
    · rename_i ys q
      cases e
      obtain ⟨r', l⟩ := frzs_ok hf xs ys vs q r
      exact ⟨a, vs, e1, h, r', by rw [l]; exact z⟩
    · cases e
  | .lst xs, w', v, e, ⟨a, vs, e1, h, m, r, z⟩ => by
    simp only [frzW] at e
    split at e
    · rename_i ys q
      cases e
      obtain ⟨r', l⟩ := frzs_ok hf xs ys vs q r
      exact ⟨a, vs, e1, h, m.app, r', by rw [l]; exact z⟩
    · cases e
  | .dK xs, w', v, e, ⟨a, vs, e1, h, m, r, z⟩ => by
    simp only [frzW] at e
    split at e
    · rename_i ys q
      cases e
      obtain ⟨r', l⟩ := frzK_ok hf xs ys vs q r
      exact ⟨a, vs, e1, h, m.app, r', by rw [l]; exact z⟩
    · cases e
  | .dT xs, w', v, e, ⟨a, vs, e1, h, m, r, z⟩ => by
    simp only [frzW] at e
    split at e
    · rename_i ys q
      cases e
      obtain ⟨r', l⟩ := frzT_ok hf xs ys vs q r
      exact ⟨a, vs, e1, h, m.app, r', by rw [l]; exact z⟩
    · cases e
  | .non, _, _, e, r => by cases e; exact r
  | .bl _, _, _, e, r => by cases e; exact r
  | .int _, _, _, e, r => by cases e; exact r
  | .str _, _, _, e, r => by cases e; exact r
  | .scr _, _, _, e, ⟨a, e1, h, z⟩ => by cases e; exact ⟨a, e1, h.imp (fun ⟨h, m⟩ => ⟨h, m.app⟩) id, z⟩
theorem frzs_ok {f} (hf : FOk g ρ t H f) : ∀ (ws ws' : List W) (vs : List V), frzs f ws = some ws' → Rps g (ρ ++ t) H ws vs → Rps g ρ H ws' vs ∧ ws'.length = ws.length
  | [], _, _, e, r => by cases e; exact ⟨r, rfl⟩
  | w :: ws, ws', _, e, ⟨v, r, e1, h1, h2⟩ => by
    simp only [frzs] at e
    split at e
    · rename_i y ys q1 q2
      cases e
      obtain ⟨r', l⟩ := frzs_ok hf ws ys r q2 h2
      exact ⟨⟨v, r, e1, frzW_ok hf w y v q1 h1, r'⟩, by simp [l]⟩
    · cases e
theorem frzK_ok {f} (hf : FOk g ρ t H f) : ∀ (ws ws' : List (Key × W)) (vs : List (Key × V)), frzK f ws = some ws' → RpK g (ρ ++ t) H ws vs → RpK g ρ H ws' vs ∧ ws'.length = ws.length
  | [], _, _, e, r => by cases e; exact ⟨r, rfl⟩
  | (k, w) :: ws, ws', _, e, ⟨v, r, e1, h1, h2⟩ => by
    simp only [frzK] at e
    split at e
    · rename_i y ys q1 q2
      cases e
      obtain ⟨r', l⟩ := frzK_ok hf ws ys r q2 h2
      exact ⟨⟨v, r, e1, frzW_ok hf w y v q1 h1, r'⟩, by simp [l]⟩
    · cases e
theorem frzT_ok {f} (hf : FOk g ρ t H f) : ∀ (ws ws' : List (List Key × W)) (vs : List (List Key × V)), frzT f ws = some ws' → RpT g (ρ ++ t) H ws vs → RpT g ρ H ws' vs ∧ ws'.length = ws.length
  | [], _, _, e, r => by cases e; exact ⟨r, rfl⟩
  | (k, w) :: ws, ws', _, e, ⟨v, r, e1, h1, h2⟩ => by
    simp only [frzT] at e
    split at e
    · rename_i y ys q1 q2
      cases e
      obtain ⟨r', l⟩ := frzT_ok hf ws ys r q2 h2
      exact ⟨⟨v, r, e1, frzW_ok hf w y v q1 h1, r'⟩, by simp [l]⟩
    · cases e
end
theorem frzR_ok (rs : RS g (ρ ++ t) H st) : ∀ k, FOk g ρ t H (frzR st ρ.length k)
  | 0 => fun m w' v e ⟨a, e1, h⟩ => by
    simp only [frzR] at e
    split at e
    · rename_i hl
      cases e
      exact ⟨a, e1, by rwa [List.getElem?_append_left hl] at h⟩
    · cases e
  | k + 1 => fun m w' v e ⟨a, e1, h⟩ => by
    simp only [frzR] at e
    split at e
    · rename_i hl
      cases e
      exact ⟨a, e1, by rwa [List.getElem?_append_left hl] at h⟩
    · rename_i hl
      obtain ⟨c, hc, rc⟩ := rs.get h
      have hout : Out g ρ a := by
        have nd := rs.nd
        rw [List.nodup_append] at nd
        rw [List.getElem?_append_right (by omega)] at h
        have ht := List.mem_of_getElem? h
        exact ⟨fun q => nd.2.2 a q a ht rfl, fun q => (rs.hid a q).2 (List.mem_append_right _ ht)⟩
      rw [hc] at e
      cases c with
      | lst xs =>
        simp only at e
        split at e
        · rename_i ys q
          cases e
          obtain ⟨vs, h1, r, z⟩ := rc
          obtain ⟨r', l⟩ := frzs_ok (frzR_ok rs k) xs ys vs q r
          exact ⟨a, vs, e1, h1, hout, r', by rw [l]; exact z⟩
        · cases e
      | dK xs =>
        simp only at e
        split at e
        · rename_i ys q
          cases e
          obtain ⟨vs, h1, r, z⟩ := rc
          obtain ⟨r', l⟩ := frzK_ok (frzR_ok rs k) xs ys vs q r
          exact ⟨a, vs, e1, .inl h1, hout, r', by rw [l]; exact z⟩
        · cases e
      | dT xs =>
        simp only at e
        split at e
        · rename_i ys q
          cases e
          obtain ⟨vs, h1, r, z⟩ := rc
          obtain ⟨r', l⟩ := frzT_ok (frzR_ok rs k) xs ys vs q r
          exact ⟨a, vs, e1, .inl h1, hout, r', by rw [l]; exact z⟩
        · cases e
      | _ => cases e
end
def finF (st0 : Store) : SRes → Res W
  | .nx _ st => if outOk st0.length st0 st = true then .ok .non (st.take st0.length) else .fail
  | .rt w st => if outOk st0.length st0 st = true then (match frzW (frzR st st0.length 3) w with | some w' => .ok w' (st.take st0.length) | none => .fail) else .fail
  | .exc c x _ st => if outOk st0.length st0 st = true then (match x with
    | none => .exc c none (st.take st0.length)
    | some w => (match frzW (frzR st st0.length 3) w with | some w' => .exc c (some w') (st.take st0.length) | none => .fail)) else .fail
  | _ => .fail
def startL (n : Nat) (ws : List W) : L := ws.map some ++ List.replicate (n - ws.length) none
def funM (np n : Nat) (body : SM) : FM := fun ws st => if ws.length = np then finF st (body (startL n ws) st) else .fail
def nxF (f : FM) : FM := fun ws st => (f ws st).nx
/-- a def whose new objects stay -/
def finK : SRes → Res W
  | .nx _ st => .ok .non st
  | .rt w st => .ok w st
  | .exc c x _ st => .exc c x st
  | _ => .fail
def funK (np n : Nat) (body : SM) : FM := fun ws st => if ws.length = np then finK (body (startL n ws) st) else .fail
def spV (K : PySem.W.Frag) (cl : Str → Addr) (n : Nat) (f : FM) : Sp := fun vs H Q E => vs.length = n ∧ ∃ z ρ st ws, Rps ⟨K, cl, z⟩ ρ H ws vs ∧ RS ⟨K, cl, z⟩ ρ H st ∧ wpp ⟨K, cl, z⟩ E (RW ⟨K, cl, z⟩) ρ H Q (f ws st)
section
variable {g : G} {E : XK} {ρ : List Addr} {H : Hp} {st : Store}
theorem RS.leave {ρ' H' st'} (rs0 : RS g ρ H st) (n : Nxt ρ H ρ' H') (rs : RS g ρ' H' st') (ho : outOk st.length st st' = true) : Nxt ρ H ρ H' ∧ RS g ρ H' (st'.take st.length) := by
  obtain ⟨t, et⟩ := n.pre
  subst et
  have hl := outOk_len ho
  refine ⟨⟨⟨[], by simp⟩, n.keep, fun a m m' => absurd m m', n.dom⟩, by rw [List.length_take, rs0.len]; omega, rs0.nd, fun k a c h1 h2 => ?_, fun a m => ⟨(rs.hid a m).1, (rs0.hid a m).2⟩⟩
  have hk : k < ρ.length := (List.getElem?_eq_some_iff.mp h1).1
  rw [List.getElem?_take_of_lt (by rw [← rs0.len]; exact hk)] at h2
  have rc := rs.cell k a c (by rw [List.getElem?_append_left hk]; exact h1) h2
  refine rc.down ?_
  rcases outOk_get ho (by rw [← rs0.len]; exact hk) h2 with e | e
  · obtain ⟨a', _, rc0⟩ := rs0.adr e
    exact rc0.isLow
  · rw [rs0.len]; exact e
theorem swp_fin {Q r} (rs0 : RS g ρ H st) (h : wpp g E (RW g) ρ H Q (finF st r)) : swp g E ρ H { nx := fun _ H' => Q .non H', rt := Q } r := by
  cases r with
  | nx ls st' =>
    unfold finF at h
    obtain ⟨ho, h⟩ := wpp_if h
    intro σ' ρ' H' n rl rs
    obtain ⟨n', rs'⟩ := rs0.leave n rs ho
    exact h _ ρ H' n' rs' rfl
  | rt w st' =>
    unfold finF at h
    obtain ⟨ho, h⟩ := wpp_if h
    intro v ρ' H' n rs r
    obtain ⟨t, et⟩ := n.pre
    subst et
    split at h
    · rename_i w' q
      obtain ⟨n', rs'⟩ := rs0.leave n rs ho
      rw [← rs0.len] at q
      exact h _ ρ H' n' (by rw [rs0.len] at *; exact rs') (frzW_ok (frzR_ok rs 3) w w' v q r)
    · exact h.elim
  | exc c x ls st' =>
    unfold finF at h
    obtain ⟨ho, h⟩ := wpp_if h
    intro ρ' H' n rs
    obtain ⟨t, et⟩ := n.pre
    subst et
    obtain ⟨n', rs'⟩ := rs0.leave n rs ho
    cases x with
    | none => exact h ρ H' n' rs'
    | some w =>
      simp only at h
      split at h
      · rename_i w' q
        rw [← rs0.len] at q
        intro d v hd r
        exact h ρ H' n' rs' d v hd (frzW_ok (frzR_ok rs 3) w w' v q r)
      · exact h.elim
  | bk ls st' => exact h.elim
  | ct ls st' => exact h.elim
  | fail => exact h.elim
theorem swp_finK {Q r} (h : wpp g E (RW g) ρ H Q (finK r)) : swp g E ρ H { nx := fun _ H' => Q .non H', rt := Q } r := by
  cases r with
  | nx ls st' => exact fun σ' ρ' H' n rl rs => h _ ρ' H' n rs rfl
  | rt w st' => exact h
  | exc c x ls st' => exact h
  | bk ls st' => exact h.elim
  | ct ls st' => exact h.elim
  | fail => exact h.elim
theorem rl_start {N : List Str} {ws vs} (r : Rps g ρ H ws vs) : RL g ρ H (startL N.length ws) (L2.start N vs) := by
  have hl := r.length
  refine ⟨by simp [startL, L2.start, hl], fun i w e => ?_⟩
  unfold startL at e
  unfold L2.start
  by_cases hi : i < ws.length
  · rw [List.getElem?_append_left (by simpa using hi), List.getElem?_map] at e
    cases q : ws[i]? with
    | none => rw [q] at e; cases e
    | some w' =>
      rw [q] at e
      simp at e
      subst e
      obtain ⟨v, ev, rv⟩ := r.get q
      exact ⟨v, by rw [List.getElem?_append_left (by rw [List.length_map, ← hl]; exact hi), List.getElem?_map, ev]; rfl, rv⟩
  · rw [List.getElem?_append_right (by simpa using hi), List.getElem?_replicate] at e
    split at e <;> cases e
theorem wpp_nx {α β : Type} {E' : XK} {R : RelT α β} {Q : β → Hp → Prop} {r : Res α} (h : wpp g E R ρ H Q r.nx) : wpp g E' R ρ H Q r := by
  cases r with
  | ok a st => exact h
  | exc c x st => exact h.elim
  | fail => exact h
end
section
variable {P : Program} {w : World} {K : PySem.W.Frag} {mg : Str → Option Value} {base : Heap} {cl : Str → Addr}
/-- a def that lets no exception out -/
theorem fn_pure {x qual : Str} {sd : Stmt} {f : Addr} {fd : FuncData} {N ps : List Str} {k : Nat} (F : Fun K x qual sd f fd) (S : FnScope N ps (defScope sd)) (body : SM)
    (hb : ∀ (z : List Addr) (cdv : Value) (A : Around) (outer : List Env) (s : Shared) (H : Hp) (E : XK), Room k (A.deeper (PyProof.Rows.envOfC qual (defScope sd) s.heap.objs.size f cdv)) → PSs (cxOf CX0 P w K mg base N qual (defScope sd) f cdv A outer s H E).nox (defBody sd) (TSm ⟨K, cl, z⟩ E00 body)) :
    FnOk P w K mg base CX0 (k + 1) f fd ps (spV K cl ps.length (nxF (funM ps.length N.length body))) := by
  refine F.ok S (fun vs H Q E h => h.1) fun cdv A outer s H vs Q E hr ⟨hl, z, ρ, st, ws, r, rs, h⟩ => ⟨_, hb z cdv A outer s H E hr, ρ, startL N.length ws, st, rl_start r, rs, ?_⟩
  have h1 : wpp ⟨K, cl, z⟩ E00 (RW ⟨K, cl, z⟩) ρ H Q (funM ps.length N.length body ws st) := wpp_nx h
  unfold funM at h1
  exact swp_fin rs (wpp_if h1).2
theorem fn_keep {x qual : Str} {sd : Stmt} {f : Addr} {fd : FuncData} {N ps : List Str} {k : Nat} (F : Fun K x qual sd f fd) (S : FnScope N ps (defScope sd)) (body : SM)
    (hb : ∀ (z : List Addr) (cdv : Value) (A : Around) (outer : List Env) (s : Shared) (H : Hp) (E : XK), Room k (A.deeper (PyProof.Rows.envOfC qual (defScope sd) s.heap.objs.size f cdv)) → PSs (cxOf CX0 P w K mg base N qual (defScope sd) f cdv A outer s H E).nox (defBody sd) (TSm ⟨K, cl, z⟩ E00 body)) :
    FnOk P w K mg base CX0 (k + 1) f fd ps (spV K cl ps.length (nxF (funK ps.length N.length body))) := by
  refine F.ok S (fun vs H Q E h => h.1) fun cdv A outer s H vs Q E hr ⟨hl, z, ρ, st, ws, r, rs, h⟩ => ⟨_, hb z cdv A outer s H E hr, ρ, startL N.length ws, st, rl_start r, rs, ?_⟩
  have h1 : wpp ⟨K, cl, z⟩ E00 (RW ⟨K, cl, z⟩) ρ H Q (funK ps.length N.length body ws st) := wpp_nx h
  unfold funK at h1
  exact swp_finK (wpp_if h1).2
theorem r_call {X : Cx} {cl : Str → Addr} {z : List Addr} {E : XK} {k n : Nat} {f : Addr} {fd : FuncData} {ps : List Str} {x : Str} {p pos : Pos} {e : Expr} {es : List Expr} {F : FM} {ma : AM}
    (Fk : FnOk X.prog X.w X.K X.mg X.base CX0 k f fd ps (spV X.K cl n (nxF F))) (hr : Room k X.A) (hg : Gl X x) (hm : X.mg x = some (.ref f)) (hk : PySem.W.keepIn X.K (.ref f) = true) (hb : Binds X.K fd ps []) (hn : ∀ ws st, ws.length ≠ n → F ws st = .fail)
    (ha : PA X (e :: es) (TA' ⟨X.K, cl, z⟩ E ma)) (hdb : (x == ("__debug__" : Str)) = false := by decide) (he : starEach (e :: es) X.env = (false, eval e X.env) :: starEach es X.env := by rfl) (hpl : (backTo pos (starEach es X.env)).any (·.1) = false := by rfl) :
    PE X (.Call (.Name x p) (e :: es) [] pos) (T ⟨X.K, cl, z⟩ E (bM (nxF F) ma)) :=
  PEw (pe_call Fk hr hg hm hk hb .nil pass0 ha hdb he hpl) fun σ H Q ⟨ρ, ls, st, rl, rs, h⟩ => tg_go (R2 := RW ⟨X.K, cl, z⟩) rl rs h fun vs H1 ρ1 st1 ws n1 rl1 rs1 r1 h1 => by
    rw [List.append_nil]
    refine ⟨?_, z, ρ1, st1, ws, r1, rs1, ?_⟩
    · rw [← r1.length]
      by_cases q : ws.length = n
      · exact q
      · unfold nxF at h1
        rw [hn ws st1 q] at h1
        exact h1.elim
    · unfold nxF at h1 ⊢
      cases e : F ws st1 with
      | ok a st2 => rw [e] at h1; exact h1
      | exc c x st2 => rw [e] at h1; exact h1.elim
      | fail => rw [e] at h1; exact h1.elim
theorem funM_len {np n : Nat} {body : SM} : ∀ ws st, ws.length ≠ np → funM np n body ws st = .fail := fun ws st h => by unfold funM; rw [if_neg h]
theorem funK_len {np n : Nat} {body : SM} : ∀ ws st, ws.length ≠ np → funK np n body ws st = .fail := fun ws st h => by unfold funK; rw [if_neg h]
/-- a law's end -/
theorem walk_vm {l : PySem.W.OpenLaw} {q : Program} {loose : List Str} {XP : (Str → Option Value) → Heap → Prop} {YP : World → Heap → Prop} {d : DefRec} {K : Params → PySem.W.Frag} {k : Nat} {F : FM} {cl : World → Str → Addr} (hn : l.most = some 63) (hdf : d.params.defaults = []) (hr : Room k callerA)
    (hY : ∀ (w : World) (h : Heap), YP w h → (K w.params).In h)
    (hF : ∀ (w : World) (mg : Str → Option Value) (fa : Addr) (h : Heap), (K w.params).In h → h.Ns mainGlobals mg → mg d.name = some (.ref fa) →
      ∃ fd : FuncData, (∀ (s : Shared) (u : Value), BindsTo s fd ⟨[u], []⟩ [("script", u)]) ∧ ∀ base : Heap, (K w.params).In base → base.Ns mainGlobals mg → FnOk l.prog w (K w.params) mg base CX0 k fa fd ["script"] (spV (K w.params) (cl w) 1 (nxF F)))
    (hT : ∀ ns : List Int, ns.length ≤ 63 → F [.scr ns] [] = .ok (.bl true) []) :
    PySem.W.WalkO q loose XP YP l.row.toRowW d [] (fun f vs => PySem.call f vs) :=
  L2.walk_of (n := 63) (k := k) (x := "script") (CX := fun _ => CX0) (sp := fun w => spV (K w.params) (cl w) 1 (nxF F)) hn (by decide) hdf hr hY hF (fun w H a ns hl hO hS => by
    refine ⟨rfl, [], [], [], [.scr ns], ⟨.ref a, [], rfl, ⟨a, rfl, ?_, Nat.le_trans hl (by decide)⟩, rfl⟩, ⟨rfl, List.nodup_nil, fun n a c h => by simp at h, fun a h => nomatch h⟩, ?_⟩
    · rcases hS with h | h
      · exact .inl ⟨h, by simp [Out]⟩
      · exact .inr h
    · unfold nxF
      rw [hT ns hl]
      exact fun b ρ' H' _ _ r => r) fun _ _ _ _ _ z => z
end
end
end VM

set_option Elab.async false
set_option linter.all false
set_option maxRecDepth 100000
namespace VM
noncomputable section
open PySem L2 PySem.Spec PyProof.Rows
/-! ### a tuple times an int -/
theorem tuple_mul1 (l : Addr) (items : Array Value) (n : Nat) (dd : Option Addr) (sl : Array (Option Value)) (u : Tok) :
    Meets (Builtin.«tuple.__mul__» ⟨[.ref l, .int 1 u], []⟩) (fun _ R s => s.heap.get? l = some { cls := .type "tuple", dict := dd, data := .seq items n, slots := sl } ∧ R (.ok (.ret (Value.ref l))) s) :=
  .of_wp fun prog w A R s h => by
    obtain ⟨hp, g, d, tk, os⟩ := s
    obtain ⟨hl, h⟩ := h
    have f1 := AutoSeq1.idx_int
    wp_walk using wpAny_loadPart' hl
    repeat (first
      | (refine wpAny_ite_false (decide_eq_false (by decide)) ?_; wp_walk using wpAny_loadPart' hl)
      | (refine wpAny_ite_true (decide_eq_true (by simp)) ?_; wp_walk using wpAny_loadPart' hl))
    all_goals first | exact ⟨_, rfl, h⟩ | exact h
def rRepT1 (K : PySem.W.Frag) : R2 := fun x y H Q => ∃ l xs, x = .ref l ∧ y = .int 1 ∧ SqT K H l xs ∧ Q (.ref l) H
theorem op_repT1 {X : Cx} : OpR X (binaryOp .Mult) (rRepT1 X.K) := by
  intro pins s σ H x y v u Q I rx ry h
  obtain ⟨l, xs, rfl, rfl, hT, q⟩ := h
  cases rx
  obtain ⟨t, rfl⟩ := ry
  obtain ⟨its, r, ⟨⟨cls, dd, data, sl⟩, ho, hc, n, hd⟩, hs⟩ := I.tuple hT
  simp only at hc hd
  subst hc hd
  refine wpAny_binaryOp_repeat_ref (T := "tuple") (U := "int") (by decide) ⟨_, ho, rfl⟩ (fun s' => typeIs_int s' 1 t) noFill_tuple_mul F.fills_int_mul F.slot_int_rmul repeat_tuple F.slot_int_index.lookup
    (call_meets F.slot_int_rmul (typeIs_int s 1 t) F.entry_int_rmul (F.args_int_rmul_2 _ _) (int_rmul_tuple 1 t l its.toArray n dd sl)
      ⟨ho, rfl, ⟨_, ho, rfl⟩, call_meets F.slot_tuple_mul ⟨_, ho, rfl⟩ F.entry_tuple_mul (F.args_tuple_mul_2 _ _) (tuple_mul1 l its.toArray n dd sl t) ⟨ho, ?_⟩⟩)
  exact ⟨.ref l, H, I, rfl, q⟩
def mulA (c : Bool) : OM := fun a b st => match asT a with
  | some xs => (match b with
    | .int k => if k = 1 then .ok a st else if (decide (2 ≤ k) && decide (k ≤ 1000) && decide (xs.length ≤ 1000) && !xs.isEmpty) = true then .ok (.tup (List.replicate k.toNat xs).flatten) st else .fail
    | _ => .fail)
  | none => mulW c a b st
def rMulT (K : PySem.W.Frag) : R2 := fun x y H Q => rMulA x y H Q ∨ rRepT1 K x y H Q ∨ rRepT K x y H Q
theorem o_mulA {X : Cx} : OpR X (binaryOp .Mult) (rMulT X.K) := OpR.or o_mul (OpR.or op_repT1 op_repT)
section
variable {g : G} {E : XK} {X : Cx} {k : Nat} {ρ : List Addr} {H : Hp} {st : Store}
theorem k_mulA (c : Bool) : OkO g E (rMulT g.K) (mulA c) := by
  intro ρ H st a b x y Q rs ra rb h
  unfold mulA at h
  split at h
  · rename_i xs q
    obtain ⟨p, vs, e1, hs, r, z⟩ := asT_rp ra q
    split at h
    · rename_i k
      split at h
      · rename_i hk
        subst hk
        exact .inr (.inl ⟨p, vs, e1, rb, hs, by rw [← e1]; exact wpp_flat rs ra h⟩)
      · obtain ⟨hl, h⟩ := wpp_if h
        simp only [Bool.and_eq_true, decide_eq_true_eq, Bool.not_eq_true'] at hl
        obtain ⟨⟨⟨h1, h2⟩, h3⟩, h4⟩ := hl
        refine .inr (.inr ⟨p, k, vs, e1, rb, hs, ?_, h1, h2, by rw [← r.length]; exact h3, fun a ha => new_tup rs (rps_flat r _) ?_ ha h⟩)
        · intro e
          subst e
          have := r.length
          have : xs = [] := List.eq_nil_of_length_eq_zero (by simpa using this)
          rw [this] at h4
          simp at h4
        · rw [flat_len, sizeLine_eq]
          have : xs.length * k.toNat ≤ 1000 * 1000 := Nat.mul_le_mul h3 (by omega)
          omega
    · exact h.elim
  · exact .inl (k_mul c ρ H st a b x y Q rs ra rb h)
theorem r_mulA (c : Bool) {a b : Expr} {pos ma mb} (hK : X.K = g.K) (ha : PE X a (T g E ma)) (hb : PE X b (T g E mb)) : PE X (.BinOp a .Mult b pos) (T g E (opM (mulA c) ma mb)) := r_op o_mulA (by rw [hK]; exact k_mulA c) ha hb
/-! ### {} : a cell -/
def newC (c : Cell) : EM := fun _ st => .ok (.ref st.length) (st ++ [c])
theorem r_dnewT {pos : Pos} : PE X (.Dict [] [] pos) (T g E (newC (.dT []))) := PEw pe_dnewT fun σ H Q ⟨ρ, ls, st, rl, rs, h⟩ p hp =>
  h _ (ρ ++ [p]) _ (.cell hp) (rs.push hp ⟨[], upd_same, rfl, Nat.zero_le _⟩) ⟨p, rfl, by rw [← rs.len]; simp⟩
theorem r_dnewK {pos : Pos} : PE X (.Dict [] [] pos) (T g E (newC (.dK []))) := PEw pe_dnewK fun σ H Q ⟨ρ, ls, st, rl, rs, h⟩ p hp =>
  h _ (ρ ++ [p]) _ (.cell hp) (rs.push hp ⟨[], upd_same, rfl, Nat.zero_le _⟩) ⟨p, rfl, by rw [← rs.len]; simp⟩
end
/-! ### min, max of data -/
def alikes (xs : List W) : Bool := decide (PyData.depthAll (toDs xs) ≤ 50) && PyData.plainAll (toDs xs) && xs.all fun a => xs.all fun b => PySem.W.alike (toD a) (toD b)
def noNone (xs : List W) : Bool := xs.all fun a => match a with | .non => false | _ => true
theorem alikes_all {xs : List W} (h : alikes xs = true) : (∀ a ∈ xs, ∀ b ∈ xs, PySem.W.alike (toD a) (toD b) = true) ∧ PyData.plainAll (toDs xs) = true ∧ PyData.depthAll (toDs xs) ≤ 50 := by
  unfold alikes at h
  simp only [Bool.and_eq_true, decide_eq_true_eq, List.all_eq_true] at h
  exact ⟨h.2, h.1.2, h.1.1⟩
theorem alikes_AA {xs : List W} (h : alikes xs = true) (h' : noNone xs = true) : PySem.W.AlikeAll (toDs xs) := by
  obtain ⟨h1, _, _⟩ := alikes_all h
  rw [toDs_map]
  refine ⟨fun x hx y hy => ?_, fun x hx => ?_⟩
  · obtain ⟨a, ha, rfl⟩ := List.mem_map.mp hx
    obtain ⟨b, hb, rfl⟩ := List.mem_map.mp hy
    exact h1 a ha b hb
  · obtain ⟨a, ha, rfl⟩ := List.mem_map.mp hx
    unfold noNone at h'
    have := List.all_eq_true.mp h' a ha
    cases a <;> simp [toD] at this ⊢
theorem depth_mem : ∀ {xs : List W} {a : W}, a ∈ xs → (toD a).depth ≤ PyData.depthAll (toDs xs)
  | x :: xs, a, h => by
    simp only [toDs, PyData.depthAll]
    rcases List.mem_cons.mp h with h | h
    · subst h; exact Nat.le_max_left _ _
    · exact Nat.le_trans (depth_mem h) (Nat.le_max_right _ _)
def rBest (K : PySem.W.Frag) (mx : Bool) : List V → Hp → VK → Prop := fun vs H Q => ∃ p ys d ds, vs = [.ref p] ∧ (SqL K H p ys ∨ SqT K H p ys) ∧ DpAll K H ys (d :: ds) ∧ PySem.W.AlikeAll (d :: ds) ∧ PyData.depthAll (d :: ds) ≤ 50 ∧
  ∀ y, ys[argBest (fun i j => cond mx (PySem.W.dataLt ((d :: ds).getD j .none) ((d :: ds).getD i .none)) (PySem.W.dataLt ((d :: ds).getD i .none) ((d :: ds).getD j .none))) ds.length]? = some y → Q y H
theorem vals_at {vs : List V} {us : List Value} (h : Vals vs us) {i : Nat} {u : Value} (e : us[i]? = some u) : ∃ v, vs[i]? = some v ∧ RelV v u := by
  induction h generalizing i with
  | nil => simp at e
  | @cons v u' vs us r _ ih =>
    cases i with
    | zero => simp at e; subst e; exact ⟨v, rfl, r⟩
    | succ i => simpa using ih (by simpa using e)
section
variable {X : Cx} {k : Nat}
theorem call_minData (hc : X.calm = true) (hr : Room k X.A) : CallR X (.builtin "min") (rBest X.K false) := by
  intro pins s σ H vs us Q I r h
  obtain ⟨p, ys, d, ds, rfl, hs, hd, ha, hdp, q⟩ := h
  have hu : X.A.in1.units + PyData.depthAll (d :: ds) < cLine := by
    have := hr.units
    show X.A.units + 1 + _ < _
    omega
  rw [Vals.ref1 r]
  rcases hs with hs | hs
  · obtain ⟨its, rv, hl, hz⟩ := I.list hs
    obtain ⟨as, hR⟩ := Dp.readsAll I _ _ _ hd rv
    have hR' : ReadsAll s.heap its.toArray.toList (d :: ds) as := hR
    have hn : its.toArray.size = ds.length + 1 := PySem.W.readsAll_len hR'
    refine PySem.call_min_walkH (PySem.W.iter_listW (A := X.A.in1) (I.ok.hd hc) hl.isList fun s₂ e W st hfp hw hk => ?_)
    refine ⟨_, _, _, _, _, _, _, s.heap, _, rfl, W, st, hfp, by omega, hw, hk, PySem.W.cmpIn_lt (A := X.A.in1) hR' ha hu, fun v s' hP m => ?_⟩
    obtain ⟨h', tk, rfl, hk'⟩ := PySem.W.moved_old e rfl m
    rw [hn, Nat.add_sub_cancel] at hP
    obtain ⟨y, ey, ry⟩ := vals_at rv (by rw [← Array.getElem?_toList] at hP; exact hP)
    exact ⟨y, H, I.kept hk', ry, q y ey⟩
  · obtain ⟨its, rv, hl, hz⟩ := I.tuple hs
    obtain ⟨as, hR⟩ := Dp.readsAll I _ _ _ hd rv
    have hR' : ReadsAll s.heap its.toArray.toList (d :: ds) as := hR
    have hn : its.toArray.size = ds.length + 1 := PySem.W.readsAll_len hR'
    refine PySem.call_min_walkH (PySem.W.iter_tupleW (A := X.A.in1) (I.ok.hd hc) (show s.heap.IsTuple p its.toArray from hl) fun s₂ e W st hfp hw hk => ?_)
    refine ⟨_, _, _, _, _, _, _, s.heap, _, rfl, W, st, hfp, by omega, hw, hk, PySem.W.cmpIn_lt (A := X.A.in1) hR' ha hu, fun v s' hP m => ?_⟩
    obtain ⟨h', tk, rfl, hk'⟩ := PySem.W.moved_old e rfl m
    rw [hn, Nat.add_sub_cancel] at hP
    obtain ⟨y, ey, ry⟩ := vals_at rv (by rw [← Array.getElem?_toList] at hP; exact hP)
    exact ⟨y, H, I.kept hk', ry, q y ey⟩
theorem call_maxData (hc : X.calm = true) (hr : Room k X.A) : CallR X (.builtin "max") (rBest X.K true) := by
  intro pins s σ H vs us Q I r h
  obtain ⟨p, ys, d, ds, rfl, hs, hd, ha, hdp, q⟩ := h
  have hu : X.A.in1.units + PyData.depthAll (d :: ds) < cLine := by
    have := hr.units
    show X.A.units + 1 + _ < _
    omega
  rw [Vals.ref1 r]
  rcases hs with hs | hs
  · obtain ⟨its, rv, hl, hz⟩ := I.list hs
    obtain ⟨as, hR⟩ := Dp.readsAll I _ _ _ hd rv
    have hR' : ReadsAll s.heap its.toArray.toList (d :: ds) as := hR
    have hn : its.toArray.size = ds.length + 1 := PySem.W.readsAll_len hR'
    refine PySem.call_max_walkH (PySem.W.iter_listW (A := X.A.in1) (I.ok.hd hc) hl.isList fun s₂ e W st hfp hw hk => ?_)
    refine ⟨_, _, _, _, _, _, _, s.heap, _, rfl, W, st, hfp, by omega, hw, hk, PySem.W.cmpIn_gt (A := X.A.in1) hR' ha hu, fun v s' hP m => ?_⟩
    obtain ⟨h', tk, rfl, hk'⟩ := PySem.W.moved_old e rfl m
    rw [hn, Nat.add_sub_cancel] at hP
    obtain ⟨y, ey, ry⟩ := vals_at rv (by rw [← Array.getElem?_toList] at hP; exact hP)
    exact ⟨y, H, I.kept hk', ry, q y ey⟩
  · obtain ⟨its, rv, hl, hz⟩ := I.tuple hs
    obtain ⟨as, hR⟩ := Dp.readsAll I _ _ _ hd rv
    have hR' : ReadsAll s.heap its.toArray.toList (d :: ds) as := hR
    have hn : its.toArray.size = ds.length + 1 := PySem.W.readsAll_len hR'
    refine PySem.call_max_walkH (PySem.W.iter_tupleW (A := X.A.in1) (I.ok.hd hc) (show s.heap.IsTuple p its.toArray from hl) fun s₂ e W st hfp hw hk => ?_)
    refine ⟨_, _, _, _, _, _, _, s.heap, _, rfl, W, st, hfp, by omega, hw, hk, PySem.W.cmpIn_gt (A := X.A.in1) hR' ha hu, fun v s' hP m => ?_⟩
    obtain ⟨h', tk, rfl, hk'⟩ := PySem.W.moved_old e rfl m
    rw [hn, Nat.add_sub_cancel] at hP
    obtain ⟨y, ey, ry⟩ := vals_at rv (by rw [← Array.getElem?_toList] at hP; exact hP)
    exact ⟨y, H, I.kept hk', ry, q y ey⟩
end
def minW (x : W) (xs : List W) : W := xs.foldl (fun a y => if ltW y a = true then y else a) x
def maxW (x : W) (xs : List W) : W := xs.foldl (fun a y => if ltW a y = true then y else a) x
def bestF (mx : Bool) : FM := fun ws st => match ws with
  | [w] => (match asQ st w with
    | some (x :: xs) => if (alikes (x :: xs) && noNone (x :: xs)) = true then .ok (cond mx (maxW x xs) (minW x xs)) st else .fail
    | _ => .fail)
  | [.int i, .int j] => .ok (.int (cond mx (if j > i then j else i) (if j < i then j else i))) st
  | _ => .fail
theorem getD_toDs (x : W) (xs : List W) (i : Nat) : (toD x :: toDs xs).getD i .none = toD ((x :: xs).getD i .non) := by
  have : toD x :: toDs xs = (x :: xs).map toD := by rw [toDs_map]; rfl
  rw [this]
  rw [List.getD_eq_getElem?_getD, List.getD_eq_getElem?_getD, List.getElem?_map]
  cases (x :: xs)[i]? <;> rfl
section
variable {g : G} {E : XK} {X : Cx} {k : Nat} {ρ : List Addr} {H : Hp} {st : Store}
def rMM (K : PySem.W.Frag) (mx : Bool) : List V → Hp → VK → Prop := fun xs H Q => rBest K mx xs H Q ∨ ∃ i j, xs = [.int i, .int j] ∧ Q (.int (cond mx (if j > i then j else i) (if j < i then j else i))) H
theorem f_best (mx : Bool) : OkF g E (rMM g.K mx) (bestF mx) := by
  intro ρ H st ws vs Q rs r h
  unfold bestF at h
  split at h
  · rename_i w
    obtain ⟨v, rfl, rw'⟩ := rps1 r rfl
    split at h
    · rename_i x xs q1
      obtain ⟨hl, h⟩ := wpp_if h
      simp only [Bool.and_eq_true] at hl
      obtain ⟨p, vs', e1, hs, r1, z1⟩ := asQ_rp rs rw' q1
      obtain ⟨a1, a2, a3⟩ := alikes_all hl.1
      refine .inl ⟨p, vs', toD x, toDs xs, by rw [e1], hs, Rps.dp _ _ r1 a2, alikes_AA hl.1 hl.2, a3, fun y ey => ?_⟩
      obtain ⟨w', ew, ry⟩ := r1.getV ey
      have hlen : (toDs xs).length = xs.length := by rw [toDs_map, List.length_map]
      have hk : cond mx (maxW x xs) (minW x xs) = w' := by
        cases mx with
        | false =>
          have e2 := PySem.W.argBest_fold ltW W.non x xs xs.length (Nat.le_refl _)
          rw [List.take_length] at e2
          have e3 : (fun i j => cond false (PySem.W.dataLt ((toD x :: toDs xs).getD j .none) ((toD x :: toDs xs).getD i .none)) (PySem.W.dataLt ((toD x :: toDs xs).getD i .none) ((toD x :: toDs xs).getD j .none))) = fun i j => ltW ((x :: xs).getD i W.non) ((x :: xs).getD j W.non) := by
            funext i j
            simp only [getD_toDs, cond_false, ltW]
          rw [e3, hlen] at ew
          show minW x xs = w'
          unfold minW
          rw [← e2.2, List.getD_eq_getElem?_getD, ew]; rfl
        | true =>
          have e2 := PySem.W.argBest_fold (fun a b => ltW b a) W.non x xs xs.length (Nat.le_refl _)
          rw [List.take_length] at e2
          have e3 : (fun i j => cond true (PySem.W.dataLt ((toD x :: toDs xs).getD j .none) ((toD x :: toDs xs).getD i .none)) (PySem.W.dataLt ((toD x :: toDs xs).getD i .none) ((toD x :: toDs xs).getD j .none))) = fun i j => (fun a b => ltW b a) ((x :: xs).getD i W.non) ((x :: xs).getD j W.non) := by
            funext i j
            simp only [getD_toDs, cond_true, ltW]
          rw [e3, hlen] at ew
          show maxW x xs = w'
          unfold maxW
          rw [← e2.2, List.getD_eq_getElem?_getD, ew]; rfl
      rw [hk] at h
      exact h y ρ H .refl rs ry
    · exact h.elim
  · obtain ⟨v, v', rfl, r1, r2⟩ := rps2 r rfl
    cases r1; cases r2
    exact .inr ⟨_, _, rfl, h _ ρ H .refl rs rfl⟩
  · exact h.elim
theorem c_min (hc : X.calm = true) (hr : Room k X.A) : CallR X (.builtin "min") (rMM X.K false) := CallR.or (call_minData hc hr) (call_min2 hc)
theorem c_max (hc : X.calm = true) (hr : Room k X.A) : CallR X (.builtin "max") (rMM X.K true) := CallR.or (call_maxData hc hr) (call_max2 hc)
end
end
end VM

set_option Elab.async false
set_option linter.all false
set_option maxRecDepth 100000
namespace VM
noncomputable section
open PySem L2 PySem.Spec PyProof.Rows
section
variable {g : G} {E : XK} {X : Cx} {k : Nat} {ρ : List Addr} {H : Hp} {st : Store}
/-! ### methods of lists -/
section
variable {o e : Expr} {es : List Expr} {apos cpos : Pos} {mo : EM} {ma : AM}
theorem r_app (hK : X.K = g.K) (ho : PE X o (T g E mo)) (ha : PA X (e :: es) (TA' g E ma)) (hbase : attributeBase o "append" X.env (eval o X.env) = eval o X.env := by rfl)
    (hfew : ((backTo cpos (starEach (e :: es) X.env)).all (fun x => !x.1) && (backToKw cpos (keywordEach [] X.env)).all (fun x => x.1.isSome)
      && decide ((e :: es).length + ([] : List Keyword).length + (if ([] : List Keyword).isEmpty then 0 else 1) < 30)) = true := by rfl)
    (hline : (apos.endLine == cpos.line) = true := by rfl) (hs : starEach (e :: es) X.env = (false, eval e X.env) :: starEach es X.env := by rfl) (hplain : (backTo cpos (starEach es X.env)).any (·.1) = false := by rfl) :
    PE X (.Call (.Attribute o "append" apos) (e :: es) [] cpos) (T g E (mlM appF mo ma)) :=
  PEw (pe_bm PySem.F.plainAttrs_list PySem.F.slot_list_append PySem.F.type_list_append mt_append ho ha hbase hfew hline hs hplain) (by rw [hK]; exact T_ml m_app)
theorem r_pop0 (hK : X.K = g.K) (ho : PE X o (T g E mo)) (hbase : attributeBase o "pop" X.env (eval o X.env) = eval o X.env := by rfl) (hline : (apos.endLine == cpos.line) = true := by rfl) :
    PE X (.Call (.Attribute o "pop" apos) [] [] cpos) (T g E (mlM popF mo aN)) :=
  PEw (pe_bm0 PySem.F.plainAttrs_list PySem.F.slot_list_pop PySem.F.type_list_pop mt_pop ho hbase hline) (by rw [hK]; exact T_ml0 m_pop)
theorem r_popAt (hK : X.K = g.K) (ho : PE X o (T g E mo)) (ha : PA X (e :: es) (TA' g E ma)) (hbase : attributeBase o "pop" X.env (eval o X.env) = eval o X.env := by rfl)
    (hfew : ((backTo cpos (starEach (e :: es) X.env)).all (fun x => !x.1) && (backToKw cpos (keywordEach [] X.env)).all (fun x => x.1.isSome)
      && decide ((e :: es).length + ([] : List Keyword).length + (if ([] : List Keyword).isEmpty then 0 else 1) < 30)) = true := by rfl)
    (hline : (apos.endLine == cpos.line) = true := by rfl) (hs : starEach (e :: es) X.env = (false, eval e X.env) :: starEach es X.env := by rfl) (hplain : (backTo cpos (starEach es X.env)).any (·.1) = false := by rfl) :
    PE X (.Call (.Attribute o "pop" apos) (e :: es) [] cpos) (T g E (mlM popAtF mo ma)) :=
  PEw (pe_bm PySem.F.plainAttrs_list PySem.F.slot_list_pop PySem.F.type_list_pop mt_popAt ho ha hbase hfew hline hs hplain) (by rw [hK]; exact T_ml m_popAt)
theorem r_ins (hK : X.K = g.K) (ho : PE X o (T g E mo)) (ha : PA X (e :: es) (TA' g E ma)) (hbase : attributeBase o "insert" X.env (eval o X.env) = eval o X.env := by rfl)
    (hfew : ((backTo cpos (starEach (e :: es) X.env)).all (fun x => !x.1) && (backToKw cpos (keywordEach [] X.env)).all (fun x => x.1.isSome)
      && decide ((e :: es).length + ([] : List Keyword).length + (if ([] : List Keyword).isEmpty then 0 else 1) < 30)) = true := by rfl)
    (hline : (apos.endLine == cpos.line) = true := by rfl) (hs : starEach (e :: es) X.env = (false, eval e X.env) :: starEach es X.env := by rfl) (hplain : (backTo cpos (starEach es X.env)).any (·.1) = false := by rfl) :
    PE X (.Call (.Attribute o "insert" apos) (e :: es) [] cpos) (T g E (mlM insF mo ma)) :=
  PEw (pe_bm PySem.F.plainAttrs_list PySem.F.slot_list_insert PySem.F.type_list_insert mt_insert ho ha hbase hfew hline hs hplain) (by rw [hK]; exact T_ml m_ins)
theorem r_ext (hK : X.K = g.K) (ho : PE X o (T g E mo)) (ha : PA X (e :: es) (TA' g E ma)) (hbase : attributeBase o "extend" X.env (eval o X.env) = eval o X.env := by rfl)
    (hfew : ((backTo cpos (starEach (e :: es) X.env)).all (fun x => !x.1) && (backToKw cpos (keywordEach [] X.env)).all (fun x => x.1.isSome)
      && decide ((e :: es).length + ([] : List Keyword).length + (if ([] : List Keyword).isEmpty then 0 else 1) < 30)) = true := by rfl)
    (hline : (apos.endLine == cpos.line) = true := by rfl) (hs : starEach (e :: es) X.env = (false, eval e X.env) :: starEach es X.env := by rfl) (hplain : (backTo cpos (starEach es X.env)).any (·.1) = false := by rfl) :
    PE X (.Call (.Attribute o "extend" apos) (e :: es) [] cpos) (T g E (mlM extF mo ma)) :=
  PEw (pe_bm PySem.F.plainAttrs_list PySem.F.slot_list_extend PySem.F.type_list_extend mt_extend ho ha hbase hfew hline hs hplain) (by rw [hK]; exact T_ml m_ext)
end
/-! ### tuple(range(..)), list(range(..)) -/
def rgOk2 (i j : Int) : Bool := opq (RgOk i j)
theorem rgOk_of {i j : Int} (h : rgOk2 i j = true) : RgOk i j := by
  exact opq_iff.mp h
theorem rps_rg {ρ H} (i : Int) (n : Nat) : Rps g ρ H (intsW i n) ((List.range n).map fun k => V.int (i + (k : Nat))) := by
  unfold intsW
  have : ∀ l : List Nat, Rps g ρ H (l.map fun k => W.int (i + (k : Nat))) (l.map fun k => V.int (i + (k : Nat))) := by
    intro l
    induction l with
    | nil => rfl
    | cons a l ih => exact ⟨_, _, rfl, rfl, ih⟩
  exact this _
@[simp] def rgAM (ma : AM) (f : Int → Int → Store → Res W) : EM := fun ls st => (ma ls st).bind fun ws st1 => match ws with
  | [.int j] => if rgOk2 0 j = true then f 0 j st1 else .fail
  | [.int i, .int j] => if rgOk2 i j = true then f i j st1 else .fail
  | _ => .fail
@[simp] def tupRgM (ma : AM) : EM := rgAM ma fun i j st => .ok (.tup (intsW i (j - i).toNat)) st
@[simp] def lstRgM (c : Bool) (ma : AM) : EM := rgAM ma fun i j st => newL c (intsW i (j - i).toNat) st
theorem sz_rg {i j : Int} (h : rgOk2 i j = true) : (intsW i (j - i).toNat).length ≤ sizeLine := by
  have := (opq_iff.mp h).2.2.2.2
  rw [intsW_len, sizeLine_eq]
  omega
section
variable {a b : Expr} {ma mb : EM} {p p2 pos pos2 : Pos}
theorem r_tupRg1 (hc : X.calm = true) (hg : Gl X "tuple") (hm : X.mg "tuple" = none) (hg' : Gl X "range") (hm' : X.mg "range" = none) (ha : PE X a (T g E ma)) (na : starEach [a] X.env = (false, eval a X.env) :: starEach [] X.env := by rfl)
    (n2 : starEach [Expr.Call (.Name "range" p2) [a] [] pos2] X.env = (false, eval (.Call (.Name "range" p2) [a] [] pos2) X.env) :: starEach [] X.env := by rfl) :
    PE X (.Call (.Name "tuple" p) [.Call (.Name "range" p2) [a] [] pos2] [] pos) (T g E (tupRgM (aC ma aN))) := PEw (pe_tupRg hc hg hm (prg_1 hg' hm' ha na) n2) fun σ H Q ⟨ρ, ls, st, rl, rs, h⟩ => by
  unfold tupRgM rgAM at h
  simp only [aC, aN, bind_bind] at h
  refine tg_go (R2 := RW g) rl rs h fun v H1 ρ1 st1 w n1 rl1 rs1 r1 h1 => ?_
  simp only [Res.bind_ok] at h1
  split at h1
  · rename_i j e
    injection e with e1 e2
    rw [e1] at r1
    obtain ⟨ok, h1⟩ := wpp_if h1
    exact ⟨j, r1, rgOk_of ok, fun q hq => new_tup rs1 (rps_rg 0 _) (sz_rg ok) hq h1⟩
  · rename_i e; cases e
  · exact h1.elim
theorem r_tupRg2 (hc : X.calm = true) (hg : Gl X "tuple") (hm : X.mg "tuple" = none) (hg' : Gl X "range") (hm' : X.mg "range" = none) (ha : PE X a (T g E ma)) (hb : PE X b (T g E mb)) (na : starEach [a, b] X.env = (false, eval a X.env) :: starEach [b] X.env := by rfl)
    (nb : starEach [b] X.env = (false, eval b X.env) :: starEach [] X.env := by rfl) (hp : (backTo pos2 (starEach [b] X.env)).any (·.1) = false := by rfl)
    (n2 : starEach [Expr.Call (.Name "range" p2) [a, b] [] pos2] X.env = (false, eval (.Call (.Name "range" p2) [a, b] [] pos2) X.env) :: starEach [] X.env := by rfl) :
    PE X (.Call (.Name "tuple" p) [.Call (.Name "range" p2) [a, b] [] pos2] [] pos) (T g E (tupRgM (aC ma (aC mb aN)))) := PEw (pe_tupRg hc hg hm (prg_2 hg' hm' ha hb na nb hp) n2) fun σ H Q ⟨ρ, ls, st, rl, rs, h⟩ => by
  unfold tupRgM rgAM at h
  simp only [aC, aN, bind_bind] at h
  refine tg_go (R2 := RW g) rl rs h fun v H1 ρ1 st1 w n1 rl1 rs1 r1 h1 => ?_
  refine tg_go (R2 := RW g) rl1 rs1 h1 fun v2 H2 ρ2 st2 w2 n2 rl2 rs2 r2 h2 => ?_
  simp only [Res.bind_ok] at h2
  split at h2
  · rename_i e; cases e
  · rename_i i j e
    injection e with e1 e2
    injection e2 with e2 e3
    rw [e1] at r1
    rw [e2] at r2
    obtain ⟨ok, h2⟩ := wpp_if h2
    exact ⟨i, j, Rp.mono n2 _ _ r1, r2, rgOk_of ok, fun q hq => new_tup rs2 (rps_rg i _) (sz_rg ok) hq h2⟩
  · exact h2.elim
end
end
/-! ### calls of defs, packed -/
structure Cal (P : Program) (w : World) (K : PySem.W.Frag) (mg : Str → Option Value) (base : Heap) (cl : Str → Addr) (x : Str) (ps : List Str) (k : Nat) (F : FM) : Prop where
  ex : ∃ f fd, FnOk P w K mg base CX0 k f fd ps (spV K cl ps.length (nxF F)) ∧ mg x = some (.ref f) ∧ PySem.W.keepIn K (.ref f) = true ∧ Binds K fd ps []
  hn : ∀ ws st, ws.length ≠ ps.length → F ws st = .fail
theorem r_cal {X : Cx} {cl : Str → Addr} {z : List Addr} {E : XK} {k : Nat} {ps : List Str} {x : Str} {p pos : Pos} {e : Expr} {es : List Expr} {F : FM} {ma : AM} (C : Cal X.prog X.w X.K X.mg X.base cl x ps k F) (hr : Room k X.A) (hg : Gl X x)
    (ha : PA X (e :: es) (TA' ⟨X.K, cl, z⟩ E ma)) (hdb : (x == ("__debug__" : Str)) = false := by decide) (he : starEach (e :: es) X.env = (false, eval e X.env) :: starEach es X.env := by rfl) (hpl : (backTo pos (starEach es X.env)).any (·.1) = false := by rfl) :
    PE X (.Call (.Name x p) (e :: es) [] pos) (T ⟨X.K, cl, z⟩ E (bM (nxF F) ma)) := by
  obtain ⟨f, fd, Fk, hm, hk, hb⟩ := C.ex
  exact r_call Fk hr hg hm hk hb C.hn ha hdb he hpl
section
variable {P : Program} {w : World} {K : PySem.W.Frag} {mg : Str → Option Value} {base : Heap} {cl : Str → Addr}
theorem Cal.mono {x ps F} {j k : Nat} (C : Cal P w K mg base cl x ps j F) (h : j ≤ k) : Cal P w K mg base cl x ps k F := by
  obtain ⟨⟨f, fd, Fk, r⟩, hn⟩ := C
  exact ⟨⟨f, fd, Fk.mono h, r⟩, hn⟩
/-- what a name of the module is bound to -/
structure Dfn (K : PySem.W.Frag) (mg : Str → Option Value) (x : Str) (sd : Stmt) (ps : List Str) : Prop where
  ex : ∃ f fd, Fun K x x sd f fd ∧ mg x = some (.ref f) ∧ Binds K fd ps []
theorem cal_pure {x : Str} {sd : Stmt} {N ps : List Str} {k : Nat} (D : Dfn K mg x sd ps) (S : FnScope N ps (defScope sd)) (body : SM)
    (hb : ∀ (f : Addr) (z : List Addr) (cdv : Value) (A : Around) (outer : List Env) (s : Shared) (H : Hp) (E : XK), Room k (A.deeper (PyProof.Rows.envOfC x (defScope sd) s.heap.objs.size f cdv)) → PSs (cxOf CX0 P w K mg base N x (defScope sd) f cdv A outer s H E).nox (defBody sd) (TSm ⟨K, cl, z⟩ E00 body)) :
    Cal P w K mg base cl x ps (k + 1) (funM ps.length N.length body) := by
  obtain ⟨f, fd, F, hm, bi⟩ := D.ex
  exact ⟨⟨f, fd, fn_pure F S body (hb f), hm, F.kp, bi⟩, funM_len⟩
theorem cal_keep {x : Str} {sd : Stmt} {N ps : List Str} {k : Nat} (D : Dfn K mg x sd ps) (S : FnScope N ps (defScope sd)) (body : SM)
    (hb : ∀ (f : Addr) (z : List Addr) (cdv : Value) (A : Around) (outer : List Env) (s : Shared) (H : Hp) (E : XK), Room k (A.deeper (PyProof.Rows.envOfC x (defScope sd) s.heap.objs.size f cdv)) → PSs (cxOf CX0 P w K mg base N x (defScope sd) f cdv A outer s H E).nox (defBody sd) (TSm ⟨K, cl, z⟩ E00 body)) :
    Cal P w K mg base cl x ps (k + 1) (funK ps.length N.length body) := by
  obtain ⟨f, fd, F, hm, bi⟩ := D.ex
  exact ⟨⟨f, fd, fn_keep F S body (hb f), hm, F.kp, bi⟩, funK_len⟩
def zeroF : FM := fun _ _ => .fail
theorem cal_zero {x : Str} {sd : Stmt} {N ps : List Str} {k : Nat} (D : Dfn K mg x sd ps) (S : FnScope N ps (defScope sd)) : Cal P w K mg base cl x ps (k + 1) zeroF := by
  obtain ⟨f, fd, F, hm, bi⟩ := D.ex
  refine ⟨⟨f, fd, F.ok S (fun vs H Q E h => h.1) fun cdv A outer s H vs Q E hr h => ?_, hm, F.kp, bi⟩, fun _ _ _ => rfl⟩
  obtain ⟨_, z, ρ, st, ws, r, rs, h⟩ := h
  exact h.elim
end
end
end VM

set_option Elab.async false
set_option linter.all false
set_option maxRecDepth 100000
namespace VM
noncomputable section
open PySem L2
/-! ### reckoning with computations -/
section
variable {st : Store} {ls r : L} {w x : W} {i j : Int} {k : Nat}
theorem szB_of {n : Nat} (h : n ≤ 1000000) : szB n = true := szB_iff.mpr (by rw [sizeLine_eq]; omega)
@[simp] theorem szB0 : szB 0 = true := szB_of (by omega)
@[simp] theorem szB1 : szB 1 = true := szB_of (by omega)
@[simp] theorem szB2 : szB 2 = true := szB_of (by omega)
@[simp] theorem szB3 : szB 3 = true := szB_of (by omega)
@[simp] theorem szB4 : szB 4 = true := szB_of (by omega)
@[simp] theorem szB5 : szB 5 = true := szB_of (by omega)
@[simp] theorem szB6 : szB 6 = true := szB_of (by omega)
@[simp] theorem szB7 : szB 7 = true := szB_of (by omega)
@[simp] theorem szB8 : szB 8 = true := szB_of (by omega)
@[simp] theorem vM0 {w : W} {r : L} {st : Store} : vM 0 (some w :: r) st = .ok w st := rfl
@[simp] theorem vMs {x : Option W} {r : L} {st : Store} {k : Nat} : vM (k + 1) (x :: r) st = vM k r st := rfl
@[simp] theorem asV_int : asV st (.int i) = .int i := rfl
@[simp] theorem asV_bl {b : Bool} : asV st (.bl b) = .bl b := rfl
@[simp] theorem asV_str {s : Str} : asV st (.str s) = .str s := rfl
@[simp] theorem asV_non : asV st .non = .non := rfl
@[simp] theorem asV_tup {xs : List W} : asV st (.tup xs) = .tup xs := rfl
@[simp] theorem asV_lst {xs : List W} : asV st (.lst xs) = .lst xs := rfl
theorem dataLt_int (i j : Int) : PySem.W.dataLt (.int i) (.int j) = decide (i < j) := by
  have h := PySem.W.dataLe_int (β := Int) id
  have h2 := congrFun (congrFun h j) i
  rw [PySem.W.dataLe_eq] at h2
  simp only [cond_false, id] at h2
  rw [← PySem.W.not_lt_int] at h2
  exact Bool.not_inj h2
@[simp] theorem okD_int : okD (.int i) = true := rfl
@[simp] theorem okD_bl {b : Bool} : okD (.bl b) = true := rfl
@[simp] theorem okD_str {s : Str} : okD (.str s) = true := rfl
@[simp] theorem okD_non : okD .non = true := rfl
@[simp] theorem okC_int : okC (.int i) (.int j) = true := rfl
@[simp] theorem ltW_int : ltW (.int i) (.int j) = decide (i < j) := dataLt_int i j
@[simp] theorem eqW_int : eqW (.int i) (.int j) = decide (i = j) := by
  show (i == j) = _
  by_cases h : i = j <;> simp [h]
@[simp] theorem eqM_ii : eqM (.int i) (.int j) st = .ok (.bl (decide (i = j))) st := by simp [eqM]
@[simp] theorem neM_ii : neM (.int i) (.int j) st = .ok (.bl (!decide (i = j))) st := by simp [neM]
@[simp] theorem ltM_ii : ltM (.int i) (.int j) st = .ok (.bl (decide (i < j))) st := by simp [ltM]
@[simp] theorem gtM_ii : gtM (.int i) (.int j) st = .ok (.bl (decide (j < i))) st := by simp [gtM]
@[simp] theorem leM_ii : leM (.int i) (.int j) st = .ok (.bl (!decide (j < i))) st := by simp [leM]
@[simp] theorem geM_ii : geM (.int i) (.int j) st = .ok (.bl (!decide (i < j))) st := by simp [geM]
@[simp] theorem addW_ii {c : Bool} : addW c (.int i) (.int j) st = .ok (.int (i + j)) st := rfl
@[simp] theorem subW_ii : subW (.int i) (.int j) st = .ok (.int (i - j)) st := rfl
@[simp] theorem mulA_ii {c : Bool} : mulA c (.int i) (.int j) st = if mulOk i j = true then .ok (.int (i * j)) st else .fail := rfl
@[simp] theorem modW_ii : modW (.int i) (.int j) st = if 0 < j then .ok (.int (i % j)) st else .fail := rfl
@[simp] theorem divW_ii : divW (.int i) (.int j) st = if opq (0 < j ∧ j.natAbs.log2 < 9000) = true then .ok (.int (i / j)) st else .fail := rfl
@[simp] theorem powW_ii : powW (.int i) (.int j) st = if powOk i j = true then .ok (.int (i ^ j.toNat)) st else .fail := rfl
@[simp] theorem shlW_ii : shlW (.int i) (.int j) st = if powOk i j = true then .ok (.int (i * 2 ^ j.toNat)) st else .fail := rfl
/-! asQ, asL -/
@[simp] theorem asQ_tup {xs : List W} : asQ st (.tup xs) = some xs := rfl
@[simp] theorem asQ_kt {xs : List W} : asQ st (.kt xs) = some xs := rfl
@[simp] theorem asQ_lst {xs : List W} : asQ st (.lst xs) = some xs := rfl
@[simp] theorem asQ_int : asQ st (.int i) = none := rfl
@[simp] theorem asL_lst {xs : List W} : asL st (.lst xs) = some xs := rfl
theorem asL_ref {n : Nat} {xs : List W} (h : st[n]? = some (.lst xs)) : asL st (.ref n) = some xs := by unfold asL; simp [h]
theorem asQ_ref {n : Nat} {xs : List W} (h : st[n]? = some (.lst xs)) : asQ st (.ref n) = some xs := by unfold asQ asT; exact asL_ref h
theorem ixW_q {a : W} {xs : List W} {i : Int} {w : W} (h : asQ st a = some xs) (e : atI xs i = some w) : ixW a (.int i) st = .ok w st := by unfold ixW; simp [h, e]
theorem atI_nat {xs : List W} {k : Nat} {w : W} (h : xs[k]? = some w) : atI xs (k : Int) = some w := by
  have hl : k < xs.length := (List.getElem?_eq_some_iff.mp h).1
  unfold atI ixN
  simp only [show (0 : Int) ≤ k from Int.natCast_nonneg k, show (k : Int) < xs.length by omega]
  simp [h]
  try omega

@[simp] theorem ix_cell {t : Nat} {xs : List W} {k : Nat} {w : W} (h : st[t]? = some (.lst xs)) (e : xs[k]? = some w) : ixW (.ref t) (.int k) st = .ok w st := ixW_q (asQ_ref h) (atI_nat e)
theorem ix_tup {xs : List W} {k : Nat} {w : W} (e : xs[k]? = some w) : ixW (.tup xs) (.int k) st = .ok w st := ixW_q rfl (atI_nat e)
theorem ix_lst {xs : List W} {k : Nat} {w : W} (e : xs[k]? = some w) : ixW (.lst xs) (.int k) st = .ok w st := ixW_q rfl (atI_nat e)
@[simp] theorem len_tup {xs : List W} : lenF [.tup xs] st = .ok (.int xs.length) st := rfl
@[simp] theorem len_lst {xs : List W} : lenF [.lst xs] st = .ok (.int xs.length) st := rfl
theorem len_ref {n : Nat} {xs : List W} (h : st[n]? = some (.lst xs)) : lenF [.ref n] st = .ok (.int xs.length) st := by
  unfold lenF lenN; simp [asQ_ref h]
end
/-! ### statements, step by step -/
section
variable {ls ls1 ls2 : L} {st st1 st2 st3 : Store} {a b : SM} {m m2 m3 : EM} {c : L → Store → Res Bool} {r : SRes} {w w2 w3 : W} {i : Nat}
theorem seq_nx (h : a ls st = .nx ls1 st1) (h2 : b ls1 st1 = r) : seqM a b ls st = r := by simp [seqM, h, h2]
theorem seq_rt (h : a ls st = .rt w st1) : seqM a b ls st = .rt w st1 := by simp [seqM, h]
theorem set_ok (h : m ls st = .ok w st1) : setM i m ls st = .nx (ls.set i (some w)) st1 := by simp [setM, h]
theorem ret_ok (h : m ls st = .ok w st1) : retM m ls st = .rt w st1 := by simp [retM, h]
theorem expr_ok (h : m ls st = .ok w st1) : exprM m ls st = .nx ls st1 := by simp [exprM, h]
theorem if_t (h : c ls st = .ok true st1) (h2 : a ls st1 = r) : ifS c a b ls st = r := by simp [ifS, h, h2]
theorem if_f (h : c ls st = .ok false st1) (h2 : b ls st1 = r) : ifS c a b ls st = r := by simp [ifS, h, h2]
theorem if_b {k : Bool} (h : c ls st = .ok k st1) (ht : k = true → a ls st1 = r) (hf : k = false → b ls st1 = r) : ifS c a b ls st = r := by
  cases k
  · exact if_f h (hf rfl)
  · exact if_t h (ht rfl)
theorem asg_ok {tg : Tgt} (h : m ls st = .ok w st1) (hb : bindT st1 tg w ls = some ls1) : asgM tg m ls st = .nx ls1 st1 := by simp [asgM, h, hb]
theorem put_ok (h1 : m3 ls st = .ok w3 st1) (h2 : m ls st1 = .ok w st2) (h3 : m2 ls st2 = .ok w2 st3) {st4} (h4 : setW w w2 w3 st3 = .ok () st4) : putM m m2 m3 ls st = .nx ls st4 := by simp [putM, h1, h2, h3, h4]
theorem par_ok {ma : AM} {i j : Nat} (h : ma ls st = .ok [w, w2] st1) : parM i j ma ls st = .nx ((ls.set i (some w)).set j (some w2)) st1 := by simp [parM, h]
end
/-! ### leaving -/
section
variable {st st' t : Store} {w w' : W} {n np : Nat} {body : SM} {ws xs : List W}
@[simp] theorem lowW_tup : lowW n (.tup xs) = lows n xs := rfl
@[simp] theorem lowW_lst : lowW n (.lst xs) = lows n xs := rfl
@[simp] theorem lowW_int {i : Int} : lowW n (.int i) = true := rfl
@[simp] theorem lowW_bl {i : Bool} : lowW n (.bl i) = true := rfl
@[simp] theorem lowW_str {i : Str} : lowW n (.str i) = true := rfl
@[simp] theorem lowW_non : lowW n .non = true := rfl
@[simp] theorem lowW_scr {ns : List Int} : lowW n (.scr ns) = true := rfl
@[simp] theorem lows_nil : lows n [] = true := rfl
@[simp] theorem lows_cons {w : W} {ws : List W} : lows n (w :: ws) = (lowW n w && lows n ws) := rfl
@[simp] theorem lowC_lst : lowC n (.lst xs) = lows n xs := rfl
@[simp] theorem lowC_dT {kvs} : lowC n (.dT kvs) = lowT n kvs := rfl
@[simp] theorem lowC_dK {kvs} : lowC n (.dK kvs) = lowK n kvs := rfl
theorem lows_all : ∀ {xs : List W}, (∀ x ∈ xs, lowW n x = true) → lows n xs = true
  | [], _ => rfl
  | x :: xs, h => by rw [lows_cons, h x (by simp), lows_all fun y hy => h y (by simp [hy])]; rfl
theorem lows_map {α : Type} {f : α → W} {l : List α} (h : ∀ x ∈ l, lowW n (f x) = true) : lows n (l.map f) = true := lows_all fun x hx => by
  obtain ⟨a, ha, rfl⟩ := List.mem_map.mp hx
  exact h a ha
@[simp] theorem lows_int {l : List Int} : lows n (l.map .int) = true := lows_map fun _ _ => rfl
theorem fin_rt (ho : outOk st.length st st' = true) (hw : frzW (frzR st' st.length 3) w = some w') : finF st (.rt w st') = .ok w' (st'.take st.length) := by
  simp only [finF, ho, hw, if_true]
theorem fun_rt (hl : ws.length = np) (hb : body (startL n ws) st = .rt w st') (ho : outOk st.length st st' = true) (hw : frzW (frzR st' st.length 3) w = some w') : funM np n body ws st = .ok w' (st'.take st.length) := by
  unfold funM
  rw [if_pos hl, hb]
  exact fin_rt ho hw
theorem fun_ok (hl : ws.length = np) (hb : body (startL n ws) st = .rt w (st ++ t)) (hw : lowW 0 w = true) : funM np n body ws st = .ok w st := by
  rw [fun_rt hl hb (outOk_app _ _ _) (frz_low w hw)]; simp
theorem fun_ok0 (hl : ws.length = np) (hb : body (startL n ws) st = .rt w st) (hw : lowW 0 w = true) : funM np n body ws st = .ok w st := fun_ok (t := []) hl (by simpa using hb) hw
theorem frz_cell (hx : lows 0 xs = true) (h : st'[np]? = some (.lst xs)) (hn : ¬ np < n) : frzW (frzR st' n 3) (.ref np) = some (.lst xs) := by
  simp only [frzW, frzR, if_neg hn, h, frzs_low xs hx]
theorem fun_cell (hl : ws.length = np) (hb : body (startL n ws) st = .rt (.ref st.length) (st ++ .lst xs :: t)) (hx : lows 0 xs = true) : funM np n body ws st = .ok (.lst xs) st := by
  rw [fun_rt hl hb (outOk_app _ _ _) (frz_cell hx (by simp) (by simp))]; simp
theorem fun_set {c : Cell} {k : Nat} (hl : ws.length = np) (hb : body (startL n ws) st = .rt w (st.set k c ++ t)) (hc : lowC st.length c = true) (hw : lowW 0 w = true) : funM np n body ws st = .ok w (st.set k c) := by
  rw [fun_rt hl hb (outOk_set _ hc _ _ _) (frz_low w hw)]
  have : st.length = (st.set k c).length := by simp
  rw [this, List.take_left]
theorem nxF_ok {f : FM} {ws : List W} {w : W} {st st' : Store} (h : f ws st = .ok w st') : nxF f ws st = .ok w st' := by unfold nxF; rw [h]; rfl
theorem fun_len {np n : Nat} {body : SM} {ws : List W} {st : Store} {r : Res W} (h : finF st (body (startL n ws) st) = r) (hl : ws.length = np) : funM np n body ws st = r := by unfold funM; rw [if_pos hl]; exact h
end
/-! ### cells -/
section
variable {st t : Store} {c d : Cell} {xs : List W} {x : W}
@[simp] theorem cell_new : (st ++ c :: t)[st.length]? = some c := by simp
@[simp] theorem set_new : (st ++ c :: t).set st.length d = st ++ d :: t := by simp
@[simp] theorem set_set {n : Nat} : (st.set n c).set n d = st.set n d := List.set_set ..
theorem app_ok {n : Nat} (h : st[n]? = some (.lst xs)) (hl : xs.length < sizeLine) : appF (.ref n) [x] st = .ok .non (st.set n (.lst (xs ++ [x]))) := by
  have : szB (xs.length + 1) = true := szB_iff.mpr hl
  unfold appF cellL; simp [h, this]
theorem asL_isSome {n : Nat} (h : st[n]? = some (.lst xs)) : (asL st (.ref n)).isSome = true := by rw [asL_ref h]; rfl
theorem ml_ok {f : MM} {mo : EM} {ma : AM} {ls : L} {st1 st2 : Store} {w : W} {ws : List W} {r : Res W} (h : mo ls st = .ok w st1) (h2 : (asL st1 w).isSome = true) (h3 : ma ls st1 = .ok ws st2) (h4 : f w ws st2 = r) : mlM f mo ma ls st = r := by
  simp [mlM, h, h2, h3, h4]
theorem put_lst {n : Nat} {j : Nat} {v : W} (h : st[n]? = some (.lst xs)) (hj : j < xs.length) : setW (.ref n) (.int j) v st = .ok () (st.set n (.lst (xs.set j v))) := by
  unfold setW
  simp only [h]
  have : ixN xs.length (j : Int) = some j := by
    unfold ixN
    simp [hj]
  simp [this]
end
/-! ### comprehensions, loops -/
section
variable {tg : Tgt} {gd : Option (Nat × List W)} {tt : L → Store → Res Bool} {te : EM} {ls : L} {st : Store}
theorem lc_pure (hg : gdB gd st = true) (p : W → Bool) (f : W → W) : ∀ ws : List W, (∀ w ∈ ws, ∃ ls1, bindT st tg w ls = some ls1 ∧ tt ls1 st = .ok (p w) st ∧ (p w = true → te ls1 st = .ok (f w) st)) → lcGo tg gd tt te ls ws st = .ok ((ws.filter p).map f) st
  | [], _ => by simp [lcGo, hg]
  | w :: ws, h => by
    obtain ⟨ls1, h1, h2, h3⟩ := h w (by simp)
    have ih := lc_pure hg p f ws fun y hy => h y (by simp [hy])
    simp only [lcGo, hg, if_true, h1, h2, Res.nx_ok, Res.bind_ok]
    cases hp : p w with
    | true => simp [h3 hp, ih, hp]
    | false => simp [ih, hp]
/-- a loop with an invariant that says how it stands before the k-th; b's end is told -/
theorem for_inv {b : SM} (I : Nat → L → Store → Prop) (P : SRes → Prop) : ∀ (ws : List W) (k : Nat) (ls : L) (st : Store), I k ls st →
    (∀ j ls st, I j ls st → gdB gd st = true) →
    (∀ j ls st w, I j ls st → ws[j - k]? = some w → k ≤ j → ∃ ls1, bindT st tg w ls = some ls1 ∧ ((∃ ls2 st2, (b ls1 st = .nx ls2 st2 ∨ b ls1 st = .ct ls2 st2) ∧ I (j + 1) ls2 st2) ∨ (∃ v st2, b ls1 st = .rt v st2 ∧ P (.rt v st2)) ∨ ∃ ls2 st2, b ls1 st = .bk ls2 st2 ∧ P (.nx ls2 st2))) →
    (∀ ls st, I (k + ws.length) ls st → P (.nx ls st)) → P (forGo tg gd b ws ls st)
  | [], k, ls, st, h, hg, _, he => by
    simp only [forGo, hg k ls st h, if_true]
    exact he ls st (by simpa using h)
  | w :: ws, k, ls, st, h, hg, hs, he => by
    obtain ⟨ls1, h1, h2⟩ := hs k ls st w h (by simp) (Nat.le_refl _)
    simp only [forGo, hg k ls st h, if_true, h1]
    rcases h2 with ⟨ls2, st2, hb, h3⟩ | ⟨v, st2, hb, h3⟩ | ⟨ls2, st2, hb, h3⟩
    · have ih := for_inv I P ws (k + 1) ls2 st2 h3 hg (fun j ls st w' hI hw hk => hs j ls st w' hI (by
        rw [show j - k = (j - (k + 1)) + 1 by omega]; simpa using hw) (by omega)) (fun ls st hI => he ls st (by rw [List.length_cons, show k + (ws.length + 1) = k + 1 + ws.length by omega]; exact hI))
      rcases hb with hb | hb <;> rw [hb] <;> exact ih
    · rw [hb]; exact h3
    · rw [hb]; exact h3
end
section
variable {ls ls1 : L} {st st1 : Store} {a b : SM} {c : L → Store → Res Bool} {r : SRes} {w : W}
/-- it goes on, so -/
def NxP (r : SRes) (P : L → Store → Prop) : Prop := ∃ ls st, r = .nx ls st ∧ P ls st
theorem seq_ex {P : L → Store → Prop} (h : NxP (a ls st) P) (h2 : ∀ ls1 st1, P ls1 st1 → b ls1 st1 = r) : seqM a b ls st = r := by
  obtain ⟨ls1, st1, e, p⟩ := h
  exact seq_nx e (h2 ls1 st1 p)
theorem seq_exP {P : L → Store → Prop} {R : SRes → Prop} (h : NxP (a ls st) P) (h2 : ∀ ls1 st1, P ls1 st1 → R (b ls1 st1)) : R (seqM a b ls st) := by
  obtain ⟨ls1, st1, e, p⟩ := h
  rw [seq_nx e rfl]; exact h2 ls1 st1 p
theorem nx_seq {P Q : L → Store → Prop} (h : NxP (a ls st) P) (h2 : ∀ ls1 st1, P ls1 st1 → NxP (b ls1 st1) Q) : NxP (seqM a b ls st) Q := seq_exP (R := fun r => NxP r Q) h h2
theorem nx_of {P : L → Store → Prop} (h : r = .nx ls st) (p : P ls st) : NxP r P := ⟨ls, st, h, p⟩
/-- a loop without an end ahead of its time -/
theorem for_nx {tg : Tgt} {src : SM'} {ws : List W} {gd : Option (Nat × List W)} (hs : src ls st = .ok ⟨ws, gd⟩ st1) (I : Nat → L → Store → Prop) (h0 : I 0 ls st1) (hg : ∀ j ls st, I j ls st → gdB gd st = true)
    (h : ∀ j ls st w, I j ls st → ws[j]? = some w → ∃ ls1, bindT st tg w ls = some ls1 ∧ NxP (b ls1 st) (I (j + 1))) : NxP (forM tg src b ls st) (I ws.length) := by
  unfold forM
  rw [hs]
  simp only [sb]
  refine for_inv I (fun r => NxP r (I ws.length)) ws 0 ls st1 h0 hg (fun j ls st w hI hw _ => ?_) fun ls st hI => ⟨ls, st, rfl, by simpa using hI⟩
  obtain ⟨ls1, h1, ls2, st2, h2, h3⟩ := h j ls st w hI (by simpa using hw)
  exact ⟨ls1, h1, .inl ⟨ls2, st2, .inl h2, h3⟩⟩
/-- .. with one: then R -/
theorem for_P {tg : Tgt} {src : SM'} {ws : List W} {gd : Option (Nat × List W)} (hs : src ls st = .ok ⟨ws, gd⟩ st1) (R : SRes → Prop) (I : Nat → L → Store → Prop) (h0 : I 0 ls st1) (hg : ∀ j ls st, I j ls st → gdB gd st = true)
    (h : ∀ j ls st w, I j ls st → ws[j]? = some w → ∃ ls1, bindT st tg w ls = some ls1 ∧ (NxP (b ls1 st) (I (j + 1)) ∨ ∃ v st2, b ls1 st = .rt v st2 ∧ R (.rt v st2))) (he : ∀ ls st, I ws.length ls st → R (.nx ls st)) : R (forM tg src b ls st) := by
  unfold forM
  rw [hs]
  simp only [sb]
  refine for_inv I R ws 0 ls st1 h0 hg (fun j ls st w hI hw _ => ?_) fun ls st hI => he ls st (by simpa using hI)
  obtain ⟨ls1, h1, ⟨ls2, st2, h2, h3⟩ | h2⟩ := h j ls st w hI (by simpa using hw)
  · exact ⟨ls1, h1, .inl ⟨ls2, st2, .inl h2, h3⟩⟩
  · exact ⟨ls1, h1, .inr (.inl h2)⟩
theorem while_nx (I : Nat → L → Store → Prop) (P : L → Store → Prop) (h : ∀ m ls st, I m ls st → (c ls st = .ok false st ∧ P ls st) ∨ (c ls st = .ok true st ∧ NxP (b ls st) fun ls2 st2 => ∃ m', m' < m ∧ I m' ls2 st2)) :
    ∀ (N m : Nat) (ls : L) (st : Store), I m ls st → m < N → NxP (whileN c b N ls st) P
  | 0, m, _, _, _, hm => absurd hm (Nat.not_lt_zero m)
  | N + 1, m, ls, st, hI, hm => by
    rcases h m ls st hI with ⟨h1, h2⟩ | ⟨h1, ls2, st2, h2, m', hm', hI'⟩
    · exact ⟨ls, st, by simp [whileN, h1], h2⟩
    · have ih := while_nx I P h N m' ls2 st2 hI' (by omega)
      unfold whileN
      simp only [h1, sb, if_true, h2]
      exact ih
end
/-! ### dicts -/
section
variable {κ α : Type} [DecidableEq κ]
theorem valW_nil (k : κ) : valW ([] : List (κ × α)) k = none := rfl
theorem valW_cons (p : κ × α) (r : List (κ × α)) (k : κ) : valW (p :: r) k = if p.1 = k then some p.2 else valW r k := by
  unfold valW
  rw [List.find?_cons]
  by_cases h : p.1 = k <;> simp [h]
theorem valW_append (r s : List (κ × α)) (k : κ) : valW (r ++ s) k = (valW r k).or (valW s k) := by
  induction r with
  | nil => simp [valW_nil]
  | cons p r ih =>
    rw [List.cons_append, valW_cons, valW_cons, ih]
    by_cases h : p.1 = k <;> simp [h]
theorem valW_none {r : List (κ × α)} {k : κ} : valW r k = none ↔ k ∉ r.map (·.1) := by
  induction r with
  | nil => simp [valW_nil]
  | cons p r ih =>
    rw [valW_cons]
    by_cases h : p.1 = k
    · simp [h]
    · simp only [if_neg h, ih, List.map_cons, List.mem_cons, not_or]
      exact ⟨fun q => ⟨fun e => h e.symm, q⟩, fun q => q.2⟩
theorem valW_repl (r : List (κ × α)) (k k' : κ) (v : α) : valW (r.map fun kv => if kv.1 = k then (kv.1, v) else kv) k' = if k = k' then (valW r k').map (fun _ => v) else valW r k' := by
  induction r with
  | nil => simp [valW_nil]
  | cons p r ih =>
    rw [List.map_cons, valW_cons, valW_cons, ih]
    by_cases h : p.1 = k
    · simp only [if_pos h]
      by_cases h2 : k = k'
      · simp [h, h2]
      · simp [h, h2]
    · simp only [if_neg h]
      by_cases h2 : k = k'
      · subst h2; simp [h]
      · simp [h2]
theorem valW_put (r : List (κ × α)) (k k' : κ) (v : α) : valW (putW r k v) k' = if k = k' then some v else valW r k' := by
  unfold putW
  split
  · rename_i h
    rw [valW_repl]
    by_cases h2 : k = k'
    · subst h2
      simp only [if_true]
      obtain ⟨p, hp, e⟩ := List.any_eq_true.mp h
      have : valW r k ≠ none := fun q => by
        rw [valW_none] at q
        exact q (List.mem_map.mpr ⟨p, hp, by simpa using e⟩)
      cases q : valW r k with
      | none => exact absurd q this
      | some _ => rfl
    · simp [h2]
  · rename_i h
    rw [valW_append, valW_cons, valW_nil]
    by_cases h2 : k = k'
    · subst h2
      have : valW r k = none := by
        rw [valW_none]
        intro q
        obtain ⟨p, hp, e⟩ := List.mem_map.mp q
        exact h (List.any_eq_true.mpr ⟨p, hp, by simpa using e⟩)
      simp [this]
    · simp [h2]
theorem keys_put (r : List (κ × α)) (k : κ) (v : α) : (putW r k v).map (·.1) = if k ∈ r.map (·.1) then r.map (·.1) else r.map (·.1) ++ [k] := by
  unfold putW
  have e : (r.any fun kv => decide (kv.1 = k)) = decide (k ∈ r.map (·.1)) := by
    rw [Bool.eq_iff_iff]
    simp only [List.any_eq_true, decide_eq_true_eq, List.mem_map]
  rw [e]
  by_cases h : k ∈ r.map (·.1)
  · simp only [h, decide_true, if_true, List.map_map]
    apply List.map_congr_left
    intro p _
    simp only [Function.comp]
    split <;> rfl
  · simp [h]
theorem nodup_put {r : List (κ × α)} {k : κ} {v : α} (h : (r.map (·.1)).Nodup) : ((putW r k v).map (·.1)).Nodup := by
  rw [keys_put]
  split
  · exact h
  · rename_i q
    rw [List.nodup_append]
    exact ⟨h, by simp, fun a ha b hb => by simp at hb; subst hb; rintro rfl; exact q ha⟩
theorem mem_keys_put {r : List (κ × α)} {k k' : κ} {v : α} : k' ∈ (putW r k v).map (·.1) ↔ k' = k ∨ k' ∈ r.map (·.1) := by
  rw [keys_put]
  split
  · rename_i q
    exact ⟨.inr, fun h => h.elim (fun e => e ▸ q) id⟩
  · simp [or_comm]
end
theorem nodup_le {α : Type} [DecidableEq α] : ∀ {l m : List α}, l.Nodup → (∀ x ∈ l, x ∈ m) → l.length ≤ m.length
  | [], _, _, _ => Nat.zero_le _
  | x :: l, m, hn, hm => by
    have hx := hm x (by simp)
    have h1 := List.length_erase_of_mem hx
    have hp : 0 < m.length := List.length_pos_of_mem hx
    have hn' := List.nodup_cons.mp hn
    have := nodup_le (l := l) (m := m.erase x) hn'.2 fun y hy => by
      have hne : y ≠ x := fun e => hn'.1 (e ▸ hy)
      exact (List.mem_erase_of_ne hne).mpr (hm y (by simp [hy]))
    rw [List.length_cons]
    omega
/-- all parts of a list, in its order -/
def subs {α : Type} : List α → List (List α)
  | [] => [[]]
  | x :: r => subs r ++ (subs r).map (x :: ·)
theorem subs_len {α : Type} : ∀ l : List α, (subs l).length = 2 ^ l.length
  | [] => rfl
  | x :: r => by
    simp only [subs, List.length_append, List.length_map, subs_len r, List.length_cons, Nat.pow_succ]
    omega
theorem mem_subs {α : Type} {l m : List α} (h : l.Sublist m) : l ∈ subs m := by
  induction h with
  | slnil => simp [subs]
  | cons a _ ih => simp [subs, ih]
  | cons_cons a _ ih => simp [subs, ih]
/-! ### more steps -/
section
variable {st : Store} {tg : Tgt} {gd : Option (Nat × List W)} {tt : L → Store → Res Bool} {te : EM} {ls : L}
theorem lc_inv (I : Nat → List W → Store → Prop) (hg : ∀ j acc st, I j acc st → gdB gd st = true) : ∀ (ws : List W) (k : Nat) (acc : List W) (st : Store), I k acc st →
    (∀ j acc st w, I j acc st → k ≤ j → ws[j - k]? = some w → ∃ ls1 st1 b, bindT st tg w ls = some ls1 ∧ tt ls1 st = .ok b st1 ∧ (b = true → ∃ y st2, te ls1 st1 = .ok y st2 ∧ I (j + 1) (acc ++ [y]) st2) ∧ (b = false → I (j + 1) acc st1)) →
    ∃ ys st', lcGo tg gd tt te ls ws st = .ok ys st' ∧ I (k + ws.length) (acc ++ ys) st'
  | [], k, acc, st, h, _ => ⟨[], st, by simp [lcGo, hg k acc st h], by simpa using h⟩
  | w :: ws, k, acc, st, h, hs => by
    obtain ⟨ls1, st1, b, h1, h2, h3, h4⟩ := hs k acc st w h (Nat.le_refl _) (by simp)
    have hs' : ∀ j acc st w', I j acc st → k + 1 ≤ j → ws[j - (k + 1)]? = some w' → ∃ ls1 st1 b, bindT st tg w' ls = some ls1 ∧ tt ls1 st = .ok b st1 ∧ (b = true → ∃ y st2, te ls1 st1 = .ok y st2 ∧ I (j + 1) (acc ++ [y]) st2) ∧ (b = false → I (j + 1) acc st1) := fun j acc st w' hI hj hw =>
      hs j acc st w' hI (by omega) (by rw [show j - k = (j - (k + 1)) + 1 by omega]; simpa using hw)
    have hk : k + (w :: ws).length = k + 1 + ws.length := by rw [List.length_cons]; omega
    rw [hk]
    cases b with
    | true =>
      obtain ⟨y, st2, h5, h6⟩ := h3 rfl
      obtain ⟨ys, st', e, hI⟩ := lc_inv I hg ws (k + 1) (acc ++ [y]) st2 h6 hs'
      exact ⟨y :: ys, st', by simp [lcGo, hg k acc st h, h1, h2, h5, e], by simpa using hI⟩
    | false =>
      obtain ⟨ys, st', e, hI⟩ := lc_inv I hg ws (k + 1) acc st1 (h4 rfl) hs'
      exact ⟨ys, st', by simp [lcGo, hg k acc st h, h1, h2, e], hI⟩
theorem lcM_ok {c : Bool} {vs : List Nat} {src : SM'} {ws : List W} {st1 st2 : Store} {ys : List W} (hs : src ls st = .ok ⟨ws, gd⟩ st1) (h : lcGo tg gd tt te (wipeL ls vs) ws st1 = .ok ys st2) : lcM c vs tg src tt te ls st = newL c ys st2 := by
  simp [lcM, hs, h]
@[simp] theorem yesT_ok : yesT ls st = .ok true st := rfl
@[simp] theorem gdB_none : gdB none st = true := rfl
end
/-! ### ints in lists -/
section
variable {st : Store} {xs : List W} {ns : List Int}
theorem plain_ints : ∀ {xs : List W}, (∀ x ∈ xs, ∃ i, x = .int i) → PyData.plainAll (toDs xs) = true ∧ PyData.depthAll (toDs xs) = 0
  | [], _ => ⟨rfl, rfl⟩
  | x :: xs, h => by
    obtain ⟨i, rfl⟩ := h x (by simp)
    obtain ⟨h1, h2⟩ := plain_ints (xs := xs) fun y hy => h y (List.mem_cons_of_mem _ hy)
    constructor
    · simpa [toDs, toD, PyData.plainAll, PyData.plain] using h1
    · simp [toDs, toD, PyData.depthAll, PyData.depth, h2]
theorem in_ints {a : Int} {b : W} (hb : asQ st b = some (ns.map .int)) : inM (.int a) b st = .ok (.bl (decide (a ∈ ns))) st ∧ notInM (.int a) b st = .ok (.bl (!decide (a ∈ ns))) st := by
  have hp := (plain_ints (xs := ns.map .int) fun x hx => by obtain ⟨i, _, rfl⟩ := List.mem_map.mp hx; exact ⟨i, rfl⟩).1
  have e : inB st (.int a) b = some (decide (a ∈ ns)) := by
    unfold inB
    simp only [hb, asV_int, okD_int, hp, and_self, if_true]
    congr 1
    rw [Bool.eq_iff_iff]
    simp [List.any_eq_true]
  exact ⟨by unfold inM; rw [e], by unfold notInM; rw [e]⟩
theorem alikes_ints (h : ∀ x ∈ xs, ∃ i, x = .int i) : alikes xs = true ∧ noNone xs = true := by
  obtain ⟨h1, h2⟩ := plain_ints h
  constructor
  · unfold alikes
    simp only [h1, h2, Bool.and_eq_true, decide_eq_true_eq, List.all_eq_true]
    refine ⟨⟨by omega, trivial⟩, fun a ha b hb => ?_⟩
    obtain ⟨i, rfl⟩ := h a ha
    obtain ⟨j, rfl⟩ := h b hb
    rfl
  · unfold noNone
    rw [List.all_eq_true]
    intro x hx
    obtain ⟨i, rfl⟩ := h x hx
    rfl
theorem min_ints {i : Int} {b : W} (hb : asQ st b = some (.int i :: ns.map .int)) : bestF false [b] st = .ok (.int (ns.foldl min i)) st := by
  obtain ⟨h1, h2⟩ := alikes_ints (xs := .int i :: ns.map .int) fun x hx => by
    rcases List.mem_cons.mp hx with e | hx
    · exact ⟨i, e⟩
    · obtain ⟨i, _, rfl⟩ := List.mem_map.mp hx; exact ⟨i, rfl⟩
  unfold bestF
  simp only [hb, h1, h2, Bool.and_self, if_true, cond_false]
  congr 1
  clear hb h1 h2
  unfold minW
  induction ns generalizing i with
  | nil => rfl
  | cons n ns ih =>
    simp only [List.map_cons, List.foldl_cons, ltW_int, decide_eq_true_eq]
    have : (if n < i then W.int n else W.int i) = W.int (min i n) := by
      by_cases h : n < i
      · rw [if_pos h, Int.min_eq_right (by omega)]
      · rw [if_neg h, Int.min_eq_left (by omega)]
    rw [this, ih]
theorem max_ints {i : Int} {b : W} (hb : asQ st b = some (.int i :: ns.map .int)) : bestF true [b] st = .ok (.int (ns.foldl max i)) st := by
  obtain ⟨h1, h2⟩ := alikes_ints (xs := .int i :: ns.map .int) fun x hx => by
    rcases List.mem_cons.mp hx with e | hx
    · exact ⟨i, e⟩
    · obtain ⟨i, _, rfl⟩ := List.mem_map.mp hx; exact ⟨i, rfl⟩
  unfold bestF
  simp only [hb, h1, h2, Bool.and_self, if_true, cond_true]
  congr 1
  clear hb h1 h2
  unfold maxW
  induction ns generalizing i with
  | nil => rfl
  | cons n ns ih =>
    simp only [List.map_cons, List.foldl_cons, ltW_int, decide_eq_true_eq]
    have : (if i < n then W.int n else W.int i) = W.int (max i n) := by
      by_cases h : i < n
      · rw [if_pos h, Int.max_eq_right (by omega)]
      · rw [if_neg h, Int.max_eq_left (by omega)]
    rw [this, ih]
@[simp] theorem max2_ii {i j : Int} : bestF true [.int i, .int j] st = .ok (.int (max i j)) st := by
  show Res.ok (W.int (if j > i then j else i)) st = _
  by_cases h : j > i
  · rw [if_pos h, Int.max_eq_right (by omega)]
  · rw [if_neg h, Int.max_eq_left (by omega)]
@[simp] theorem min2_ii {i j : Int} : bestF false [.int i, .int j] st = .ok (.int (min i j)) st := by
  show Res.ok (W.int (if j < i then j else i)) st = _
  by_cases h : j < i
  · rw [if_pos h, Int.min_eq_right (by omega)]
  · rw [if_neg h, Int.min_eq_left (by omega)]
/-! data of ints in tuples -/
theorem okD_tup (h : PyData.plainAll (toDs xs) = true) (hd : PyData.depthAll (toDs xs) ≤ 50) : okD (.tup xs) = true ∧ okD (.lst xs) = true := by
  constructor <;>
  · unfold okD
    simp only [toD, PyData.plain, PyData.depth, h, Bool.true_and, decide_eq_true_eq]
    omega
theorem eqvAll_ints : ∀ ns ms : List Int, PyData.eqvAll (toDs (ns.map .int)) (toDs (ms.map .int)) = decide (ns = ms)
  | [], [] => rfl
  | [], _ :: _ => rfl
  | _ :: _, [] => rfl
  | n :: ns, m :: ms => by
    show (PyData.eqv (.int n) (.int m) && PyData.eqvAll (toDs (ns.map .int)) (toDs (ms.map .int))) = _
    rw [eqvAll_ints ns ms, Bool.eq_iff_iff]
    simp [PyData.eqv]
theorem eq_tints {ns ms : List Int} : eqM (.tup (ns.map .int)) (.tup (ms.map .int)) st = .ok (.bl (decide (ns = ms))) st ∧ neM (.tup (ns.map .int)) (.tup (ms.map .int)) st = .ok (.bl (!decide (ns = ms))) st := by
  have hp : ∀ ns : List Int, okD (.tup (ns.map .int)) = true := fun ns => by
    obtain ⟨h1, h2⟩ := plain_ints (xs := ns.map .int) fun x hx => by obtain ⟨i, _, rfl⟩ := List.mem_map.mp hx; exact ⟨i, rfl⟩
    exact (okD_tup h1 (by omega)).1
  have e : eqW (.tup (ns.map .int)) (.tup (ms.map .int)) = decide (ns = ms) := eqvAll_ints ns ms
  constructor
  · unfold eqM; simp only [asV_tup, hp, e, Bool.and_self, if_true]
  · unfold neM; simp only [asV_tup, hp, e, Bool.and_self, if_true]
end
theorem rgOk2_of {i j : Int} (h1 : -1000000 ≤ i) (h2 : i ≤ 1000000) (h3 : -1000000 ≤ j) (h4 : j ≤ 1000000) : rgOk2 i j = true := by
  refine opq_iff.mpr ⟨?_, ?_, ?_, ?_, ?_⟩ <;> omega
theorem rngOk_of {i : Int} (h1 : -1000000 ≤ i) (h2 : i ≤ 1000000) : rngOk i = true := by
  refine opq_iff.mpr ⟨?_, ?_⟩ <;> omega
theorem sizeLine_of {n : Nat} (h : n ≤ 1000000) : n < sizeLine := by rw [sizeLine_eq]; omega
theorem mulOk_of {i j : Int} (h1 : -18446744073709551616 < i) (h2 : i < 18446744073709551616) : mulOk i j = true := by
  refine opq_iff.mpr (.inl ⟨?_, ?_⟩) <;> omega
theorem powOk_of {i j : Int} (h1 : 0 ≤ j) (h2 : j ≤ 1000000) (h3 : i.natAbs < 18446744073709551616) : powOk i j = true := by
  refine opq_iff.mpr ⟨⟨?_, ?_⟩, ?_⟩ <;> omega
theorem log2_of {j : Int} (h1 : 0 < j) (h2 : j < 18446744073709551616) : opq (0 < j ∧ j.natAbs.log2 < 9000) = true := by
  have h : j.natAbs.log2 < 64 := by
    rw [Nat.log2_lt (by omega)]
    omega
  exact opq_iff.mpr ⟨h1, by omega⟩
theorem tupRg1_ok {ma : AM} {ls : L} {st st1 : Store} {j : Int} (h : ma ls st = .ok [.int j] st1) (hr : rgOk2 0 j = true) : tupRgM ma ls st = .ok (.tup (intsW 0 (j - 0).toNat)) st1 := by
  simp only [tupRgM, rgAM, h, Res.bind_ok, hr, if_true]
theorem tupRg2_ok {ma : AM} {ls : L} {st st1 : Store} {i j : Int} (h : ma ls st = .ok [.int i, .int j] st1) (hr : rgOk2 i j = true) : tupRgM ma ls st = .ok (.tup (intsW i (j - i).toNat)) st1 := by
  simp only [tupRgM, rgAM, h, Res.bind_ok, hr, if_true]
theorem rng1_ok {ma : AM} {ls : L} {st st1 : Store} {j : Int} (h : ma ls st = .ok [.int j] st1) (hr : rngOk j = true) (hz : j.toNat ≤ sizeLine) : rng1S ma ls st = .ok ⟨intsW 0 j.toNat, none⟩ st1 := by
  have : (rngOk j && szB j.toNat) = true := by simp [hr, szB_iff.mpr hz]
  simp only [rng1S, h, Res.bind_ok, this, if_true]
theorem rng2_ok {ma : AM} {ls : L} {st st1 : Store} {i j : Int} (h : ma ls st = .ok [.int i, .int j] st1) (hi : rngOk i = true) (hr : rngOk j = true) (hz : (j - i).toNat ≤ sizeLine) : rng2S ma ls st = .ok ⟨intsW i (j - i).toNat, none⟩ st1 := by
  have : (rngOk i && rngOk j && szB (j - i).toNat) = true := by simp [hi, hr, szB_iff.mpr hz]
  simp only [rng2S, h, Res.bind_ok, this, if_true]
section
variable {st : Store} {d : Nat} {kvs : List (List Key × W)} {kvk : List (Key × W)} {a v : W} {k : List Key} {kk : Key}
theorem inB_T (h : st[d]? = some (.dT kvs)) (hk : asKeys a = some k) : inB st a (.ref d) = some (valW kvs k).isSome := by
  cases a with
  | tup ws =>
    unfold inB
    have h1 : asQ st (.ref d) = none := by unfold asQ asT asL; simp [h]
    have h2 : asDK st (.ref d) = none := by unfold asDK; simp [h]
    have h3 : asDT st (.ref d) = some kvs := by unfold asDT; simp [h]
    simp only [h1, h2, h3, hk]
  | _ => simp [asKeys] at hk
theorem in_T (h : st[d]? = some (.dT kvs)) (hk : asKeys a = some k) : inM a (.ref d) st = .ok (.bl (valW kvs k).isSome) st := by unfold inM; rw [inB_T h hk]
theorem notIn_T (h : st[d]? = some (.dT kvs)) (hk : asKeys a = some k) : notInM a (.ref d) st = .ok (.bl (!(valW kvs k).isSome)) st := by unfold notInM; rw [inB_T h hk]
theorem ix_T (h : st[d]? = some (.dT kvs)) (hk : asKeys a = some k) (hv : valW kvs k = some v) : ixW (.ref d) a st = .ok v st := by
  have h1 : asQ st (.ref d) = none := by unfold asQ asT asL; simp [h]
  have h2 : asDK st (.ref d) = none := by unfold asDK; simp [h]
  have h3 : asDT st (.ref d) = some kvs := by unfold asDT; simp [h]
  unfold ixW
  simp only [h1, h2, h3, hk, hv]
theorem put_T (h : st[d]? = some (.dT kvs)) (hk : asKeys a = some k) (hl : kvs.length < sizeLine) : setW (.ref d) a v st = .ok () (st.set d (.dT (putW kvs k v))) := by
  have : szB (kvs.length + 1) = true := szB_iff.mpr hl
  unfold setW
  simp only [h, hk, this, if_true]
theorem lowT_all {n : Nat} : ∀ {kvs : List (List Key × W)}, (∀ p ∈ kvs, lowW n p.2 = true) → lowT n kvs = true
  | [], _ => rfl
  | (k, w) :: r, h => by
    simp only [lowT]
    rw [h (k, w) (by simp), lowT_all fun p hp => h p (by simp [hp])]; rfl
theorem put_mem {κ α : Type} [DecidableEq κ] {r : List (κ × α)} {k : κ} {v : α} {p : κ × α} (h : p ∈ putW r k v) : p.2 = v ∨ p ∈ r := by
  unfold putW at h
  split at h
  · obtain ⟨q, hq, rfl⟩ := List.mem_map.mp h
    split
    · exact .inl rfl
    · exact .inr hq
  · rcases List.mem_append.mp h with h | h
    · exact .inr h
    · simp at h; subst h; exact .inl rfl
end
section
variable {st st' : Store} {w : W} {n np k : Nat} {body : SM} {ws : List W} {c : Cell}
theorem fun_in (hl : ws.length = np) (hb : body (startL n ws) st = .rt w st') (he : st' = st.set k c) (hc : lowC st.length c = true) (hw : lowW 0 w = true) : funM np n body ws st = .ok w (st.set k c) :=
  fun_set (t := []) hl (by rw [hb, he]; simp) hc hw
theorem set_same (h : st[k]? = some c) : st.set k c = st := by
  obtain ⟨hl, e⟩ := List.getElem?_eq_some_iff.mp h
  rw [← e]; exact List.set_getElem_self hl
end
/-! data of any make -/
def Dat (k : Nat) (w : W) : Prop := (toD w).plain = true ∧ (toD w).depth ≤ k
theorem dat_all {k : Nat} : ∀ {xs : List W}, (∀ x ∈ xs, Dat k x) → PyData.plainAll (toDs xs) = true ∧ PyData.depthAll (toDs xs) ≤ k
  | [], _ => ⟨rfl, Nat.zero_le _⟩
  | x :: xs, h => by
    obtain ⟨h1, h2⟩ := dat_all (xs := xs) fun y hy => h y (List.mem_cons_of_mem _ hy)
    obtain ⟨a, b⟩ := h x List.mem_cons_self
    simp only [toDs, PyData.plainAll, PyData.depthAll, a, h1, Bool.and_self, true_and]
    exact Nat.max_le.mpr ⟨b, h2⟩
theorem Dat.mono {k j : Nat} {w : W} (h : Dat k w) (hj : k ≤ j) : Dat j w := ⟨h.1, Nat.le_trans h.2 hj⟩
theorem dat_int {k : Nat} {i : Int} : Dat k (.int i) := ⟨rfl, Nat.zero_le _⟩
theorem dat_bl {k : Nat} {i : Bool} : Dat k (.bl i) := ⟨rfl, Nat.zero_le _⟩
theorem dat_non {k : Nat} : Dat k .non := ⟨rfl, Nat.zero_le _⟩
theorem dat_str {k : Nat} {i : Str} : Dat k (.str i) := ⟨rfl, Nat.zero_le _⟩
theorem dat_tup {k : Nat} {xs : List W} (h : ∀ x ∈ xs, Dat k x) : Dat (k + 1) (.tup xs) := by
  obtain ⟨h1, h2⟩ := dat_all h
  exact ⟨by simpa [toD, PyData.plain] using h1, by simp only [toD, PyData.depth]; omega⟩
theorem dat_lst {k : Nat} {xs : List W} (h : ∀ x ∈ xs, Dat k x) : Dat (k + 1) (.lst xs) := by
  obtain ⟨h1, h2⟩ := dat_all h
  exact ⟨by simpa [toD, PyData.plain] using h1, by simp only [toD, PyData.depth]; omega⟩
theorem Dat.ok {k : Nat} {w : W} (h : Dat k w) (hk : k ≤ 60) : okD w = true := by
  unfold okD
  rw [h.1, Bool.true_and, decide_eq_true_eq]
  exact Nat.le_trans h.2 hk
theorem dat_ints {k : Nat} {xs : List W} (h : ∀ x ∈ xs, ∃ i, x = .int i) : Dat (k + 1) (.tup xs) ∧ Dat (k + 1) (.lst xs) := ⟨dat_tup fun x hx => by obtain ⟨i, rfl⟩ := h x hx; exact dat_int, dat_lst fun x hx => by obtain ⟨i, rfl⟩ := h x hx; exact dat_int⟩
theorem eqM_of {st : Store} {a b : W} (ha : okD (asV st a) = true) (hb : okD (asV st b) = true) {r : Bool} (h : eqW (asV st a) (asV st b) = r) : eqM a b st = .ok (.bl r) st ∧ neM a b st = .ok (.bl (!r)) st := by
  constructor
  · unfold eqM; simp only [ha, hb, Bool.and_self, if_true, h]
  · unfold neM; simp only [ha, hb, Bool.and_self, if_true, h]
theorem eqW_lnil {xs : List W} : eqW (.lst xs) (.lst []) = xs.isEmpty := by cases xs <;> rfl
theorem eqW_tnil {xs : List W} : eqW (.tup xs) (.tup []) = xs.isEmpty := by cases xs <;> rfl
section
variable {ls ls1 : L} {st st1 : Store} {a b : SM} {c : L → Store → Res Bool} {R : SRes → Prop}
theorem if_tP (h : c ls st = .ok true st1) (h2 : R (a ls st1)) : R (ifS c a b ls st) := by rw [if_t h rfl]; exact h2
theorem if_fP (h : c ls st = .ok false st1) (h2 : R (b ls st1)) : R (ifS c a b ls st) := by rw [if_f h rfl]; exact h2
theorem seq_nxP (h : a ls st = .nx ls1 st1) (h2 : R (b ls1 st1)) : R (seqM a b ls st) := by rw [seq_nx h rfl]; exact h2
theorem set_nxP {m : EM} {w : W} {i : Nat} {s : SM} (h : m ls st = .ok w st1) (h2 : R (s (ls.set i (some w)) st1)) : R (seqM (setM i m) s ls st) := seq_nxP (set_ok h) h2
end
/-- the next slots told -/
theorem set_to {m : EM} {ls ls' : L} {st st1 : Store} {w : W} {i : Nat} (h : m ls st = .ok w st1) (e : ls.set i (some w) = ls' := by rfl) : setM i m ls st = .nx ls' st1 := by rw [set_ok h, e]
end
end VM

set_option Elab.async false
set_option linter.all false
set_option maxRecDepth 100000
namespace VM
noncomputable section
open PySem L2
/-! ### the laws' way to draw -/
def drawM : FM := funM 2 5
    (seqM (setM 2 (cM (.int 2305843009213693951)))
    (seqM (ifS (tstM (opM ltM (opM ixW (vM 0) (cM (.int 2))) (vM 1)))
    (seqM (setM 3 (cM (.int 0)))
      (seqM (ifS (tstM (opM gtM (bM lenF (aC (opM ixW (vM 0) (cM (.int 0))) aN)) (cM (.int 0))))
      (setM 3 (opM ixW (opM ixW (vM 0) (cM (.int 0))) (opM modW (opM ixW (vM 0) (cM (.int 1))) (bM lenF (aC (opM ixW (vM 0) (cM (.int 0))) aN)))))
      nxS)
      (seqM (ifS (orT (tstM (opM geM (opM ixW (vM 0) (cM (.int 1))) (bM lenF (aC (opM ixW (vM 0) (cM (.int 0))) aN)))) (tstM (opM ltM (vM 3) (opM powW (cM (.int 10)) (cM (.int 18))))))
      (seqM (setM 3 (opM modW (opM (addW false) (vM 3) (opM (mulA false) (cM (.int 1000003)) (opM ixW (vM 0) (cM (.int 1))))) (vM 2)))
        (seqM (setM 3 (opM modW (opM (addW false) (opM (addW false) (opM (mulA false) (vM 3) (vM 3)) (opM (mulA false) (cM (.int 1181783497276652981)) (vM 3))) (cM (.int 2049848353892358983))) (vM 2)))
        (setM 3 (opM modW (opM (addW false) (opM (mulA false) (vM 3) (vM 3)) (cM (.int 1442695040888963407))) (vM 2)))))
      nxS)
      (seqM (putM (vM 0) (cM (.int 1)) (opM (addW false) (opM ixW (vM 0) (cM (.int 1))) (cM (.int 1))))
      (putM (vM 0) (cM (.int 2)) (vM 3))))))
    nxS)
    (seqM (setM 4 (opM modW (opM ixW (vM 0) (cM (.int 2))) (vM 1)))
    (seqM (putM (vM 0) (cM (.int 2)) (opM divW (opM ixW (vM 0) (cM (.int 2))) (vM 1)))
    (retM (vM 4))))))
def tapeC (ns : List Int) (p a : Int) : Cell := .lst [.lst (ns.map .int), .int p, .int a]
section
variable {st : Store} {ns : List Int} {t : Nat} {p a : Int}
theorem tape0 (h : st[t]? = some (tapeC ns p a)) : ixW (.ref t) (.int 0) st = .ok (.lst (ns.map .int)) st := ix_cell (k := 0) h rfl
theorem tape1 (h : st[t]? = some (tapeC ns p a)) : ixW (.ref t) (.int 1) st = .ok (.int p) st := ix_cell (k := 1) h rfl
theorem tape2 (h : st[t]? = some (tapeC ns p a)) : ixW (.ref t) (.int 2) st = .ok (.int a) st := ix_cell (k := 2) h rfl
theorem tapeP1 (h : st[t]? = some (tapeC ns p a)) {q : Int} : setW (.ref t) (.int 1) (.int q) st = .ok () (st.set t (tapeC ns q a)) := put_lst (j := 1) h (by simp)
theorem tapeP2 (h : st[t]? = some (tapeC ns p a)) {q : Int} : setW (.ref t) (.int 2) (.int q) st = .ok () (st.set t (tapeC ns p q)) := put_lst (j := 2) h (by simp)
theorem tape_set (h : st[t]? = some (tapeC ns p a)) (c : Cell) : (st.set t c)[t]? = some c := by
  have : t < st.length := (List.getElem?_eq_some_iff.mp h).1
  simp [this]
theorem tape_low {n : Nat} : lowC n (tapeC ns p a) = true := by simp [tapeC]
/-- the tape's state -/
def Tape (ns : List Int) (t : Nat) (st0 st : Store) : Prop := ∃ p a, st = st0.set t (tapeC ns p a) ∧ 0 ≤ p ∧ 0 ≤ a
theorem draw_ok {many : Int} (h : st[t]? = some (tapeC ns p a)) (hp : 0 ≤ p) (ha : 0 ≤ a) (hm : 0 < many) (hm2 : many < 18446744073709551616) :
    ∃ f p' a', drawM [.ref t, .int many] st = .ok (.int f) (st.set t (tapeC ns p' a')) ∧ 0 ≤ f ∧ f < many ∧ 0 ≤ p' ∧ 0 ≤ a' := by
  have hS := tape_set h
  suffices hs : NxP ((ifS (tstM (opM ltM (opM ixW (vM 0) (cM (.int 2))) (vM 1)))
    (seqM (setM 3 (cM (.int 0)))
      (seqM (ifS (tstM (opM gtM (bM lenF (aC (opM ixW (vM 0) (cM (.int 0))) aN)) (cM (.int 0))))
      (setM 3 (opM ixW (opM ixW (vM 0) (cM (.int 0))) (opM modW (opM ixW (vM 0) (cM (.int 1))) (bM lenF (aC (opM ixW (vM 0) (cM (.int 0))) aN)))))
      nxS)
      (seqM (ifS (orT (tstM (opM geM (opM ixW (vM 0) (cM (.int 1))) (bM lenF (aC (opM ixW (vM 0) (cM (.int 0))) aN)))) (tstM (opM ltM (vM 3) (opM powW (cM (.int 10)) (cM (.int 18))))))
      (seqM (setM 3 (opM modW (opM (addW false) (vM 3) (opM (mulA false) (cM (.int 1000003)) (opM ixW (vM 0) (cM (.int 1))))) (vM 2)))
        (seqM (setM 3 (opM modW (opM (addW false) (opM (addW false) (opM (mulA false) (vM 3) (vM 3)) (opM (mulA false) (cM (.int 1181783497276652981)) (vM 3))) (cM (.int 2049848353892358983))) (vM 2)))
        (setM 3 (opM modW (opM (addW false) (opM (mulA false) (vM 3) (vM 3)) (cM (.int 1442695040888963407))) (vM 2)))))
      nxS)
      (seqM (putM (vM 0) (cM (.int 1)) (opM (addW false) (opM ixW (vM 0) (cM (.int 1))) (cM (.int 1))))
      (putM (vM 0) (cM (.int 2)) (vM 3))))))
    nxS) [some (.ref t), some (.int many), some (.int 2305843009213693951), none, none] st) (fun ls st' => ∃ c p' a', ls = [some (.ref t), some (.int many), some (.int 2305843009213693951), c, none] ∧ st' = st.set t (tapeC ns p' a') ∧ 0 ≤ p' ∧ 0 ≤ a') by
    obtain ⟨ls, st', e, c, p', a', rfl, rfl, hp', ha'⟩ := hs
    have h' := hS (tapeC ns p' a')
    refine ⟨a' % many, p', a' / many, fun_in rfl (seq_nx (set_ok (w := .int 2305843009213693951) (st1 := st) rfl) (seq_nx e (seq_nx (set_ok (w := .int (a' % many)) (st1 := st.set t (tapeC ns p' a')) ?_) (seq_nx (put_ok (w3 := .int (a' / many)) (st1 := st.set t (tapeC ns p' a')) ?_ rfl rfl (tapeP2 h')) (ret_ok rfl))))) (set_set) tape_low rfl, Int.emod_nonneg _ (by omega), Int.emod_lt_of_pos _ hm, hp', Int.ediv_nonneg ha' (by omega)⟩
    · simp [tape2 h', hm]
    · simp [tape2 h', log2_of hm hm2]
  by_cases hlt : a < many
  · -- a new cell
    suffices hc : ∀ v : Int, NxP ((seqM (ifS (orT (tstM (opM geM (opM ixW (vM 0) (cM (.int 1))) (bM lenF (aC (opM ixW (vM 0) (cM (.int 0))) aN)))) (tstM (opM ltM (vM 3) (opM powW (cM (.int 10)) (cM (.int 18))))))
      (seqM (setM 3 (opM modW (opM (addW false) (vM 3) (opM (mulA false) (cM (.int 1000003)) (opM ixW (vM 0) (cM (.int 1))))) (vM 2)))
        (seqM (setM 3 (opM modW (opM (addW false) (opM (addW false) (opM (mulA false) (vM 3) (vM 3)) (opM (mulA false) (cM (.int 1181783497276652981)) (vM 3))) (cM (.int 2049848353892358983))) (vM 2)))
        (setM 3 (opM modW (opM (addW false) (opM (mulA false) (vM 3) (vM 3)) (cM (.int 1442695040888963407))) (vM 2)))))
      nxS)
      (seqM (putM (vM 0) (cM (.int 1)) (opM (addW false) (opM ixW (vM 0) (cM (.int 1))) (cM (.int 1))))
      (putM (vM 0) (cM (.int 2)) (vM 3)))) [some (.ref t), some (.int many), some (.int 2305843009213693951), some (.int v), none] st) (fun ls st' => ∃ c p' a', ls = [some (.ref t), some (.int many), some (.int 2305843009213693951), c, none] ∧ st' = st.set t (tapeC ns p' a') ∧ 0 ≤ p' ∧ 0 ≤ a') by
      exact if_tP (R := fun r => NxP r _) (st1 := st) (by simp [tape2 h, hlt]) (by
        refine nx_seq (P := fun ls st' => ls = [some (.ref t), some (.int many), some (.int 2305843009213693951), some (.int 0), none] ∧ st = st') (nx_of (set_ok (w := .int 0) (st1 := st) rfl) ⟨rfl, rfl⟩) ?_
        rintro _ _ ⟨rfl, rfl⟩
        refine nx_seq (P := fun ls st' => ∃ v : Int, ls = [some (.ref t), some (.int many), some (.int 2305843009213693951), some (.int v), none] ∧ st = st') ?_ ?_
        · by_cases hn : ns = []
          · exact nx_of (if_f (st1 := st) (by simp [tape0 h, hn]) rfl) ⟨0, rfl, rfl⟩
          · have hl : 0 < ns.length := List.length_pos_iff.mpr hn
            obtain ⟨k, hk⟩ : ∃ k : Nat, (k : Int) = p % (ns.length : Int) := ⟨(p % (ns.length : Int)).toNat, Int.toNat_of_nonneg (Int.emod_nonneg _ (by omega))⟩
            have hkl : k < ns.length := by
              have := Int.emod_lt_of_pos p (b := (ns.length : Int)) (by omega)
              omega
            refine nx_of (if_t (st1 := st) (by simp [tape0 h, hl]) (set_ok (w := .int ns[k]) (st1 := st) ?_)) ⟨ns[k], rfl, rfl⟩
            have e := ix_lst (st := st) (xs := ns.map .int) (k := k) (w := .int ns[k]) (by simp [hkl])
            rw [hk] at e
            simp [tape0 h, tape1 h, hl, e]
        · rintro _ _ ⟨v, rfl, rfl⟩
          exact hc v)
    intro v
    refine nx_seq (P := fun ls st' => ∃ v : Int, 0 ≤ v ∧ ls = [some (.ref t), some (.int many), some (.int 2305843009213693951), some (.int v), none] ∧ st = st') ?_ ?_
    · have hpow : ∀ st, powW (.int 10) (.int 18) st = .ok (.int 1000000000000000000) st := fun st => by
        rw [powW_ii, powOk_of (by omega) (by omega) (by decide)]; rfl
      by_cases hor : (ns.length : Int) ≤ p ∨ v < 1000000000000000000
      · have hP : (0 : Int) < 2305843009213693951 := by decide
        have m1 : ∀ x : Int, 0 ≤ x % 2305843009213693951 := fun x => Int.emod_nonneg _ (by decide)
        have m2 : ∀ x : Int, x % 2305843009213693951 < 2305843009213693951 := fun x => Int.emod_lt_of_pos _ hP
        have m3 : ∀ x y : Int, mulOk (x % 2305843009213693951) y = true := fun x y => mulOk_of (by have := m1 x; omega) (by have := m2 x; omega)
        obtain ⟨c1, hc1⟩ : ∃ c1, c1 = (v + 1000003 * p) % 2305843009213693951 := ⟨_, rfl⟩
        obtain ⟨c2, hc2⟩ : ∃ c2, c2 = (c1 * c1 + 1181783497276652981 * c1 + 2049848353892358983) % 2305843009213693951 := ⟨_, rfl⟩
        have k1 : ∀ y, mulOk c1 y = true := fun y => by rw [hc1]; exact m3 _ _
        have k2 : ∀ y, mulOk c2 y = true := fun y => by rw [hc2]; exact m3 _ _
        refine nx_of (if_t (st1 := st) ?_ (seq_nx (set_ok (w := .int c1) (st1 := st) ?_) (seq_nx (set_ok (w := .int c2) (st1 := st) ?_) (set_ok (w := .int ((c2 * c2 + 1442695040888963407) % 2305843009213693951)) (st1 := st) ?_)))) ⟨_, m1 _, rfl, rfl⟩
        · rcases hor with h1 | h1
          · have : ¬ p < (ns.length : Int) := by omega
            simp [tape0 h, tape1 h, this]
          · by_cases h2 : p < (ns.length : Int)
            · simp [tape0 h, tape1 h, h2, hpow, h1]
            · simp [tape0 h, tape1 h, h2]
        · simp [tape1 h, mulOk_of, hc1]
        · simp [k1, mulOk_of, hc2]
        · simp [k2]
      · have h1 : p < (ns.length : Int) := by omega
        have h2 : ¬ v < 1000000000000000000 := by omega
        exact nx_of (if_f (st1 := st) (by simp [tape0 h, tape1 h, h1, hpow, h2]) rfl) ⟨v, by omega, rfl, rfl⟩
    · rintro _ _ ⟨v, hv, rfl, rfl⟩
      refine nx_seq (P := fun ls st' => ls = [some (.ref t), some (.int many), some (.int 2305843009213693951), some (.int v), none] ∧ st' = st.set t (tapeC ns (p + 1) a)) (nx_of (put_ok (w3 := .int (p + 1)) (st1 := st) (by simp [tape1 h]) rfl rfl (tapeP1 h)) ⟨rfl, rfl⟩) ?_
      rintro _ _ ⟨rfl, rfl⟩
      refine nx_of (put_ok (w3 := .int v) rfl rfl rfl (tapeP2 (hS _))) ⟨_, p + 1, v, rfl, by rw [set_set], by omega, hv⟩
  · exact nx_of (if_f (st1 := st) (by simp [tape2 h, hlt]) rfl) ⟨none, p, a, rfl, (set_same h).symm, hp, ha⟩
end
end
end VM

set_option Elab.async false
set_option linter.all false
set_option maxRecDepth 100000
namespace Lk26
noncomputable section
open PySem L2 VM
/-- slots: 0=wires 1=knot 2=found -/
def m_road : FM := funM 2 3
    (seqM (setM 2 (lstM true aN))
    (seqM (whileN (tstM (opM gtM (vM 1) (cM (.int 0))))
    (seqM (exprM (mlM appF (vM 2) (aC (vM 1) aN)))
      (setM 1 (opM ixW (vM 0) (opM subW (vM 1) (cM (.int 1)))))) 1000)
    (retM (vM 2))))
/-- slots: 0=wires 1=lot 2=knot 3=down 4=wire -/
def m_parts : FM := funM 3 5
    (seqM (setM 3 (bM (nxF m_road) (aC (vM 0) (aC (vM 2) aN))))
    (retM (tupM (aC (bM tupleF (aC (lcM false [4] (.nm 4) (seqS (vM 1)) (tstM (opM notInM (vM 4) (vM 3))) (vM 4)) aN)) (aC (bM tupleF (aC (lcM false [4] (.nm 4) (seqS (vM 1)) (tstM (opM inM (vM 4) (vM 3))) (vM 4)) aN)) aN)))))
/-- slots: 0=wires -/
def m_all_of : FM := funM 1 1
    (retM (tupRgM (aC (cM (.int 1)) (aC (opM (addW false) (bM lenF (aC (vM 0) aN)) (cM (.int 1))) aN))))
/-- slots: 0=wires 1=lot 2=found 3=knot 4=heard 5=other -/
def m_ways : FM := funM 2 6
    (seqM (setM 2 (lstM true aN))
    (seqM (forM (.nm 3) (seqS (bM (nxF m_all_of) (aC (vM 0) aN)))
    (seqM (asgM (.tp [(.nm 4), (.nm 5)]) (bM (nxF m_parts) (aC (vM 0) (aC (vM 1) (aC (vM 3) aN)))))
      (ifS (andT (tstM (opM neM (vM 4) (tupM aN))) (tstM (opM neM (vM 5) (tupM aN))))
      (exprM (mlM appF (vM 2) (aC (tupM (aC (vM 3) (aC (vM 4) (aC (vM 5) aN)))) aN)))
      nxS)))
    (retM (vM 2))))
def m_needed : Nat → FM
  | 0 => zeroF
  | n + 1 => funM 3 8
    (seqM (ifS (tstM (opM notInM (vM 1) (vM 2)))
    (seqM (setM 3 (ifM (tstM (opM gtM (bM lenF (aC (vM 1) aN)) (cM (.int 1)))) (bM (nxF m_ways) (aC (vM 0) (aC (vM 1) aN))) (lstM false aN)))
      (seqM (putM (vM 2) (vM 1) (cM (.int 0)))
      (ifS (tstM (opM neM (vM 3) (lstM false aN)))
      (seqM (setM 4 (lcM false [5, 6, 7] (.tp [(.nm 5), (.nm 6), (.nm 7)]) (seqS (vM 3)) yesT (bM (bestF true) (aC (bM (nxF (m_needed n)) (aC (vM 0) (aC (vM 6) (aC (vM 2) aN)))) (aC (bM (nxF (m_needed n)) (aC (vM 0) (aC (vM 7) (aC (vM 2) aN)))) aN)))))
        (putM (vM 2) (vM 1) (opM (addW false) (cM (.int 1)) (bM (bestF false) (aC (vM 4) aN)))))
      nxS)))
    nxS)
    (retM (opM ixW (vM 2) (vM 1))))
def m_best_plan : Nat → FM
  | 0 => zeroF
  | n + 1 => funM 3 6
    (seqM (ifS (tstM (opM eqM (bM lenF (aC (vM 1) aN)) (cM (.int 1))))
    (retM (tupM aN))
    nxS)
    (seqM (forM (.tp [(.nm 3), (.nm 4), (.nm 5)]) (seqS (bM (nxF m_ways) (aC (vM 0) (aC (vM 1) aN))))
    (ifS (tstM (opM eqM (opM (addW false) (cM (.int 1)) (bM (bestF true) (aC (bM (nxF (m_needed 12)) (aC (vM 0) (aC (vM 4) (aC (vM 2) aN)))) (aC (bM (nxF (m_needed 12)) (aC (vM 0) (aC (vM 5) (aC (vM 2) aN)))) aN)))) (bM (nxF (m_needed 12)) (aC (vM 0) (aC (vM 1) (aC (vM 2) aN))))))
      (retM (tupM (aC (vM 3) (aC (bM (nxF (m_best_plan n)) (aC (vM 0) (aC (vM 4) (aC (vM 2) aN)))) (aC (bM (nxF (m_best_plan n)) (aC (vM 0) (aC (vM 5) (aC (vM 2) aN)))) aN)))))
      nxS))
    (retM (tupM aN))))
/-- slots: 0=wires 1=known 2=lot -/
def m_find_plan : FM := funM 1 3
    (seqM (setM 1 (newC (.dT [])))
    (seqM (setM 2 (bM (nxF m_all_of) (aC (vM 0) aN)))
    (retM (tupM (aC (bM (nxF (m_needed 12)) (aC (vM 0) (aC (vM 2) (aC (vM 1) aN)))) (aC (bM (nxF (m_best_plan 12)) (aC (vM 0) (aC (vM 2) (aC (vM 1) aN)))) aN))))))
/-- slots: 0=tape 1=many 2=prime 3=cell 4=found -/
def m_law_draw : FM := funM 2 5
    (seqM (setM 2 (cM (.int 2305843009213693951)))
    (seqM (ifS (tstM (opM ltM (opM ixW (vM 0) (cM (.int 2))) (vM 1)))
    (seqM (setM 3 (cM (.int 0)))
      (seqM (ifS (tstM (opM gtM (bM lenF (aC (opM ixW (vM 0) (cM (.int 0))) aN)) (cM (.int 0))))
      (setM 3 (opM ixW (opM ixW (vM 0) (cM (.int 0))) (opM modW (opM ixW (vM 0) (cM (.int 1))) (bM lenF (aC (opM ixW (vM 0) (cM (.int 0))) aN)))))
      nxS)
      (seqM (ifS (orT (tstM (opM geM (opM ixW (vM 0) (cM (.int 1))) (bM lenF (aC (opM ixW (vM 0) (cM (.int 0))) aN)))) (tstM (opM ltM (vM 3) (opM powW (cM (.int 10)) (cM (.int 18))))))
      (seqM (setM 3 (opM modW (opM (addW false) (vM 3) (opM (mulA false) (cM (.int 1000003)) (opM ixW (vM 0) (cM (.int 1))))) (vM 2)))
        (seqM (setM 3 (opM modW (opM (addW false) (opM (addW false) (opM (mulA false) (vM 3) (vM 3)) (opM (mulA false) (cM (.int 1181783497276652981)) (vM 3))) (cM (.int 2049848353892358983))) (vM 2)))
        (setM 3 (opM modW (opM (addW false) (opM (mulA false) (vM 3) (vM 3)) (cM (.int 1442695040888963407))) (vM 2)))))
      nxS)
      (seqM (putM (vM 0) (cM (.int 1)) (opM (addW false) (opM ixW (vM 0) (cM (.int 1))) (cM (.int 1))))
      (putM (vM 0) (cM (.int 2)) (vM 3))))))
    nxS)
    (seqM (setM 4 (opM modW (opM ixW (vM 0) (cM (.int 2))) (vM 1)))
    (seqM (putM (vM 0) (cM (.int 2)) (opM divW (opM ixW (vM 0) (cM (.int 2))) (vM 1)))
    (retM (vM 4))))))
/-- slots: 0=tape 1=most 2=found 3=k -/
def m_law_wires : FM := funM 2 4
    (seqM (setM 2 (lstM true aN))
    (seqM (forM (.nm 3) (rng1S (aC (opM (addW false) (cM (.int 1)) (bM (nxF m_law_draw) (aC (vM 0) (aC (vM 1) aN)))) aN))
    (exprM (mlM appF (vM 2) (aC (opM ixW (lstM false (aC (bM (nxF m_law_draw) (aC (vM 0) (aC (opM (addW false) (vM 3) (cM (.int 1))) aN))) (aC (vM 3) (aC (cM (.int 0)) aN)))) (bM (nxF m_law_draw) (aC (vM 0) (aC (cM (.int 3)) aN)))) aN))))
    (retM (bM tupleF (aC (vM 2) aN)))))
/-- slots: 0=script 1=tape 2=many 3=row 4=halving 5=turn 6=wires 7=number 8=more 9=k -/
def m_law : FM := funM 1 10
    (seqM (setM 1 (lstM true (aC (bM (listF false) (aC (vM 0) aN)) (aC (cM (.int 0)) (aC (cM (.int 0)) aN)))))
    (seqM (forM (.nm 2) (rng2S (aC (cM (.int 1)) (aC (cM (.int 9)) aN)))
    (seqM (setM 3 (tupRgM (aC (vM 2) aN)))
      (seqM (setM 4 (bM lenF (aC (lcM false [9] (.nm 9) (rng1S (aC (cM (.int 4)) aN)) (tstM (opM ltM (opM shlW (cM (.int 1)) (vM 9)) (vM 2))) (vM 9)) aN)))
      (ifS (orT (tstM (opM neM (opM ixW (bM (nxF m_find_plan) (aC (vM 3) aN)) (cM (.int 0))) (vM 4))) (tstM (opM neM (opM ixW (bM (nxF m_find_plan) (aC (opM (mulA false) (tupM (aC (cM (.int 0)) aN)) (vM 2)) aN)) (cM (.int 0))) (opM subW (vM 2) (cM (.int 1))))))
      (retM (cM (.bl false)))
      nxS))))
    (seqM (forM (.nm 5) (rng1S (aC (cM (.int 3)) aN))
    (seqM (setM 6 (bM (nxF m_law_wires) (aC (vM 1) (aC (cM (.int 7)) aN))))
      (seqM (setM 7 (opM ixW (bM (nxF m_find_plan) (aC (vM 6) aN)) (cM (.int 0))))
      (seqM (setM 8 (opM (addW false) (vM 6) (tupM (aC (bM (nxF m_law_draw) (aC (vM 1) (aC (opM (addW false) (bM lenF (aC (vM 6) aN)) (cM (.int 1))) aN))) aN))))
      (seqM (ifS (orT (tstM (opM ltM (opM ixW (bM (nxF m_find_plan) (aC (vM 8) aN)) (cM (.int 0))) (vM 7))) (tstM (opM gtM (opM ixW (bM (nxF m_find_plan) (aC (vM 8) aN)) (cM (.int 0))) (opM (addW false) (vM 7) (cM (.int 1))))))
      (retM (cM (.bl false)))
      nxS)
      (ifS (orT (tstM (opM ltM (opM shlW (cM (.int 1)) (vM 7)) (bM lenF (aC (vM 6) aN)))) (tstM (opM gtM (vM 7) (opM subW (bM lenF (aC (vM 6) aN)) (cM (.int 1))))))
      (retM (cM (.bl false)))
      nxS))))))
    (retM (cM (.bl true))))))
end
end Lk26

set_option Elab.async false
set_option linter.all false
set_option maxRecDepth 100000
set_option maxHeartbeats 4000000
namespace Lk26
open PySem L2 VM
def top (i : Nat) : Stmt := PySem.Challenge.pw_wirehouse_k26_whole_known_finds.main.body.getD i (.Pass ⟨0, 0, 0, 0⟩)
structure Txt (mg : Str → Option Value) : Prop where
  b_len : mg "len" = none
  b_list : mg "list" = none
  b_max : mg "max" = none
  b_min : mg "min" = none
  b_range : mg "range" = none
  b_tuple : mg "tuple" = none
section
variable {P : Program} {w : World} {K : PySem.W.Frag} {mg : Str → Option Value} {base : Heap} {cl : Str → Addr}
abbrev s_road : Stmt := top 1
theorem sc_road : FnScope ["wires", "knot", "found"] ["wires", "knot"] (defScope s_road) := ⟨rfl, rfl, rfl, by decide +kernel, rfl, by decide +kernel, by decide +kernel⟩
theorem cal_road (T : Txt mg) (D_road : Dfn K mg "road" s_road ["wires", "knot"]) : Cal P w K mg base cl "road" ["wires", "knot"] 1 m_road :=
  cal_pure D_road sc_road _ fun f z cdv A outer s H E hr =>
    (ss_cons (s_set (i := 2) sc_road.nd rfl (by first | exact Or.inl rfl | exact Or.inr rfl) (r_lst true a_nil))
    (ss_cons (s_while 1000 PassesOwn.never (t_cmp (o_gt hr) k_gt (r_v 1) r_int (nomark _))
    (ss_cons (s_expr (r_app rfl (r_v 2) (a_cons (r_v 1) a_nil)))
      (ss_one (s_set (i := 1) sc_road.nd rfl (by first | exact Or.inl rfl | exact Or.inr rfl) (r_ix rfl hr (r_v 0) (r_sub (r_v 1) r_int))))))
    (ss_one (s_ret (r_v 2)))))
abbrev s_parts : Stmt := top 2
theorem sc_parts : FnScope ["wires", "lot", "knot", "down", "wire"] ["wires", "lot", "knot"] (defScope s_parts) := ⟨rfl, rfl, rfl, by decide +kernel, rfl, by decide +kernel, by decide +kernel⟩
theorem cal_parts (T : Txt mg) (D_parts : Dfn K mg "parts" s_parts ["wires", "lot", "knot"]) (c_road : Cal P w K mg base cl "road" ["wires", "knot"] 1 m_road) : Cal P w K mg base cl "parts" ["wires", "lot", "knot"] 2 m_parts :=
  cal_pure D_parts sc_parts _ fun f z cdv A outer s H E hr =>
    (ss_cons (s_set (i := 3) sc_parts.nd rfl (by first | exact Or.inl rfl | exact Or.inr rfl) (r_cal c_road (hr.mono (by omega)) (by rfl) (a_cons (r_v 0) (a_cons (r_v 2) a_nil))))
    (ss_one (s_ret (r_tup (a_cons (r_Ty call_tuple_of f_tuple (by rfl) T.b_tuple (by kernel_rfl) (a_cons (r_lc1 false [("wire", 4)] (.nm 4) rfl sc_parts.nd (i_seq rfl (r_v 1)) (blkOk_by (by kernel_rfl)) (by decide) (fun s H C cl fp => (pg_name (i := 4) sc_parts.nd rfl (by first | exact Or.inl rfl | exact Or.inr rfl))) (fun z s H C cl fp => (t_cmp (o_notIn hr) k_notIn (r_v 4) (r_v 3) (by rfl))) (fun z s H C cl fp => (r_v 4))) a_nil)) (a_cons (r_Ty call_tuple_of f_tuple (by rfl) T.b_tuple (by kernel_rfl) (a_cons (r_lc1 false [("wire", 4)] (.nm 4) rfl sc_parts.nd (i_seq rfl (r_v 1)) (blkOk_by (by kernel_rfl)) (by decide) (fun s H C cl fp => (pg_name (i := 4) sc_parts.nd rfl (by first | exact Or.inl rfl | exact Or.inr rfl))) (fun z s H C cl fp => (t_cmp (o_in hr) k_in (r_v 4) (r_v 3) (by rfl))) (fun z s H C cl fp => (r_v 4))) a_nil)) a_nil))))))
abbrev s_all_of : Stmt := top 3
theorem sc_all_of : FnScope ["wires"] ["wires"] (defScope s_all_of) := ⟨rfl, rfl, rfl, by decide +kernel, rfl, by decide +kernel, by decide +kernel⟩
theorem cal_all_of (T : Txt mg) (D_all_of : Dfn K mg "all_of" s_all_of ["wires"]) : Cal P w K mg base cl "all_of" ["wires"] 1 m_all_of :=
  cal_pure D_all_of sc_all_of _ fun f z cdv A outer s H E hr =>
    (ss_one (s_ret (r_tupRg2 rfl (by rfl) T.b_tuple (by rfl) T.b_range r_int (r_add false rfl (r_B c_len f_len (by rfl) T.b_len (by kernel_rfl) (a_cons (r_v 0) a_nil)) r_int))))
abbrev s_ways : Stmt := top 4
theorem sc_ways : FnScope ["wires", "lot", "found", "knot", "heard", "other"] ["wires", "lot"] (defScope s_ways) := ⟨rfl, rfl, rfl, by decide +kernel, rfl, by decide +kernel, by decide +kernel⟩
theorem cal_ways (T : Txt mg) (D_ways : Dfn K mg "ways" s_ways ["wires", "lot"]) (c_parts : Cal P w K mg base cl "parts" ["wires", "lot", "knot"] 2 m_parts) (c_all_of : Cal P w K mg base cl "all_of" ["wires"] 1 m_all_of) : Cal P w K mg base cl "ways" ["wires", "lot"] 3 m_ways :=
  cal_pure D_ways sc_ways _ fun f z cdv A outer s H E hr =>
    (ss_cons (s_set (i := 2) sc_ways.nd rfl (by first | exact Or.inl rfl | exact Or.inr rfl) (r_lst true a_nil))
    (ss_cons (s_for (.nm 3) PassesOwn.never rfl (i_seq rfl (r_cal c_all_of (hr.mono (by omega)) (by rfl) (a_cons (r_v 0) a_nil))) (pg_name (i := 3) sc_ways.nd rfl (by first | exact Or.inl rfl | exact Or.inr rfl))
    (ss_cons (s_asg (.tp [(.nm 4), (.nm 5)]) (r_cal c_parts (hr.mono (by omega)) (by rfl) (a_cons (r_v 0) (a_cons (r_v 1) (a_cons (r_v 3) a_nil)))) (pg_tup rfl (pgs_cons (pg_name (i := 4) sc_ways.nd rfl (by first | exact Or.inl rfl | exact Or.inr rfl)) (pgs_cons (pg_name (i := 5) sc_ways.nd rfl (by first | exact Or.inl rfl | exact Or.inr rfl)) pgs_nil))))
      (ss_one (s_if (w_and (t_cmp (o_ne hr) k_ne (r_v 4) (r_tup a_nil) (nomark _)) (w_and1 (t_cmp (o_ne hr) k_ne (r_v 5) (r_tup a_nil) (nomark _)))).pt
      (ss_one (s_expr (r_app rfl (r_v 2) (a_cons (r_tup (a_cons (r_v 3) (a_cons (r_v 4) (a_cons (r_v 5) a_nil)))) a_nil))))
      ss_nil))))
    (ss_one (s_ret (r_v 2)))))
abbrev s_needed : Stmt := top 5
theorem sc_needed : FnScope ["wires", "lot", "known", "some", "rows", "knot", "heard", "other"] ["wires", "lot", "known"] (defScope s_needed) := ⟨rfl, rfl, rfl, by decide +kernel, rfl, by decide +kernel, by decide +kernel⟩
theorem cal_needed (T : Txt mg) (D_needed : Dfn K mg "needed" s_needed ["wires", "lot", "known"]) (c_ways : Cal P w K mg base cl "ways" ["wires", "lot"] 3 m_ways) : ∀ n : Nat, Cal P w K mg base cl "needed" ["wires", "lot", "known"] (3 + n + 1) (m_needed n)
  | 0 => cal_zero D_needed sc_needed
  | n + 1 => have ih_needed := cal_needed T D_needed c_ways n
    (cal_pure D_needed sc_needed _ fun f z cdv A outer s H E hr =>
    (ss_cons (s_if (t_cmp (o_notIn hr) k_notIn (r_v 1) (r_v 2) (by rfl))
    (ss_cons (s_set (i := 3) sc_needed.nd rfl (by first | exact Or.inl rfl | exact Or.inr rfl) (r_if (t_cmp (o_gt hr) k_gt (r_B c_len f_len (by rfl) T.b_len (by kernel_rfl) (a_cons (r_v 1) a_nil)) r_int (nomark _)) (r_cal c_ways (hr.mono (by omega)) (by rfl) (a_cons (r_v 0) (a_cons (r_v 1) a_nil))) (r_lst false a_nil)))
      (ss_cons (s_put hr (r_v 2) (r_v 1) r_int)
      (ss_one (s_if (t_cmp (o_ne hr) k_ne (r_v 3) (r_lst false a_nil) (nomark _))
      (ss_cons (s_setLc0 (i := 4) false [("knot", 5), ("heard", 6), ("other", 7)] (.tp [(.nm 5), (.nm 6), (.nm 7)]) rfl sc_needed.nd rfl rfl (sw_true rfl rfl (by kernel_rfl) (by kernel_rfl)) (i_seq rfl (r_v 3)) (blkOk_by (by kernel_rfl)) (by decide) (fun s H C cl fp => (pg_tup rfl (pgs_cons (pg_name (i := 5) sc_needed.nd rfl (by first | exact Or.inl rfl | exact Or.inr rfl)) (pgs_cons (pg_name (i := 6) sc_needed.nd rfl (by first | exact Or.inl rfl | exact Or.inr rfl)) (pgs_cons (pg_name (i := 7) sc_needed.nd rfl (by first | exact Or.inl rfl | exact Or.inr rfl)) pgs_nil))))) (fun z s H C cl fp => (r_B (c_max rfl hr) (f_best true) (by rfl) T.b_max (by kernel_rfl) (a_cons (r_cal ih_needed hr (by rfl) (a_cons (r_v 0) (a_cons (r_v 6) (a_cons (r_v 2) a_nil)))) (a_cons (r_cal ih_needed hr (by rfl) (a_cons (r_v 0) (a_cons (r_v 7) (a_cons (r_v 2) a_nil)))) a_nil)))))
        (ss_one (s_put hr (r_v 2) (r_v 1) (r_add false rfl r_int (r_B (c_min rfl hr) (f_best false) (by rfl) T.b_min (by kernel_rfl) (a_cons (r_v 4) a_nil))))))
      ss_nil))))
    ss_nil)
    (ss_one (s_ret (r_ix rfl hr (r_v 2) (r_v 1))))))
abbrev s_best_plan : Stmt := top 6
theorem sc_best_plan : FnScope ["wires", "lot", "known", "knot", "heard", "other"] ["wires", "lot", "known"] (defScope s_best_plan) := ⟨rfl, rfl, rfl, by decide +kernel, rfl, by decide +kernel, by decide +kernel⟩
theorem cal_best_plan (T : Txt mg) (D_best_plan : Dfn K mg "best_plan" s_best_plan ["wires", "lot", "known"]) (c_ways : Cal P w K mg base cl "ways" ["wires", "lot"] 3 m_ways) (c_needed : Cal P w K mg base cl "needed" ["wires", "lot", "known"] 16 (m_needed 12)) : ∀ n : Nat, Cal P w K mg base cl "best_plan" ["wires", "lot", "known"] (16 + n + 1) (m_best_plan n)
  | 0 => cal_zero D_best_plan sc_best_plan
  | n + 1 => have ih_best_plan := cal_best_plan T D_best_plan c_ways c_needed n
    (cal_pure D_best_plan sc_best_plan _ fun f z cdv A outer s H E hr =>
    (ss_cons (s_if (t_cmp (o_eq hr) k_eq (r_B c_len f_len (by rfl) T.b_len (by kernel_rfl) (a_cons (r_v 1) a_nil)) r_int (nomark _))
    (ss_one (s_ret (r_tup a_nil)))
    ss_nil)
    (ss_cons (s_for (.tp [(.nm 3), (.nm 4), (.nm 5)]) PassesOwn.never rfl (i_seq rfl (r_cal c_ways (hr.mono (by omega)) (by rfl) (a_cons (r_v 0) (a_cons (r_v 1) a_nil)))) (pg_tup rfl (pgs_cons (pg_name (i := 3) sc_best_plan.nd rfl (by first | exact Or.inl rfl | exact Or.inr rfl)) (pgs_cons (pg_name (i := 4) sc_best_plan.nd rfl (by first | exact Or.inl rfl | exact Or.inr rfl)) (pgs_cons (pg_name (i := 5) sc_best_plan.nd rfl (by first | exact Or.inl rfl | exact Or.inr rfl)) pgs_nil))))
    (ss_one (s_if (t_cmp (o_eq hr) k_eq (r_add false rfl r_int (r_B (c_max rfl hr) (f_best true) (by rfl) T.b_max (by kernel_rfl) (a_cons (r_cal c_needed (hr.mono (by omega)) (by rfl) (a_cons (r_v 0) (a_cons (r_v 4) (a_cons (r_v 2) a_nil)))) (a_cons (r_cal c_needed (hr.mono (by omega)) (by rfl) (a_cons (r_v 0) (a_cons (r_v 5) (a_cons (r_v 2) a_nil)))) a_nil)))) (r_cal c_needed (hr.mono (by omega)) (by rfl) (a_cons (r_v 0) (a_cons (r_v 1) (a_cons (r_v 2) a_nil)))) (nomark _))
      (ss_one (s_ret (r_tup (a_cons (r_v 3) (a_cons (r_cal ih_best_plan hr (by rfl) (a_cons (r_v 0) (a_cons (r_v 4) (a_cons (r_v 2) a_nil)))) (a_cons (r_cal ih_best_plan hr (by rfl) (a_cons (r_v 0) (a_cons (r_v 5) (a_cons (r_v 2) a_nil)))) a_nil))))))
      ss_nil)))
    (ss_one (s_ret (r_tup a_nil))))))
abbrev s_find_plan : Stmt := top 7
theorem sc_find_plan : FnScope ["wires", "known", "lot"] ["wires"] (defScope s_find_plan) := ⟨rfl, rfl, rfl, by decide +kernel, rfl, by decide +kernel, by decide +kernel⟩
theorem cal_find_plan (T : Txt mg) (D_find_plan : Dfn K mg "find_plan" s_find_plan ["wires"]) (c_all_of : Cal P w K mg base cl "all_of" ["wires"] 1 m_all_of) (c_needed : Cal P w K mg base cl "needed" ["wires", "lot", "known"] 16 (m_needed 12)) (c_best_plan : Cal P w K mg base cl "best_plan" ["wires", "lot", "known"] 29 (m_best_plan 12)) : Cal P w K mg base cl "find_plan" ["wires"] 30 m_find_plan :=
  cal_pure D_find_plan sc_find_plan _ fun f z cdv A outer s H E hr =>
    (ss_cons (s_set (i := 1) sc_find_plan.nd rfl (by first | exact Or.inl rfl | exact Or.inr rfl) r_dnewT)
    (ss_cons (s_set (i := 2) sc_find_plan.nd rfl (by first | exact Or.inl rfl | exact Or.inr rfl) (r_cal c_all_of (hr.mono (by omega)) (by rfl) (a_cons (r_v 0) a_nil)))
    (ss_one (s_ret (r_tup (a_cons (r_cal c_needed (hr.mono (by omega)) (by rfl) (a_cons (r_v 0) (a_cons (r_v 2) (a_cons (r_v 1) a_nil)))) (a_cons (r_cal c_best_plan (hr.mono (by omega)) (by rfl) (a_cons (r_v 0) (a_cons (r_v 2) (a_cons (r_v 1) a_nil)))) a_nil)))))))
abbrev s_law_draw : Stmt := top 9
theorem sc_law_draw : FnScope ["tape", "many", "prime", "cell", "found"] ["tape", "many"] (defScope s_law_draw) := ⟨rfl, rfl, rfl, by decide +kernel, rfl, by decide +kernel, by decide +kernel⟩
theorem cal_law_draw (T : Txt mg) (D_law_draw : Dfn K mg "_law_draw" s_law_draw ["tape", "many"]) : Cal P w K mg base cl "_law_draw" ["tape", "many"] 1 m_law_draw :=
  cal_pure D_law_draw sc_law_draw _ fun f z cdv A outer s H E hr =>
    (ss_cons (s_set (i := 2) sc_law_draw.nd rfl (by first | exact Or.inl rfl | exact Or.inr rfl) r_int)
    (ss_cons (s_if (t_cmp (o_lt hr) k_lt (r_ix rfl hr (r_v 0) r_int) (r_v 1) (nomark _))
    (ss_cons (s_set (i := 3) sc_law_draw.nd rfl (by first | exact Or.inl rfl | exact Or.inr rfl) r_int)
      (ss_cons (s_if (t_cmp (o_gt hr) k_gt (r_B c_len f_len (by rfl) T.b_len (by kernel_rfl) (a_cons (r_ix rfl hr (r_v 0) r_int) a_nil)) r_int (nomark _))
      (ss_one (s_set (i := 3) sc_law_draw.nd rfl (by first | exact Or.inl rfl | exact Or.inr rfl) (r_ix rfl hr (r_ix rfl hr (r_v 0) r_int) (r_mod (r_ix rfl hr (r_v 0) r_int) (r_B c_len f_len (by rfl) T.b_len (by kernel_rfl) (a_cons (r_ix rfl hr (r_v 0) r_int) a_nil))))))
      ss_nil)
      (ss_cons (s_if (w_or (t_cmp (o_ge hr) k_ge (r_ix rfl hr (r_v 0) r_int) (r_B c_len f_len (by rfl) T.b_len (by kernel_rfl) (a_cons (r_ix rfl hr (r_v 0) r_int) a_nil)) (nomark _)) (w_or1 (t_cmp (o_lt hr) k_lt (r_v 3) (r_pow r_int r_int) (nomark _)))).pt
      (ss_cons (s_set (i := 3) sc_law_draw.nd rfl (by first | exact Or.inl rfl | exact Or.inr rfl) (r_mod (r_add false rfl (r_v 3) (r_mulA false rfl r_int (r_ix rfl hr (r_v 0) r_int))) (r_v 2)))
        (ss_cons (s_set (i := 3) sc_law_draw.nd rfl (by first | exact Or.inl rfl | exact Or.inr rfl) (r_mod (r_add false rfl (r_add false rfl (r_mulA false rfl (r_v 3) (r_v 3)) (r_mulA false rfl r_int (r_v 3))) r_int) (r_v 2)))
        (ss_one (s_set (i := 3) sc_law_draw.nd rfl (by first | exact Or.inl rfl | exact Or.inr rfl) (r_mod (r_add false rfl (r_mulA false rfl (r_v 3) (r_v 3)) r_int) (r_v 2))))))
      ss_nil)
      (ss_cons (s_put hr (r_v 0) r_int (r_add false rfl (r_ix rfl hr (r_v 0) r_int) r_int))
      (ss_one (s_put hr (r_v 0) r_int (r_v 3)))))))
    ss_nil)
    (ss_cons (s_set (i := 4) sc_law_draw.nd rfl (by first | exact Or.inl rfl | exact Or.inr rfl) (r_mod (r_ix rfl hr (r_v 0) r_int) (r_v 1)))
    (ss_cons (s_put hr (r_v 0) r_int (r_div (r_ix rfl hr (r_v 0) r_int) (r_v 1)))
    (ss_one (s_ret (r_v 4)))))))
abbrev s_law_wires : Stmt := top 10
theorem sc_law_wires : FnScope ["tape", "most", "found", "k"] ["tape", "most"] (defScope s_law_wires) := ⟨rfl, rfl, rfl, by decide +kernel, rfl, by decide +kernel, by decide +kernel⟩
theorem cal_law_wires (T : Txt mg) (D_law_wires : Dfn K mg "_law_wires" s_law_wires ["tape", "most"]) (c_law_draw : Cal P w K mg base cl "_law_draw" ["tape", "many"] 1 m_law_draw) : Cal P w K mg base cl "_law_wires" ["tape", "most"] 2 m_law_wires :=
  cal_pure D_law_wires sc_law_wires _ fun f z cdv A outer s H E hr =>
    (ss_cons (s_set (i := 2) sc_law_wires.nd rfl (by first | exact Or.inl rfl | exact Or.inr rfl) (r_lst true a_nil))
    (ss_cons (s_for (.nm 3) PassesOwn.never rfl (i_rng1 (by rfl) T.b_range (a_cons (r_add false rfl r_int (r_cal c_law_draw (hr.mono (by omega)) (by rfl) (a_cons (r_v 0) (a_cons (r_v 1) a_nil)))) a_nil)) (pg_name (i := 3) sc_law_wires.nd rfl (by first | exact Or.inl rfl | exact Or.inr rfl))
    (ss_one (s_expr (r_app rfl (r_v 2) (a_cons (r_ix rfl hr (r_lst false (a_cons (r_cal c_law_draw (hr.mono (by omega)) (by rfl) (a_cons (r_v 0) (a_cons (r_add false rfl (r_v 3) r_int) a_nil))) (a_cons (r_v 3) (a_cons r_int a_nil)))) (r_cal c_law_draw (hr.mono (by omega)) (by rfl) (a_cons (r_v 0) (a_cons r_int a_nil)))) a_nil)))))
    (ss_one (s_ret (r_Ty call_tuple_of f_tuple (by rfl) T.b_tuple (by kernel_rfl) (a_cons (r_v 2) a_nil))))))
abbrev s_law : Stmt := top 11
theorem sc_law : FnScope ["script", "tape", "many", "row", "halving", "turn", "wires", "number", "more", "k"] ["script"] (defScope s_law) := ⟨rfl, rfl, rfl, by decide +kernel, rfl, by decide +kernel, by decide +kernel⟩
theorem fn_law (T : Txt mg) (c_find_plan : Cal P w K mg base cl "find_plan" ["wires"] 30 m_find_plan) (c_law_draw : Cal P w K mg base cl "_law_draw" ["tape", "many"] 1 m_law_draw) (c_law_wires : Cal P w K mg base cl "_law_wires" ["tape", "most"] 2 m_law_wires) {f : Addr} {fd : FuncData} (F : Fun K "law" "law" s_law f fd) : FnOk P w K mg base CX0 31 f fd ["script"] (spV K cl 1 (nxF m_law)) :=
  fn_pure F sc_law _ fun z cdv A outer s H E hr =>
    (ss_cons (s_set (i := 1) sc_law.nd rfl (by first | exact Or.inl rfl | exact Or.inr rfl) (r_lst true (a_cons (r_Ty call_list_of (f_list false) (by rfl) T.b_list (by kernel_rfl) (a_cons (r_v 0) a_nil)) (a_cons r_int (a_cons r_int a_nil)))))
    (ss_cons (s_for (.nm 2) PassesOwn.never rfl (i_rng2 (by rfl) T.b_range (a_cons r_int (a_cons r_int a_nil))) (pg_name (i := 2) sc_law.nd rfl (by first | exact Or.inl rfl | exact Or.inr rfl))
    (ss_cons (s_set (i := 3) sc_law.nd rfl (by first | exact Or.inl rfl | exact Or.inr rfl) (r_tupRg1 rfl (by rfl) T.b_tuple (by rfl) T.b_range (r_v 2)))
      (ss_cons (s_set (i := 4) sc_law.nd rfl (by first | exact Or.inl rfl | exact Or.inr rfl) (r_B c_len f_len (by rfl) T.b_len (by kernel_rfl) (a_cons (r_lc1 false [("k", 9)] (.nm 9) rfl sc_law.nd (i_rng1 (by rfl) T.b_range (a_cons r_int a_nil)) (blkOk_by (by kernel_rfl)) (by decide) (fun s H C cl fp => (pg_name (i := 9) sc_law.nd rfl (by first | exact Or.inl rfl | exact Or.inr rfl))) (fun z s H C cl fp => (t_cmp (o_lt hr) k_lt (r_shl r_int (r_v 9)) (r_v 2) (nomark _))) (fun z s H C cl fp => (r_v 9))) a_nil)))
      (ss_one (s_if (w_or (t_cmp (o_ne hr) k_ne (r_ix rfl hr (r_cal c_find_plan (hr.mono (by omega)) (by rfl) (a_cons (r_v 3) a_nil)) r_int) (r_v 4) (nomark _)) (w_or1 (t_cmp (o_ne hr) k_ne (r_ix rfl hr (r_cal c_find_plan (hr.mono (by omega)) (by rfl) (a_cons (r_mulA false rfl (r_tup (a_cons r_int a_nil)) (r_v 2)) a_nil)) r_int) (r_sub (r_v 2) r_int) (nomark _)))).pt
      (ss_one (s_ret r_bl))
      ss_nil)))))
    (ss_cons (s_for (.nm 5) PassesOwn.never rfl (i_rng1 (by rfl) T.b_range (a_cons r_int a_nil)) (pg_name (i := 5) sc_law.nd rfl (by first | exact Or.inl rfl | exact Or.inr rfl))
    (ss_cons (s_set (i := 6) sc_law.nd rfl (by first | exact Or.inl rfl | exact Or.inr rfl) (r_cal c_law_wires (hr.mono (by omega)) (by rfl) (a_cons (r_v 1) (a_cons r_int a_nil))))
      (ss_cons (s_set (i := 7) sc_law.nd rfl (by first | exact Or.inl rfl | exact Or.inr rfl) (r_ix rfl hr (r_cal c_find_plan (hr.mono (by omega)) (by rfl) (a_cons (r_v 6) a_nil)) r_int))
      (ss_cons (s_set (i := 8) sc_law.nd rfl (by first | exact Or.inl rfl | exact Or.inr rfl) (r_add false rfl (r_v 6) (r_tup (a_cons (r_cal c_law_draw (hr.mono (by omega)) (by rfl) (a_cons (r_v 1) (a_cons (r_add false rfl (r_B c_len f_len (by rfl) T.b_len (by kernel_rfl) (a_cons (r_v 6) a_nil)) r_int) a_nil))) a_nil))))
      (ss_cons (s_if (w_or (t_cmp (o_lt hr) k_lt (r_ix rfl hr (r_cal c_find_plan (hr.mono (by omega)) (by rfl) (a_cons (r_v 8) a_nil)) r_int) (r_v 7) (nomark _)) (w_or1 (t_cmp (o_gt hr) k_gt (r_ix rfl hr (r_cal c_find_plan (hr.mono (by omega)) (by rfl) (a_cons (r_v 8) a_nil)) r_int) (r_add false rfl (r_v 7) r_int) (nomark _)))).pt
      (ss_one (s_ret r_bl))
      ss_nil)
      (ss_one (s_if (w_or (t_cmp (o_lt hr) k_lt (r_shl r_int (r_v 7)) (r_B c_len f_len (by rfl) T.b_len (by kernel_rfl) (a_cons (r_v 6) a_nil)) (nomark _)) (w_or1 (t_cmp (o_gt hr) k_gt (r_v 7) (r_sub (r_B c_len f_len (by rfl) T.b_len (by kernel_rfl) (a_cons (r_v 6) a_nil)) r_int) (nomark _)))).pt
      (ss_one (s_ret r_bl))
      ss_nil)))))))
    (ss_one (s_ret r_bl)))))
end
theorem all_mk {l : PySem.W.OpenLaw} {w : World} {K : PySem.W.Frag} {cl : Str → Addr} {h : Heap} {mg : Str → Option Value} {fa : Addr} {f0 : Addr} {od0 an0 : Option Addr} {sl0 : Array (Option Value)} {oc0 kV0 dc0 pm0 cd0 ct0 : Value} {f1 : Addr} {od1 an1 : Option Addr} {sl1 : Array (Option Value)} {oc1 kV1 dc1 pm1 cd1 ct1 : Value} {f2 : Addr} {od2 an2 : Option Addr} {sl2 : Array (Option Value)} {oc2 kV2 dc2 pm2 cd2 ct2 : Value} {f3 : Addr} {od3 an3 : Option Addr} {sl3 : Array (Option Value)} {oc3 kV3 dc3 pm3 cd3 ct3 : Value} {f4 : Addr} {od4 an4 : Option Addr} {sl4 : Array (Option Value)} {oc4 kV4 dc4 pm4 cd4 ct4 : Value} {f5 : Addr} {od5 an5 : Option Addr} {sl5 : Array (Option Value)} {oc5 kV5 dc5 pm5 cd5 ct5 : Value} {f6 : Addr} {od6 an6 : Option Addr} {sl6 : Array (Option Value)} {oc6 kV6 dc6 pm6 cd6 ct6 : Value} {f7 : Addr} {od7 an7 : Option Addr} {sl7 : Array (Option Value)} {oc7 kV7 dc7 pm7 cd7 ct7 : Value} {f8 : Addr} {od8 an8 : Option Addr} {sl8 : Array (Option Value)} {oc8 kV8 dc8 pm8 cd8 ct8 : Value} {f9 : Addr} {od9 an9 : Option Addr} {sl9 : Array (Option Value)} {oc9 kV9 dc9 pm9 cd9 ct9 : Value} (X : K.In h) (G : h.Ns mainGlobals mg) (hfa : mg "law" = some (.ref fa))
    (a0 : PySem.W.nsIn K mainGlobals "road" = some (some (.ref f0))) (l0 : K.lookup f0 = some ⟨oc0, od0, .func (PySem.W.fnOf "road" "road" (defArgs s_road) (defBody s_road) (defScope s_road) .none kV0 dc0 pm0 an0 cd0 ct0), sl0⟩) (c0 : PySem.W.codeIn K cd0 "road" = true) (k0 : PySem.W.keepIn K (.ref f0) = true)
    (a1 : PySem.W.nsIn K mainGlobals "parts" = some (some (.ref f1))) (l1 : K.lookup f1 = some ⟨oc1, od1, .func (PySem.W.fnOf "parts" "parts" (defArgs s_parts) (defBody s_parts) (defScope s_parts) .none kV1 dc1 pm1 an1 cd1 ct1), sl1⟩) (c1 : PySem.W.codeIn K cd1 "parts" = true) (k1 : PySem.W.keepIn K (.ref f1) = true)
    (a2 : PySem.W.nsIn K mainGlobals "all_of" = some (some (.ref f2))) (l2 : K.lookup f2 = some ⟨oc2, od2, .func (PySem.W.fnOf "all_of" "all_of" (defArgs s_all_of) (defBody s_all_of) (defScope s_all_of) .none kV2 dc2 pm2 an2 cd2 ct2), sl2⟩) (c2 : PySem.W.codeIn K cd2 "all_of" = true) (k2 : PySem.W.keepIn K (.ref f2) = true)
    (a3 : PySem.W.nsIn K mainGlobals "ways" = some (some (.ref f3))) (l3 : K.lookup f3 = some ⟨oc3, od3, .func (PySem.W.fnOf "ways" "ways" (defArgs s_ways) (defBody s_ways) (defScope s_ways) .none kV3 dc3 pm3 an3 cd3 ct3), sl3⟩) (c3 : PySem.W.codeIn K cd3 "ways" = true) (k3 : PySem.W.keepIn K (.ref f3) = true)
    (a4 : PySem.W.nsIn K mainGlobals "needed" = some (some (.ref f4))) (l4 : K.lookup f4 = some ⟨oc4, od4, .func (PySem.W.fnOf "needed" "needed" (defArgs s_needed) (defBody s_needed) (defScope s_needed) .none kV4 dc4 pm4 an4 cd4 ct4), sl4⟩) (c4 : PySem.W.codeIn K cd4 "needed" = true) (k4 : PySem.W.keepIn K (.ref f4) = true)
    (a5 : PySem.W.nsIn K mainGlobals "best_plan" = some (some (.ref f5))) (l5 : K.lookup f5 = some ⟨oc5, od5, .func (PySem.W.fnOf "best_plan" "best_plan" (defArgs s_best_plan) (defBody s_best_plan) (defScope s_best_plan) .none kV5 dc5 pm5 an5 cd5 ct5), sl5⟩) (c5 : PySem.W.codeIn K cd5 "best_plan" = true) (k5 : PySem.W.keepIn K (.ref f5) = true)
    (a6 : PySem.W.nsIn K mainGlobals "find_plan" = some (some (.ref f6))) (l6 : K.lookup f6 = some ⟨oc6, od6, .func (PySem.W.fnOf "find_plan" "find_plan" (defArgs s_find_plan) (defBody s_find_plan) (defScope s_find_plan) .none kV6 dc6 pm6 an6 cd6 ct6), sl6⟩) (c6 : PySem.W.codeIn K cd6 "find_plan" = true) (k6 : PySem.W.keepIn K (.ref f6) = true)
    (a7 : PySem.W.nsIn K mainGlobals "_law_draw" = some (some (.ref f7))) (l7 : K.lookup f7 = some ⟨oc7, od7, .func (PySem.W.fnOf "_law_draw" "_law_draw" (defArgs s_law_draw) (defBody s_law_draw) (defScope s_law_draw) .none kV7 dc7 pm7 an7 cd7 ct7), sl7⟩) (c7 : PySem.W.codeIn K cd7 "_law_draw" = true) (k7 : PySem.W.keepIn K (.ref f7) = true)
    (a8 : PySem.W.nsIn K mainGlobals "_law_wires" = some (some (.ref f8))) (l8 : K.lookup f8 = some ⟨oc8, od8, .func (PySem.W.fnOf "_law_wires" "_law_wires" (defArgs s_law_wires) (defBody s_law_wires) (defScope s_law_wires) .none kV8 dc8 pm8 an8 cd8 ct8), sl8⟩) (c8 : PySem.W.codeIn K cd8 "_law_wires" = true) (k8 : PySem.W.keepIn K (.ref f8) = true)
    (a9 : PySem.W.nsIn K mainGlobals "law" = some (some (.ref f9))) (l9 : K.lookup f9 = some ⟨oc9, od9, .func (PySem.W.fnOf "law" "law" (defArgs s_law) (defBody s_law) (defScope s_law) .none kV9 dc9 pm9 an9 cd9 ct9), sl9⟩) (c9 : PySem.W.codeIn K cd9 "law" = true) (k9 : PySem.W.keepIn K (.ref f9) = true)
    (z_len : PySem.W.nsIn K mainGlobals "len" = some none)
    (z_list : PySem.W.nsIn K mainGlobals "list" = some none)
    (z_max : PySem.W.nsIn K mainGlobals "max" = some none)
    (z_min : PySem.W.nsIn K mainGlobals "min" = some none)
    (z_range : PySem.W.nsIn K mainGlobals "range" = some none)
    (z_tuple : PySem.W.nsIn K mainGlobals "tuple" = some none) :
    ∃ fd : FuncData, (∀ (s : Shared) (v : Value), BindsTo s fd ⟨[v], []⟩ [("script", v)]) ∧ ∀ base : Heap, K.In base → base.Ns mainGlobals mg → FnOk l.prog w K mg base CX0 31 fa fd ["script"] (spV K cl 1 (nxF m_law)) := by
  have e := hfa.symm.trans (PySem.W.mg_of X G a9)
  cases e
  have T : Txt mg := ⟨PySem.W.mg_none_of X G z_len, PySem.W.mg_none_of X G z_list, PySem.W.mg_none_of X G z_max, PySem.W.mg_none_of X G z_min, PySem.W.mg_none_of X G z_range, PySem.W.mg_none_of X G z_tuple⟩
  have F0 := fun_mk (st := s_road) l0 c0 k0
  have D_road : Dfn K mg "road" s_road ["wires", "knot"] := ⟨f0, _, F0, PySem.W.mg_of X G a0, F0.binds fun _ _ _ _ _ _ us hl => match us, hl with | [_, _], _ => rfl⟩
  have F1 := fun_mk (st := s_parts) l1 c1 k1
  have D_parts : Dfn K mg "parts" s_parts ["wires", "lot", "knot"] := ⟨f1, _, F1, PySem.W.mg_of X G a1, F1.binds fun _ _ _ _ _ _ us hl => match us, hl with | [_, _, _], _ => rfl⟩
  have F2 := fun_mk (st := s_all_of) l2 c2 k2
  have D_all_of : Dfn K mg "all_of" s_all_of ["wires"] := ⟨f2, _, F2, PySem.W.mg_of X G a2, F2.binds fun _ _ _ _ _ _ us hl => match us, hl with | [_], _ => rfl⟩
  have F3 := fun_mk (st := s_ways) l3 c3 k3
  have D_ways : Dfn K mg "ways" s_ways ["wires", "lot"] := ⟨f3, _, F3, PySem.W.mg_of X G a3, F3.binds fun _ _ _ _ _ _ us hl => match us, hl with | [_, _], _ => rfl⟩
  have F4 := fun_mk (st := s_needed) l4 c4 k4
  have D_needed : Dfn K mg "needed" s_needed ["wires", "lot", "known"] := ⟨f4, _, F4, PySem.W.mg_of X G a4, F4.binds fun _ _ _ _ _ _ us hl => match us, hl with | [_, _, _], _ => rfl⟩
  have F5 := fun_mk (st := s_best_plan) l5 c5 k5
  have D_best_plan : Dfn K mg "best_plan" s_best_plan ["wires", "lot", "known"] := ⟨f5, _, F5, PySem.W.mg_of X G a5, F5.binds fun _ _ _ _ _ _ us hl => match us, hl with | [_, _, _], _ => rfl⟩
  have F6 := fun_mk (st := s_find_plan) l6 c6 k6
  have D_find_plan : Dfn K mg "find_plan" s_find_plan ["wires"] := ⟨f6, _, F6, PySem.W.mg_of X G a6, F6.binds fun _ _ _ _ _ _ us hl => match us, hl with | [_], _ => rfl⟩
  have F7 := fun_mk (st := s_law_draw) l7 c7 k7
  have D_law_draw : Dfn K mg "_law_draw" s_law_draw ["tape", "many"] := ⟨f7, _, F7, PySem.W.mg_of X G a7, F7.binds fun _ _ _ _ _ _ us hl => match us, hl with | [_, _], _ => rfl⟩
  have F8 := fun_mk (st := s_law_wires) l8 c8 k8
  have D_law_wires : Dfn K mg "_law_wires" s_law_wires ["tape", "most"] := ⟨f8, _, F8, PySem.W.mg_of X G a8, F8.binds fun _ _ _ _ _ _ us hl => match us, hl with | [_, _], _ => rfl⟩
  refine ⟨PySem.W.fnOf "law" "law" (defArgs s_law) (defBody s_law) (defScope s_law) .none kV9 dc9 pm9 an9 cd9 ct9, fun s v => .of_eq rfl, fun base _ _ => ?_⟩
  have c_road := cal_road (P := l.prog) (w := w) (base := base) (cl := cl) T D_road
  have c_parts := cal_parts (P := l.prog) (w := w) (base := base) (cl := cl) T D_parts c_road
  have c_all_of := cal_all_of (P := l.prog) (w := w) (base := base) (cl := cl) T D_all_of
  have c_ways := cal_ways (P := l.prog) (w := w) (base := base) (cl := cl) T D_ways c_parts c_all_of
  have c_needed := cal_needed (P := l.prog) (w := w) (base := base) (cl := cl) T D_needed c_ways 12
  have c_best_plan := cal_best_plan (P := l.prog) (w := w) (base := base) (cl := cl) T D_best_plan c_ways c_needed 12
  have c_find_plan := cal_find_plan (P := l.prog) (w := w) (base := base) (cl := cl) T D_find_plan c_all_of c_needed c_best_plan
  have c_law_draw := cal_law_draw (P := l.prog) (w := w) (base := base) (cl := cl) T D_law_draw
  have c_law_wires := cal_law_wires (P := l.prog) (w := w) (base := base) (cl := cl) T D_law_wires c_law_draw
  exact fn_law T c_find_plan c_law_draw c_law_wires (fun_mk (st := s_law) l9 c9 k9)
end Lk26

set_option Elab.async false
set_option linter.all false
set_option maxRecDepth 100000
namespace Lk26
open PySem L2 VM
abbrev iW (l : List Nat) : List W := l.map fun k : Nat => W.int ((k : Nat) : Int)
abbrev tI (l : List Nat) : W := .tup (iW l)
def Good (ws : List Nat) : Prop := ws.length ≤ 8 ∧ ∀ (i p : Nat), ws[i]? = some p → p ≤ i
def road (ws : List Nat) : Nat → Nat → List Nat
  | 0, _ => []
  | _ + 1, 0 => []
  | f + 1, k + 1 => (k + 1) :: road ws f ((ws[k]?).getD 0)
theorem sz (n : Nat) (h : n ≤ 100) : n < sizeLine := by rw [sizeLine_eq]; omega
theorem road_ok {ws : List Nat} {k : Nat} {st : Store} (hg : Good ws) (hk : k ≤ ws.length) : m_road [tI ws, .int k] st = .ok (.lst (iW (road ws 9 k))) st := by
  refine fun_cell (t := []) rfl (seq_nx (set_ok (w := .ref st.length) (st1 := st ++ [.lst []]) (by simp)) (seq_ex (P := fun ls1 st1 => ∃ k', ls1 = [some (tI ws), some (.int k'), some (.ref st.length)] ∧ st1 = st ++ [.lst (iW (road ws 9 k))])
    (while_nx (fun m ls1 st1 => ∃ k' acc, k' ≤ m ∧ k' ≤ ws.length ∧ acc.length + k' ≤ 9 ∧ ls1 = [some (tI ws), some (.int (k' : Nat)), some (.ref st.length)] ∧ st1 = st ++ [.lst (iW acc)] ∧ road ws 9 k = acc ++ road ws (9 - acc.length) k') _ ?_ 1000 9 _ _ ?_ (by decide)) ?_)) ?_
  · rintro m ls1 st1 ⟨k', acc, hm, hl, ha, rfl, rfl, e⟩
    by_cases h0 : k' = 0
    · subst h0
      refine .inl ⟨by simp, _, rfl, ?_⟩
      cases q : 9 - acc.length with
      | zero => rw [q] at e; simp [road] at e; rw [e]
      | succ n => rw [q] at e; simp [road] at e; rw [e]
    · refine .inr ⟨by simp; try omega, ?_⟩
      obtain ⟨j, rfl⟩ : ∃ j, k' = j + 1 := ⟨k' - 1, by omega⟩
      obtain ⟨p, hp⟩ : ∃ p, ws[j]? = some p := ⟨ws[j]'(by omega), by simp⟩
      have hpj := hg.2 j p hp
      refine nx_seq (P := fun ls1 st1 => ls1 = [some (tI ws), some (.int ((j + 1 : Nat) : Int)), some (.ref st.length)] ∧ st1 = st ++ [.lst (iW (acc ++ [j + 1]))]) (nx_of (expr_ok (ml_ok rfl (by simp [asL]) rfl (app_ok (xs := iW acc) (by simp) (sz _ (by simp; omega))))) ⟨rfl, by simp⟩) ?_
      rintro _ _ ⟨rfl, rfl⟩
      refine nx_of (set_ok (w := .int p) (st1 := st ++ [.lst (iW (acc ++ [j + 1]))]) ?_) ⟨p, by omega, p, acc ++ [j + 1], Nat.le_refl _, by omega, by simp; omega, rfl, rfl, ?_⟩
      · have := ix_tup (xs := iW ws) (k := j) (w := .int p) (st := st ++ [.lst (iW (acc ++ [j + 1]))]) (by simp [hp])
        simpa using this
      · rw [e]
        have : 9 - acc.length = (9 - (acc ++ [j + 1]).length) + 1 := by simp; omega
        rw [this]
        simp [road, hp]
  · exact ⟨k, [], by have := hg.1; omega, hk, by have := hg.1; simp; omega, rfl, by simp, by simp⟩
  · rintro ls1 st1 ⟨k', rfl, rfl⟩
    exact ret_ok rfl
  · exact lows_map fun _ _ => rfl
abbrev onR (ws : List Nat) (k x : Nat) : Bool := (road ws 9 k).contains x
def cutH (ws lot : List Nat) (k : Nat) : List Nat := lot.filter fun x => !onR ws k x
def cutO (ws lot : List Nat) (k : Nat) : List Nat := lot.filter fun x => onR ws k x
theorem mem_cast {l : List Nat} {x : Nat} : (decide ((x : Int) ∈ l.map fun k : Nat => (k : Int))) = l.contains x := by
  rw [Bool.eq_iff_iff]
  simp only [decide_eq_true_eq, List.mem_map, List.contains_iff_mem]
  exact ⟨fun ⟨a, h, e⟩ => by (have : a = x := by omega); exact this ▸ h, fun h => ⟨x, h, rfl⟩⟩
@[simp] theorem low_iW {n : Nat} {l : List Nat} : lows n (iW l) = true := lows_map fun _ _ => rfl
theorem filt {p : W → Bool} {q : Nat → Bool} (h : ∀ x : Nat, p (.int x) = q x) (l : List Nat) : ((iW l).filter p).map id = iW (l.filter q) := by
  rw [List.map_id, List.filter_map]
  congr 1
  apply List.filter_congr
  intro x _
  exact h x
theorem parts_ok {ws lot : List Nat} {k : Nat} {st : Store} (hg : Good ws) (hk : k ≤ ws.length) (hl : lot.length ≤ 10) : m_parts [tI ws, tI lot, .int k] st = .ok (.tup [tI (cutH ws lot k), tI (cutO ws lot k)]) st := by
  have hr := nxF_ok (road_ok (st := st) hg hk)
  refine fun_ok0 rfl (seq_nx (set_ok (w := .lst (iW (road ws 9 k))) (st1 := st) (by simpa [startL, List.replicate] using hr)) (ret_ok ?_)) ?_
  · have hin : ∀ (x : Nat) (st : Store), inM (.int x) (.lst (iW (road ws 9 k))) st = .ok (.bl (onR ws k x)) st ∧ notInM (.int x) (.lst (iW (road ws 9 k))) st = .ok (.bl (!onR ws k x)) st := fun x st => by
      have := in_ints (st := st) (a := x) (b := .lst (iW (road ws 9 k))) (ns := (road ws 9 k).map fun k : Nat => (k : Int)) (by simp [iW])
      rw [mem_cast] at this
      exact this
    have c1 : lcM false [4] (.nm 4) (seqS (vM 1)) (tstM (opM notInM (vM 4) (vM 3))) (vM 4) [some (tI ws), some (tI lot), some (.int k), some (.lst (iW (road ws 9 k))), none] st = .ok (.lst (iW (cutH ws lot k))) st := by
      refine lcM_ok (st1 := st) (ws := iW lot) (gd := none) rfl ?_
      have := lc_pure (tg := .nm 4) (gd := none) (st := st) (tt := tstM (opM notInM (vM 4) (vM 3))) (te := vM 4) (ls := [some (tI ws), some (tI lot), some (.int k), some (.lst (iW (road ws 9 k))), none]) rfl
        (fun w => match w with | .int i => !onR ws k i.toNat | _ => false) id (iW lot) fun w hw => by
          obtain ⟨x, hx, rfl⟩ := List.mem_map.mp hw
          exact ⟨_, rfl, by simp [(hin x st).2], fun _ => rfl⟩
      rw [filt (q := fun x => !onR ws k x) fun x => by simp] at this
      exact this
    have c2 : lcM false [4] (.nm 4) (seqS (vM 1)) (tstM (opM inM (vM 4) (vM 3))) (vM 4) [some (tI ws), some (tI lot), some (.int k), some (.lst (iW (road ws 9 k))), none] st = .ok (.lst (iW (cutO ws lot k))) st := by
      refine lcM_ok (st1 := st) (ws := iW lot) (gd := none) rfl ?_
      have := lc_pure (tg := .nm 4) (gd := none) (st := st) (tt := tstM (opM inM (vM 4) (vM 3))) (te := vM 4) (ls := [some (tI ws), some (tI lot), some (.int k), some (.lst (iW (road ws 9 k))), none]) rfl
        (fun w => match w with | .int i => onR ws k i.toNat | _ => false) id (iW lot) fun w hw => by
          obtain ⟨x, hx, rfl⟩ := List.mem_map.mp hw
          exact ⟨_, rfl, by simp [(hin x st).1], fun _ => rfl⟩
      rw [filt (q := fun x => onR ws k x) fun x => by simp] at this
      exact this
    have e1 : ∀ l : List Nat, tupleF [.lst (iW l)] st = .ok (tI l) st := fun l => rfl
    show tupM _ _ st = _
    simp [startL, List.replicate, c1, c2, e1]
  · simp
def allOf (ws : List Nat) : List Nat := (List.range ws.length).map (· + 1)
theorem ints_allOf (ws : List Nat) : intsW 1 ws.length = iW (allOf ws) := by
  unfold intsW allOf iW
  rw [List.map_map]
  apply List.map_congr_left
  intro x _
  simp only [Function.comp]
  congr 1
  omega
theorem allOf_ok {ws : List Nat} {st : Store} (hg : Good ws) : m_all_of [tI ws] st = .ok (tI (allOf ws)) st := by
  refine fun_ok0 rfl (ret_ok ?_) ?_
  · have h8 := hg.1
    have hr : rgOk2 1 ((ws.length : Int) + 1) = true := rgOk2_of (by omega) (by omega) (by omega) (by omega)
    have e2 : ((ws.length : Int) + 1 - 1).toNat = ws.length := by omega
    refine (tupRg2_ok (st1 := st) (i := 1) (j := (ws.length : Int) + 1) (by simp [startL]) hr).trans ?_
    rw [e2, ints_allOf]
  · simp
theorem iW_eq (l : List Nat) : iW l = (l.map fun k : Nat => (k : Int)).map W.int := by simp [iW]
theorem ne_nil {l : List Nat} {st : Store} : neM (tI l) (.tup []) st = .ok (.bl (!decide (l = []))) st := by
  have := (eq_tints (ns := l.map fun k : Nat => (k : Int)) (ms := []) (st := st)).2
  rw [← iW_eq] at this
  simpa using this
abbrev Way := Nat × List Nat × List Nat
def wEnc (t : Way) : W := .tup [.int (t.1 : Nat), tI t.2.1, tI t.2.2]
def way1 (ws lot : List Nat) (k : Nat) : Option Way := if cutH ws lot k = [] ∨ cutO ws lot k = [] then none else some (k, cutH ws lot k, cutO ws lot k)
def ways (ws lot : List Nat) : List Way := (allOf ws).filterMap (way1 ws lot)
theorem ways_ok {ws lot : List Nat} {st : Store} (hg : Good ws) (hl : lot.length ≤ 10) : m_ways [tI ws, tI lot] st = .ok (.lst ((ways ws lot).map wEnc)) st := by
  have h8 := hg.1
  refine fun_cell (t := []) rfl (seq_nx (set_ok (w := .ref st.length) (st1 := st ++ [.lst []]) (by simp)) (seq_ex (for_nx (gd := none) (ws := iW (allOf ws)) (st1 := st ++ [.lst []]) ?_
    (fun j ls1 st1 => ∃ a b c, ls1 = [some (tI ws), some (tI lot), some (.ref st.length), a, b, c] ∧ st1 = st ++ [.lst ((((allOf ws).take j).filterMap (way1 ws lot)).map wEnc)]) ?_ (fun _ _ _ _ => rfl) ?_) ?_)) ?_
  · simp [seqS, startL, List.replicate, nxF_ok (allOf_ok (st := st ++ [.lst []]) hg)]
  · exact ⟨_, _, _, rfl, rfl⟩
  · rintro j ls1 st1 w ⟨a, b, c, rfl, rfl⟩ hw
    obtain ⟨k, hk, rfl⟩ : ∃ k, (allOf ws)[j]? = some k ∧ W.int (k : Nat) = w := by
      rw [List.getElem?_map] at hw
      cases q : (allOf ws)[j]? with
      | none => rw [q] at hw; cases hw
      | some k => rw [q] at hw; exact ⟨k, rfl, by simpa using hw⟩
    have hj := (List.getElem?_eq_some_iff.mp hk).1
    have hkl : k ≤ ws.length := by
      have := List.mem_of_getElem? hk
      simp [allOf] at this
      omega
    refine ⟨_, rfl, ?_⟩
    have hp := nxF_ok (parts_ok (st := st ++ [.lst ((((allOf ws).take j).filterMap (way1 ws lot)).map wEnc)]) hg hkl hl)
    have et : (allOf ws).take (j + 1) = (allOf ws).take j ++ [k] := by rw [List.take_succ, hk]; rfl
    have hz : ((((allOf ws).take j).filterMap (way1 ws lot)).map wEnc).length < sizeLine := sizeLine_of (by
      rw [List.length_map]
      have := List.length_filterMap_le (way1 ws lot) ((allOf ws).take j)
      have : ((allOf ws).take j).length ≤ (allOf ws).length := by rw [List.length_take]; omega
      have : (allOf ws).length = ws.length := by simp [allOf]
      omega)
    refine nx_seq (P := fun ls1 st1 => ls1 = [some (tI ws), some (tI lot), some (.ref st.length), some (.int k), some (tI (cutH ws lot k)), some (tI (cutO ws lot k))] ∧ st1 = st ++ [.lst ((((allOf ws).take j).filterMap (way1 ws lot)).map wEnc)]) (nx_of (asg_ok (w := .tup [tI (cutH ws lot k), tI (cutO ws lot k)]) (st1 := st ++ [.lst ((((allOf ws).take j).filterMap (way1 ws lot)).map wEnc)]) (by simpa using hp) rfl) ⟨rfl, rfl⟩) ?_
    rintro _ _ ⟨rfl, rfl⟩
    by_cases h : cutH ws lot k = [] ∨ cutO ws lot k = []
    · refine nx_of (if_f (st1 := st ++ [.lst ((((allOf ws).take j).filterMap (way1 ws lot)).map wEnc)]) ?_ rfl) ⟨_, _, _, rfl, ?_⟩
      · rcases h with h | h <;> by_cases h2 : cutH ws lot k = [] <;> simp [ne_nil, h, h2]
      · rw [et, List.filterMap_append]
        simp [way1, h]
    · have h1 : cutH ws lot k ≠ [] := fun q => h (.inl q)
      have h2 : cutO ws lot k ≠ [] := fun q => h (.inr q)
      refine nx_of (if_t (st1 := st ++ [.lst ((((allOf ws).take j).filterMap (way1 ws lot)).map wEnc)]) (by simp [ne_nil, h1, h2]) (expr_ok (ml_ok rfl (by simp [asL]) (st2 := st ++ [.lst ((((allOf ws).take j).filterMap (way1 ws lot)).map wEnc)]) (ws := [wEnc (k, cutH ws lot k, cutO ws lot k)]) (by simp [wEnc]) (app_ok (by simp) hz)))) ⟨_, _, _, rfl, ?_⟩
      rw [et, List.filterMap_append]
      simp [way1, h1, h2]
  · rintro ls1 st1 ⟨a, b, c, rfl, rfl⟩
    refine ret_ok ?_
    simp [ways]
    try rw [List.take_of_length_le (by simp)]
  · exact lows_map fun t _ => by simp [wEnc]
/-! ### the number -/
def cost (f : List Nat → Nat) (t : Way) : Nat := max (f t.2.1) (f t.2.2)
def best (f : List Nat → Nat) : List Way → Nat
  | [] => 0
  | x :: xs => 1 + (xs.map (cost f)).foldl min (cost f x)
def need (ws : List Nat) : Nat → List Nat → Nat
  | 0, _ => 0
  | f + 1, lot => if lot.length ≤ 1 then 0 else best (need ws f) (ways ws lot)
def nd (ws lot : List Nat) : Nat := need ws lot.length lot
theorem best_congr {f g : List Nat → Nat} {l : List Way} (h : ∀ t ∈ l, f t.2.1 = g t.2.1 ∧ f t.2.2 = g t.2.2) : best f l = best g l := by
  have hc : ∀ t ∈ l, cost f t = cost g t := fun t ht => by unfold cost; rw [(h t ht).1, (h t ht).2]
  cases l with
  | nil => rfl
  | cons x xs =>
    show 1 + (xs.map (cost f)).foldl min (cost f x) = 1 + (xs.map (cost g)).foldl min (cost g x)
    rw [hc x (by simp), List.map_congr_left fun t ht => hc t (by simp [ht])]
theorem cut_len (ws lot : List Nat) (k : Nat) : (cutH ws lot k).length + (cutO ws lot k).length = lot.length := by
  unfold cutH cutO
  induction lot with
  | nil => rfl
  | cons x r ih =>
    rw [List.filter_cons, List.filter_cons]
    cases h : onR ws k x <;> simp only [Bool.not_true, Bool.not_false, Bool.false_eq_true, if_true, if_false, List.length_cons] <;> omega
theorem mem_ways {ws lot : List Nat} {t : Way} (h : t ∈ ways ws lot) : ∃ k, k ∈ allOf ws ∧ t = (k, cutH ws lot k, cutO ws lot k) ∧ cutH ws lot k ≠ [] ∧ cutO ws lot k ≠ [] := by
  obtain ⟨k, hk, e⟩ := List.mem_filterMap.mp h
  unfold way1 at e
  split at e
  · cases e
  · rename_i hn
    cases e
    exact ⟨k, hk, rfl, fun q => hn (.inl q), fun q => hn (.inr q)⟩
theorem ways_lt {ws lot : List Nat} {t : Way} (h : t ∈ ways ws lot) : t.2.1.length < lot.length ∧ t.2.2.length < lot.length ∧ 0 < t.2.1.length ∧ 0 < t.2.2.length ∧ t.2.1.Sublist lot ∧ t.2.2.Sublist lot := by
  obtain ⟨k, _, rfl, h1, h2⟩ := mem_ways h
  have := cut_len ws lot k
  have := List.length_pos_iff.mpr h1
  have := List.length_pos_iff.mpr h2
  exact ⟨by simp; omega, by simp; omega, by simp; omega, by simp; omega, List.filter_sublist, List.filter_sublist⟩
theorem need_st (ws : List Nat) : ∀ (f : Nat) (lot : List Nat), lot.length ≤ f → need ws f lot = nd ws lot := by
  suffices h : ∀ (n f g : Nat) (lot : List Nat), lot.length ≤ n → lot.length ≤ f → lot.length ≤ g → need ws f lot = need ws g lot from fun f lot hl => h _ _ _ lot (Nat.le_refl _) hl (Nat.le_refl _)
  intro n
  induction n with
  | zero =>
    intro f g lot h1 _ _
    have : lot.length ≤ 1 := by omega
    cases f <;> cases g <;> simp [need, this]
  | succ n ih =>
    intro f g lot h1 h2 h3
    by_cases hl : lot.length ≤ 1
    · cases f <;> cases g <;> simp [need, hl]
    · obtain ⟨f, rfl⟩ : ∃ f', f = f' + 1 := ⟨f - 1, by omega⟩
      obtain ⟨g, rfl⟩ : ∃ g', g = g' + 1 := ⟨g - 1, by omega⟩
      simp only [need, if_neg hl]
      refine best_congr fun t ht => ?_
      obtain ⟨a, b, _⟩ := ways_lt ht
      exact ⟨ih f g _ (by omega) (by omega) (by omega), ih f g _ (by omega) (by omega) (by omega)⟩
theorem nd_eq (ws lot : List Nat) : nd ws lot = if lot.length ≤ 1 then 0 else best (nd ws) (ways ws lot) := by
  by_cases hl : lot.length ≤ 1
  · rw [if_pos hl]
    unfold nd
    cases h : lot.length <;> simp [need, hl]
  · rw [if_neg hl]
    unfold nd
    obtain ⟨n, e⟩ : ∃ n, lot.length = n + 1 := ⟨lot.length - 1, by omega⟩
    rw [e]
    simp only [need, if_neg hl]
    refine best_congr fun t ht => ?_
    obtain ⟨a, b, _⟩ := ways_lt ht
    exact ⟨need_st ws n _ (by omega), need_st ws n _ (by omega)⟩
/-! ### the dict -/
abbrev kk (l : List Nat) : List Key := l.map fun k : Nat => Sum.inl ((k : Nat) : Int)
theorem asKeys_tI (l : List Nat) : asKeys (tI l) = some (kk l) := by
  show mapKey (iW l) = _
  induction l with
  | nil => rfl
  | cons x r ih =>
    show (match asKey (.int x), mapKey (iW r) with | some k, some ks => some (k :: ks) | _, _ => none) = _
    rw [ih]; rfl
theorem kk_inj : ∀ {a b : List Nat}, kk a = kk b → a = b
  | [], [], _ => rfl
  | [], _ :: _, h => by simp at h
  | _ :: _, [], h => by simp at h
  | x :: a, y :: b, h => by
    have h' : (x : Int) = y ∧ kk a = kk b := by simpa using h
    rw [kk_inj h'.2]
    congr 1
    omega
structure KI (ws : List Nat) (m : Nat) (kvs : List (List Key × W)) : Prop where
  nod : (kvs.map (·.1)).Nodup
  mem : ∀ k ∈ kvs.map (·.1), ∃ l, k = kk l ∧ l.Sublist (allOf ws)
  val : ∀ l v, valW kvs (kk l) = some v → l.length ≤ m → v = .int (nd ws l)
  low : ∀ p ∈ kvs, ∃ i : Int, p.2 = .int i
theorem KI.len {ws m kvs} (h : KI ws m kvs) (hg : Good ws) : kvs.length ≤ 256 := by
  have h1 := nodup_le (m := (subs (allOf ws)).map kk) h.nod fun k hk => by
    obtain ⟨l, rfl, hs⟩ := h.mem k hk
    exact List.mem_map.mpr ⟨l, mem_subs hs, rfl⟩
  rw [List.length_map, List.length_map, subs_len] at h1
  have h2 : (allOf ws).length = ws.length := by simp [allOf]
  rw [h2] at h1
  exact Nat.le_trans h1 (Nat.pow_le_pow_right (by decide) hg.1)
theorem KI.put {ws m kvs} (h : KI ws m kvs) {lot : List Nat} {x : Int} (hs : lot.Sublist (allOf ws)) {m' : Nat} (hv : ∀ l v, valW (putW kvs (kk lot) (.int x)) (kk l) = some v → l.length ≤ m' → v = .int (nd ws l)) : KI ws m' (putW kvs (kk lot) (.int x)) :=
  ⟨nodup_put h.nod, fun k hk => (mem_keys_put.mp hk).elim (fun e => ⟨lot, e, hs⟩) (h.mem k), hv, fun p hp => (put_mem hp).elim (fun e => ⟨x, e⟩) (h.low p)⟩
theorem KI.lowC {ws m kvs n} (h : KI ws m kvs) : lowC n (.dT kvs) = true := lowT_all fun p hp => by
  obtain ⟨i, e⟩ := h.low p hp
  rw [e]; rfl
theorem min_cast (f : Way → Nat) (x : Nat) (xs : List Way) : (xs.map fun t => ((f t : Nat) : Int)).foldl min (x : Int) = (((xs.map f).foldl min x : Nat) : Int) := by
  induction xs generalizing x with
  | nil => rfl
  | cons t xs ih =>
    simp only [List.map_cons, List.foldl_cons]
    rw [show min (x : Int) (f t : Int) = ((min x (f t) : Nat) : Int) by omega, ih]
theorem dat_tI (l : List Nat) : Dat 2 (tI l) := (dat_ints (k := 1) fun x hx => by
  obtain ⟨k, _, rfl⟩ := List.mem_map.mp hx
  exact ⟨_, rfl⟩).1
theorem dat_wEnc (t : Way) : Dat 3 (wEnc t) := dat_tup fun x hx => by
  simp only [List.mem_cons, List.not_mem_nil, or_false] at hx
  rcases hx with rfl | rfl | rfl
  · exact dat_int
  · exact dat_tI _
  · exact dat_tI _
theorem needed_ok {ws : List Nat} (hg : Good ws) : ∀ (n : Nat) (lot : List Nat) (m : Nat) (kvs : List (List Key × W)) (d : Nat) (st : Store), lot.length ≤ n → 1 ≤ n → lot.Sublist (allOf ws) → lot.length ≤ m → st[d]? = some (.dT kvs) → KI ws m kvs →
    ∃ kvs', m_needed n [tI ws, tI lot, .ref d] st = .ok (.int (nd ws lot)) (st.set d (.dT kvs')) ∧ KI ws m kvs' ∧ ∀ l, lot.length < l.length → valW kvs' (kk l) = valW kvs (kk l)
  | 0, lot, m, kvs, d, st, h1, h2, _, _, _, _ => absurd h2 (by omega)
  | n + 1, lot, m, kvs, d, st, h1, h2, hs, hm, hd, hI => by
    have h8 : lot.length ≤ 8 := by
      have := hs.length_le
      have : (allOf ws).length = ws.length := by simp [allOf]
      have := hg.1
      omega
    have hdl : d < st.length := (List.getElem?_eq_some_iff.mp hd).1
    have hset : ∀ c, (st.set d c)[d]? = some c := fun c => by simp [hdl]
    unfold m_needed
    cases hv : valW kvs (kk lot) with
    | some v =>
      have ev := hI.val lot v hv hm
      subst ev
      refine ⟨kvs, fun_in rfl (seq_nx (if_f (st1 := st) ?_ rfl) (ret_ok (w := .int (nd ws lot)) (st1 := st) ?_)) (set_same hd).symm hI.lowC rfl, hI, fun _ _ => rfl⟩
      · simp [startL, List.replicate, notIn_T hd (asKeys_tI lot), hv]
      · simpa [startL, List.replicate] using ix_T hd (asKeys_tI lot) hv
    | none =>
      have hlen := hI.len hg
      have hI1 : ∀ m', m' < lot.length ∨ nd ws lot = 0 → m' ≤ m → KI ws m' (putW kvs (kk lot) (.int 0)) := fun m' hm' hmm => hI.put hs fun l v hl hlm => by
        rw [valW_put] at hl
        split at hl
        · rename_i e
          have := kk_inj e
          subst this
          cases hl
          rcases hm' with h | h
          · omega
          · rw [h]; rfl
        · exact hI.val l v hl (Nat.le_trans hlm hmm)
      have hw : ∀ st, nxF m_ways [tI ws, tI lot] st = .ok (.lst ((ways ws lot).map wEnc)) st := fun st => nxF_ok (ways_ok hg (by omega))
      have hput : ∀ (st' : Store) kvs' v, st'[d]? = some (.dT kvs') → kvs'.length ≤ 300 → setW (.ref d) (tI lot) v st' = .ok () (st'.set d (.dT (putW kvs' (kk lot) v))) := fun st' kvs' v h hl => put_T h (asKeys_tI lot) (sizeLine_of (by omega))
      -- the end of all roads
      have fin : ∀ kvs' ls1 st1, st1 = st.set d (.dT kvs') → ls1[0]? = some (some (tI ws)) → ls1 = [some (tI ws), some (tI lot), some (.ref d)] ++ ls1.drop 3 → valW kvs' (kk lot) = some (.int (nd ws lot)) → retM (opM ixW (vM 2) (vM 1)) ls1 st1 = .rt (.int (nd ws lot)) (st.set d (.dT kvs')) := fun kvs' ls1 st1 e1 _ e2 e3 => by
        rw [e2, e1]
        refine ret_ok ?_
        simpa using ix_T (hset (.dT kvs')) (asKeys_tI lot) e3
      by_cases hc : ways ws lot = [] ∨ lot.length ≤ 1
      · have h0 : nd ws lot = 0 := by
          rw [nd_eq]
          rcases hc with h | h
          · rw [h]; split <;> rfl
          · rw [if_pos h]
        refine ⟨putW kvs (kk lot) (.int 0), fun_in rfl (seq_nx (if_t (st1 := st) ?_ (seq_nx (set_ok (w := .lst []) (st1 := st) ?_) (seq_nx (put_ok rfl rfl rfl (hput _ _ _ hd (by omega))) (if_f (st1 := st.set d (.dT (putW kvs (kk lot) (.int 0)))) ?_ rfl)))) (fin _ _ _ rfl rfl rfl ?_)) rfl (hI1 m (.inr h0) (Nat.le_refl _)).lowC rfl, hI1 m (.inr h0) (Nat.le_refl _), fun l hl => ?_⟩
        · simp [startL, List.replicate, notIn_T hd (asKeys_tI lot), hv]
        · rcases hc with h | h
          · by_cases h1 : 1 < lot.length
            · have := hw st
              rw [h] at this
              simp [startL, List.replicate, h1, this]
            · have h2 : ¬ (1 : Int) < lot.length := by omega
              simp [startL, List.replicate, h2]
          · have h2 : ¬ (1 : Int) < lot.length := by omega
            simp [startL, List.replicate, h2]
        · simp [neM, startL, List.replicate]
          rfl
        · rw [valW_put, if_pos rfl, h0]; rfl
        · rw [valW_put, if_neg fun e => by have := kk_inj e; subst this; omega]
      · have h1' : ¬ lot.length ≤ 1 := fun q => hc (.inr q)
        have hne : ways ws lot ≠ [] := fun q => hc (.inl q)
        have hJ : KI ws (lot.length - 1) (putW kvs (kk lot) (.int 0)) := hI1 _ (.inl (by omega)) (by omega)
        have n2 : 1 ≤ n := by omega
        -- the row of numbers
        obtain ⟨ys, st2, hlc, kvs2, e2, hI2, hk2, ey⟩ := lc_inv (tg := .tp [.nm 5, .nm 6, .nm 7]) (gd := none) (tt := yesT) (te := bM (bestF true) (aC (bM (nxF (m_needed n)) (aC (vM 0) (aC (vM 6) (aC (vM 2) aN)))) (aC (bM (nxF (m_needed n)) (aC (vM 0) (aC (vM 7) (aC (vM 2) aN)))) aN)))
          (ls := [some (tI ws), some (tI lot), some (.ref d), some (.lst ((ways ws lot).map wEnc)), none, none, none, none])
          (fun j acc st2 => ∃ kvs2, st2 = st.set d (.dT kvs2) ∧ KI ws (lot.length - 1) kvs2 ∧ (∀ l, lot.length ≤ l.length → valW kvs2 (kk l) = valW (putW kvs (kk lot) (.int 0)) (kk l)) ∧ acc = ((ways ws lot).take j).map fun t => .int ((cost (nd ws) t : Nat) : Int))
          (fun _ _ _ _ => rfl) ((ways ws lot).map wEnc) 0 [] (st.set d (.dT (putW kvs (kk lot) (.int 0)))) ⟨_, rfl, hJ, fun _ _ => rfl, rfl⟩ (fun j acc st2 w hIj _ hw' => by
            obtain ⟨kvs2, rfl, hI2, hk2, rfl⟩ := hIj
            obtain ⟨t, ht, rfl⟩ : ∃ t, (ways ws lot)[j]? = some t ∧ wEnc t = w := by
              rw [Nat.sub_zero, List.getElem?_map] at hw'
              cases q : (ways ws lot)[j]? with
              | none => rw [q] at hw'; cases hw'
              | some t => rw [q] at hw'; exact ⟨t, rfl, by simpa using hw'⟩
            obtain ⟨a1, a2, a3, a4, a5, a6⟩ := ways_lt (List.mem_of_getElem? ht)
            obtain ⟨kvs3, c1, c2, c3⟩ := needed_ok hg n t.2.1 (lot.length - 1) kvs2 d (st.set d (.dT kvs2)) (by omega) n2 (a5.trans hs) (by omega) (hset _) hI2
            obtain ⟨kvs4, d1, d2, d3⟩ := needed_ok hg n t.2.2 (lot.length - 1) kvs3 d (st.set d (.dT kvs3)) (by omega) n2 (a6.trans hs) (by omega) (hset _) c2
            rw [set_set] at c1 d1
            refine ⟨_, _, true, rfl, rfl, fun _ => ⟨.int ((cost (nd ws) t : Nat) : Int), st.set d (.dT kvs4), ?_, kvs4, rfl, d2, fun l hl => ?_, ?_⟩, fun q => by cases q⟩
            · have c1' := nxF_ok c1
              have d1' := nxF_ok d1
              simp only [bM, aC, aN, List.set_cons_zero, List.set_cons_succ, vM0, vMs, Res.bind_ok, c1', d1', max2_ii]
              have e : max ((nd ws t.2.1 : Nat) : Int) ((nd ws t.2.2 : Nat) : Int) = ((cost (nd ws) t : Nat) : Int) := by unfold cost; omega
              rw [e]
            · rw [d3 l (by omega), c3 l (by omega), hk2 l hl]
            · rw [List.take_succ, ht]
              simp)
        have ey : ys = (ways ws lot).map fun t => .int ((cost (nd ws) t : Nat) : Int) := by
          rw [List.nil_append] at ey
          rw [ey, Nat.zero_add, List.length_map, List.take_length]
        subst e2
        have hnd : nd ws lot = best (nd ws) (ways ws lot) := by rw [nd_eq, if_neg h1']
        obtain ⟨x, xs, ew⟩ : ∃ x xs, ways ws lot = x :: xs := by
          cases q : ways ws lot with
          | nil => exact absurd q hne
          | cons x xs => exact ⟨x, xs, rfl⟩
        have hmin : ∀ st, bestF false [.lst ys] st = .ok (.int (((xs.map (cost (nd ws))).foldl min (cost (nd ws) x) : Nat) : Int)) st := fun st => by
          have := min_ints (st := st) (b := .lst ys) (i := ((cost (nd ws) x : Nat) : Int)) (ns := xs.map fun t => ((cost (nd ws) t : Nat) : Int)) (by rw [ey, ew]; simp)
          rw [min_cast] at this
          exact this
        have hv2 : valW kvs2 (kk lot) = some (.int 0) := by rw [hk2 lot (Nat.le_refl _), valW_put, if_pos rfl]
        have hI3 : KI ws m (putW kvs2 (kk lot) (.int (nd ws lot))) := hI2.put hs fun l v hl hlm => by
          rw [valW_put] at hl
          split at hl
          · rename_i e
            have := kk_inj e
            subst this
            cases hl; rfl
          · rename_i hn
            by_cases hl2 : l.length ≤ lot.length - 1
            · exact hI2.val l v hl hl2
            · rw [hk2 l (by omega), valW_put, if_neg hn] at hl
              exact hI.val l v hl hlm
        refine ⟨putW kvs2 (kk lot) (.int (nd ws lot)), fun_in rfl (seq_nx (if_t (st1 := st) ?_ (seq_nx (set_ok (w := .lst ((ways ws lot).map wEnc)) (st1 := st) ?_) (seq_nx (put_ok rfl rfl rfl (hput _ _ _ hd (by omega))) (if_t (st1 := st.set d (.dT (putW kvs (kk lot) (.int 0)))) ?_
          (seq_nx (set_ok (w := .lst ys) (st1 := st.set d (.dT kvs2)) ?_) (put_ok (w3 := .int (nd ws lot)) (st1 := st.set d (.dT kvs2)) ?_ rfl rfl (hput _ _ _ (hset _) (by have := hI2.len hg; omega)))))))) (fin _ _ _ (by simp) rfl rfl ?_)) rfl hI3.lowC rfl, hI3, fun l hl => ?_⟩
        · simp [startL, List.replicate, notIn_T hd (asKeys_tI lot), hv]
        · have h2 : (1 : Int) < lot.length := by omega
          simp [startL, List.replicate, h2, hw st]
        · have : neM (.lst ((ways ws lot).map wEnc)) (.lst []) (st.set d (.dT (putW kvs (kk lot) (.int 0)))) = .ok (.bl true) (st.set d (.dT (putW kvs (kk lot) (.int 0)))) := by
            have := (eqM_of (st := st.set d (.dT (putW kvs (kk lot) (.int 0)))) (a := .lst ((ways ws lot).map wEnc)) (b := .lst []) ((dat_lst (k := 3) fun x hx => by
              obtain ⟨t, _, rfl⟩ := List.mem_map.mp hx
              exact dat_wEnc t).ok (by omega)) rfl eqW_lnil).2
            rw [this, ew]; rfl
          simp [startL, List.replicate, this]
        · refine lcM_ok (gd := none) (ws := (ways ws lot).map wEnc) (st1 := st.set d (.dT (putW kvs (kk lot) (.int 0)))) ?_ hlc
          simp [seqS, startL, List.replicate]
        · simp [startL, List.replicate, hmin]
          rw [hnd, ew]
          simp [best]
        · rw [valW_put, if_pos rfl]
        · rw [valW_put, if_neg fun e => by have := kk_inj e; subst this; omega, hk2 l (by omega), valW_put, if_neg fun e => by have := kk_inj e; subst this; omega]
theorem len8 {ws lot : List Nat} (hg : Good ws) (hs : lot.Sublist (allOf ws)) : lot.length ≤ 8 := by
  have := hs.length_le
  have : (allOf ws).length = ws.length := by simp [allOf]
  have := hg.1
  omega
theorem needed8 {ws : List Nat} (hg : Good ws) {lot kvs d st} (hs : lot.Sublist (allOf ws)) (hd : st[d]? = some (.dT kvs)) (hI : KI ws 8 kvs) : ∃ kvs', nxF (m_needed 12) [tI ws, tI lot, .ref d] st = .ok (.int (nd ws lot)) (st.set d (.dT kvs')) ∧ KI ws 8 kvs' := by
  obtain ⟨kvs', h1, h2, _⟩ := needed_ok hg 12 lot 8 kvs d st (by have := len8 hg hs; omega) (by omega) hs (len8 hg hs) hd hI
  exact ⟨kvs', nxF_ok h1, h2⟩
theorem best_ok {ws : List Nat} (hg : Good ws) : ∀ (n : Nat) (lot : List Nat) (kvs : List (List Key × W)) (d : Nat) (st : Store), lot.length ≤ n → 1 ≤ n → lot.Sublist (allOf ws) → st[d]? = some (.dT kvs) → KI ws 8 kvs →
    ∃ plan kvs', m_best_plan n [tI ws, tI lot, .ref d] st = .ok plan (st.set d (.dT kvs')) ∧ KI ws 8 kvs' ∧ lowW 0 plan = true
  | 0, lot, kvs, d, st, h1, h2, _, _, _ => absurd h2 (by omega)
  | n + 1, lot, kvs, d, st, h1, h2, hs, hd, hI => by
    have h8 := len8 hg hs
    have hdl : d < st.length := (List.getElem?_eq_some_iff.mp hd).1
    have hset : ∀ c, (st.set d c)[d]? = some c := fun c => by simp [hdl]
    have hw : ∀ st, nxF m_ways [tI ws, tI lot] st = .ok (.lst ((ways ws lot).map wEnc)) st := fun st => nxF_ok (ways_ok hg (by omega))
    unfold m_best_plan
    by_cases h1' : lot.length = 1
    · refine ⟨.tup [], kvs, fun_in rfl (seq_rt (if_t (st1 := st) ?_ (ret_ok (w := .tup []) (st1 := st) (by simp)))) (set_same hd).symm hI.lowC rfl, hI, rfl⟩
      simp [startL, List.replicate, h1']
    · have hloop : ∀ R : SRes → Prop, (∀ ls kvs', KI ws 8 kvs' → R (.nx ls (st.set d (.dT kvs')))) → (∀ plan kvs', KI ws 8 kvs' → lowW 0 plan = true → R (.rt plan (st.set d (.dT kvs')))) →
          R (forM (.tp [(.nm 3), (.nm 4), (.nm 5)]) (seqS (bM (nxF m_ways) (aC (vM 0) (aC (vM 1) aN))))
            (ifS (tstM (opM eqM (opM (addW false) (cM (.int 1)) (bM (bestF true) (aC (bM (nxF (m_needed 12)) (aC (vM 0) (aC (vM 4) (aC (vM 2) aN)))) (aC (bM (nxF (m_needed 12)) (aC (vM 0) (aC (vM 5) (aC (vM 2) aN)))) aN)))) (bM (nxF (m_needed 12)) (aC (vM 0) (aC (vM 1) (aC (vM 2) aN))))))
              (retM (tupM (aC (vM 3) (aC (bM (nxF (m_best_plan n)) (aC (vM 0) (aC (vM 4) (aC (vM 2) aN)))) (aC (bM (nxF (m_best_plan n)) (aC (vM 0) (aC (vM 5) (aC (vM 2) aN)))) aN))))) nxS) (startL 6 [tI ws, tI lot, .ref d]) st) := fun R r1 r2 => by
        refine for_P (gd := none) (ws := (ways ws lot).map wEnc) (st1 := st) (by simp [seqS, startL, List.replicate, hw st]) R (fun j ls st2 => ∃ a b c kvs2, ls = [some (tI ws), some (tI lot), some (.ref d), a, b, c] ∧ st2 = st.set d (.dT kvs2) ∧ KI ws 8 kvs2) ⟨_, _, _, kvs, rfl, (set_same hd).symm, hI⟩ (fun _ _ _ _ => rfl) ?_ ?_
        · rintro j ls st2 w ⟨a, b, c, kvs2, rfl, rfl, hI2⟩ hw'
          obtain ⟨t, ht, rfl⟩ : ∃ t, (ways ws lot)[j]? = some t ∧ wEnc t = w := by
            rw [List.getElem?_map] at hw'
            cases q : (ways ws lot)[j]? with
            | none => rw [q] at hw'; cases hw'
            | some t => rw [q] at hw'; exact ⟨t, rfl, by simpa using hw'⟩
          obtain ⟨a1, a2, a3, a4, a5, a6⟩ := ways_lt (List.mem_of_getElem? ht)
          obtain ⟨kvs3, c1, c2⟩ := needed8 hg (a5.trans hs) (hset _) hI2
          obtain ⟨kvs4, d1, d2⟩ := needed8 hg (a6.trans hs) (hset _) c2
          obtain ⟨kvs5, e1, e2⟩ := needed8 hg hs (hset _) d2
          rw [set_set] at c1 d1 e1
          refine ⟨_, rfl, ?_⟩
          by_cases hc : (1 : Int) + max ((nd ws t.2.1 : Nat) : Int) ((nd ws t.2.2 : Nat) : Int) = ((nd ws lot : Nat) : Int)
          · obtain ⟨p1, kvs6, f1, f2, f3⟩ := best_ok hg n t.2.1 kvs5 d (st.set d (.dT kvs5)) (by omega) (by omega) (a5.trans hs) (hset _) e2
            obtain ⟨p2, kvs7, g1, g2, g3⟩ := best_ok hg n t.2.2 kvs6 d (st.set d (.dT kvs6)) (by omega) (by omega) (a6.trans hs) (hset _) f2
            rw [set_set] at f1 g1
            have f1' := nxF_ok f1
            have g1' := nxF_ok g1
            refine .inr ⟨.tup [.int (t.1 : Nat), p1, p2], st.set d (.dT kvs7), if_t (st1 := st.set d (.dT kvs5)) ?_ (ret_ok ?_), r2 _ _ g2 (by simp [f3, g3])⟩
            · simp only [tstM, opM, cM, bM, aC, aN, List.set_cons_zero, List.set_cons_succ, vM0, vMs, Res.bind_ok, c1, d1, e1, max2_ii, addW_ii, eqM_ii, hc, decide_true]
            · simp only [tupM, bM, aC, aN, List.set_cons_zero, List.set_cons_succ, vM0, vMs, Res.bind_ok, f1', g1', List.length_cons, List.length_nil, Nat.zero_add, Nat.reduceAdd, szB3, if_true]
          · refine .inl (nx_of (if_f (st1 := st.set d (.dT kvs5)) ?_ rfl) ⟨_, _, _, kvs5, rfl, rfl, e2⟩)
            simp only [tstM, opM, cM, bM, aC, aN, List.set_cons_zero, List.set_cons_succ, vM0, vMs, Res.bind_ok, c1, d1, e1, max2_ii, addW_ii, eqM_ii, hc, decide_false]
        · rintro ls st2 ⟨a, b, c, kvs2, rfl, rfl, hI2⟩
          exact r1 _ _ hI2
      have := hloop (fun r => (∃ ls kvs', r = .nx ls (st.set d (.dT kvs')) ∧ KI ws 8 kvs') ∨ ∃ plan kvs', r = .rt plan (st.set d (.dT kvs')) ∧ KI ws 8 kvs' ∧ lowW 0 plan = true) (fun ls k h => .inl ⟨ls, k, rfl, h⟩) fun p k h h' => .inr ⟨p, k, rfl, h, h'⟩
      have hif : ifS (tstM (opM eqM (bM lenF (aC (vM 1) aN)) (cM (.int 1)))) (retM (tupM aN)) nxS (startL 6 [tI ws, tI lot, .ref d]) st = .nx (startL 6 [tI ws, tI lot, .ref d]) st := if_f (st1 := st) (by
        have : ¬ ((lot.length : Nat) : Int) = 1 := by omega
        simp [startL, List.replicate, this]) rfl
      rcases this with ⟨ls, kvs', e, hk⟩ | ⟨plan, kvs', e, hk, hl⟩
      · exact ⟨.tup [], kvs', fun_in rfl (seq_nx hif (seq_nx e (ret_ok (by simp)))) rfl hk.lowC rfl, hk, rfl⟩
      · exact ⟨plan, kvs', fun_in rfl (seq_nx hif (seq_rt e)) rfl hk.lowC hl, hk, hl⟩
theorem find_ok {ws : List Nat} (hg : Good ws) (st : Store) : ∃ plan, m_find_plan [tI ws] st = .ok (.tup [.int (nd ws (allOf ws)), plan]) st := by
  have hd : (st ++ [Cell.dT []])[st.length]? = some (.dT []) := by simp
  have hI : KI ws 8 [] := ⟨List.nodup_nil, fun k h => by simp at h, fun l v h => by simp [valW_nil] at h, fun p h => by simp at h⟩
  obtain ⟨kvs1, a1, a2⟩ := needed8 hg (List.Sublist.refl (allOf ws)) hd hI
  obtain ⟨plan, kvs2, b1, b2, b3⟩ := best_ok hg 12 (allOf ws) kvs1 st.length (st ++ [.dT kvs1]) (by have := len8 hg (List.Sublist.refl (allOf ws)); omega) (by omega) (.refl _) (by simp) a2
  rw [set_new] at a1 b1
  have b1' := nxF_ok b1
  refine ⟨plan, fun_ok (t := [.dT kvs2]) rfl (seq_nx (set_ok (w := .ref st.length) (st1 := st ++ [.dT []]) rfl) (seq_nx (set_ok (w := tI (allOf ws)) (st1 := st ++ [.dT []]) ?_) (ret_ok ?_))) (by simp [b3])⟩
  · simpa [startL, List.replicate] using nxF_ok (allOf_ok (st := st ++ [.dT []]) hg)
  · simp only [tupM, startL, List.map_cons, List.map_nil, List.replicate, List.length_cons, List.length_nil, List.cons_append, List.nil_append, Nat.zero_add, Nat.reduceSub, bM, aC, aN, List.set_cons_zero, List.set_cons_succ, vM0, vMs, Res.bind_ok, a1, b1', Nat.reduceAdd, szB2, if_true]
end Lk26

set_option Elab.async false
set_option linter.all false
set_option maxRecDepth 100000
namespace Lk26
open PySem L2 VM
/-! ### the plain law -/
theorem road_le {ws : List Nat} (hg : Good ws) : ∀ (f k x : Nat), x ∈ road ws f k → x ≤ k
  | 0, k, x, h => by simp [road] at h
  | f + 1, 0, x, h => by simp [road] at h
  | f + 1, k + 1, x, h => by
    simp only [road, List.mem_cons] at h
    rcases h with h | h
    · omega
    · have := road_le hg f _ x h
      cases q : ws[k]? with
      | none => rw [q] at this; simp at this; omega
      | some p => rw [q] at this; have := hg.2 k p q; simp at *; omega
theorem onR_self {ws : List Nat} {k : Nat} (hk : 1 ≤ k) : onR ws k k = true := by
  obtain ⟨j, rfl⟩ : ∃ j, k = j + 1 := ⟨k - 1, by omega⟩
  simp [onR, road]
theorem onR_gt {ws : List Nat} (hg : Good ws) {k x : Nat} (h : k < x) : onR ws k x = false := by
  rw [← Bool.not_eq_true]
  intro q
  have := road_le hg 9 k x (by simpa [onR] using q)
  omega
theorem mem_allOf {ws : List Nat} {k : Nat} : k ∈ allOf ws ↔ 1 ≤ k ∧ k ≤ ws.length := by
  simp only [allOf, List.mem_map, List.mem_range]
  exact ⟨fun ⟨a, h, e⟩ => by omega, fun h => ⟨k - 1, by omega, by omega⟩⟩
theorem allOf_sorted (ws : List Nat) : (allOf ws).Pairwise (· < ·) := by
  unfold allOf
  rw [List.pairwise_map]
  exact List.Pairwise.imp (fun h => by omega) List.pairwise_lt_range
theorem ways_mem {ws lot : List Nat} {k : Nat} (hk : k ∈ allOf ws) (h1 : cutH ws lot k ≠ []) (h2 : cutO ws lot k ≠ []) : (k, cutH ws lot k, cutO ws lot k) ∈ ways ws lot :=
  List.mem_filterMap.mpr ⟨k, hk, by simp [way1, h1, h2]⟩
theorem ways_ne {ws lot : List Nat} (hg : Good ws) (hs : lot.Sublist (allOf ws)) (h2 : 2 ≤ lot.length) : ways ws lot ≠ [] := by
  match lot, h2 with
  | x :: y :: r, _ =>
    have hp := (allOf_sorted ws).sublist hs
    have hxy : x < y := (List.pairwise_cons.mp hp).1 y (by simp)
    have hx : x ∈ allOf ws := hs.subset (by simp)
    have h1 : y ∈ cutH ws (x :: y :: r) x := List.mem_filter.mpr ⟨by simp, by rw [onR_gt hg hxy]; rfl⟩
    have h2 : x ∈ cutO ws (x :: y :: r) x := List.mem_filter.mpr ⟨by simp, onR_self (mem_allOf.mp hx).1⟩
    exact List.ne_nil_of_mem (ways_mem hx (List.ne_nil_of_mem h1) (List.ne_nil_of_mem h2))
theorem foldl_min_le {α : Type} (f : α → Nat) : ∀ (xs : List α) (a : Nat), (xs.map f).foldl min a ≤ a ∧ ∀ t ∈ xs, (xs.map f).foldl min a ≤ f t
  | [], a => ⟨Nat.le_refl _, fun t h => by simp at h⟩
  | x :: xs, a => by
    obtain ⟨h1, h2⟩ := foldl_min_le f xs (min a (f x))
    simp only [List.map_cons, List.foldl_cons]
    refine ⟨by omega, fun t ht => ?_⟩
    rcases List.mem_cons.mp ht with e | ht
    · subst e; omega
    · exact h2 t ht
theorem foldl_min_ex {α : Type} (f : α → Nat) : ∀ (xs : List α) (a : Nat), (xs.map f).foldl min a = a ∨ ∃ t ∈ xs, (xs.map f).foldl min a = f t
  | [], a => .inl rfl
  | x :: xs, a => by
    simp only [List.map_cons, List.foldl_cons]
    rcases foldl_min_ex f xs (min a (f x)) with h | ⟨t, ht, h⟩
    · by_cases q : a ≤ f x
      · exact .inl (by rw [h]; omega)
      · exact .inr ⟨x, by simp, by rw [h]; omega⟩
    · exact .inr ⟨t, by simp [ht], h⟩
theorem best_le {f : List Nat → Nat} {l : List Way} {t : Way} (h : t ∈ l) : best f l ≤ 1 + cost f t := by
  cases l with
  | nil => simp at h
  | cons x xs =>
    obtain ⟨h1, h2⟩ := foldl_min_le (cost f) xs (cost f x)
    show 1 + (xs.map (cost f)).foldl min (cost f x) ≤ _
    rcases List.mem_cons.mp h with e | h
    · subst e; omega
    · have := h2 t h; omega
theorem best_ex {f : List Nat → Nat} {l : List Way} (h : l ≠ []) : ∃ t ∈ l, best f l = 1 + cost f t := by
  cases l with
  | nil => exact absurd rfl h
  | cons x xs =>
    rcases foldl_min_ex (cost f) xs (cost f x) with e | ⟨t, ht, e⟩
    · exact ⟨x, by simp, by show 1 + (xs.map (cost f)).foldl min (cost f x) = _; rw [e]⟩
    · exact ⟨t, by simp [ht], by show 1 + (xs.map (cost f)).foldl min (cost f x) = _; rw [e]⟩
theorem nd_le {ws lot : List Nat} {t : Way} (h : t ∈ ways ws lot) : nd ws lot ≤ 1 + max (nd ws t.2.1) (nd ws t.2.2) := by
  rw [nd_eq]
  split
  · omega
  · exact best_le h
theorem nd_ex {ws lot : List Nat} (hg : Good ws) (hs : lot.Sublist (allOf ws)) (h2 : 2 ≤ lot.length) : ∃ t ∈ ways ws lot, nd ws lot = 1 + max (nd ws t.2.1) (nd ws t.2.2) := by
  rw [nd_eq, if_neg (by omega)]
  exact best_ex (ways_ne hg hs h2)
theorem nd_small {ws lot : List Nat} (h : lot.length ≤ 1) : nd ws lot = 0 := by rw [nd_eq, if_pos h]
theorem way_len {ws lot : List Nat} {t : Way} (h : t ∈ ways ws lot) : t.2.1.length + t.2.2.length = lot.length := by
  obtain ⟨k, _, rfl, _⟩ := mem_ways h
  exact cut_len ws lot k
theorem nd_up {ws : List Nat} (hg : Good ws) : ∀ (n : Nat) (lot : List Nat), lot.length ≤ n → lot.Sublist (allOf ws) → nd ws lot ≤ lot.length - 1
  | 0, lot, h, _ => by rw [nd_small (by omega)]; omega
  | n + 1, lot, h, hs => by
    by_cases h2 : 2 ≤ lot.length
    · obtain ⟨t, ht, e⟩ := nd_ex hg hs h2
      obtain ⟨a1, a2, a3, a4, a5, a6⟩ := ways_lt ht
      have := way_len ht
      have := nd_up hg n t.2.1 (by omega) (a5.trans hs)
      have := nd_up hg n t.2.2 (by omega) (a6.trans hs)
      omega
    · rw [nd_small (by omega)]; omega
theorem nd_low {ws : List Nat} (hg : Good ws) : ∀ (n : Nat) (lot : List Nat), lot.length ≤ n → lot.Sublist (allOf ws) → lot.length ≤ 2 ^ nd ws lot
  | 0, lot, h, _ => by rw [nd_small (by omega)]; omega
  | n + 1, lot, h, hs => by
    by_cases h2 : 2 ≤ lot.length
    · obtain ⟨t, ht, e⟩ := nd_ex hg hs h2
      obtain ⟨a1, a2, a3, a4, a5, a6⟩ := ways_lt ht
      have := way_len ht
      have h1 := nd_low hg n t.2.1 (by omega) (a5.trans hs)
      have h2 := nd_low hg n t.2.2 (by omega) (a6.trans hs)
      have h3 : 2 ^ nd ws t.2.1 ≤ 2 ^ max (nd ws t.2.1) (nd ws t.2.2) := Nat.pow_le_pow_right (by decide) (Nat.le_max_left _ _)
      have h4 : 2 ^ nd ws t.2.2 ≤ 2 ^ max (nd ws t.2.1) (nd ws t.2.2) := Nat.pow_le_pow_right (by decide) (Nat.le_max_right _ _)
      rw [e, Nat.pow_add]
      omega
    · rw [nd_small (by omega)]; omega
/-- a part of a lot needs no more -/
theorem nd_mono {ws : List Nat} (hg : Good ws) : ∀ (n : Nat) (lot lot' : List Nat), lot.length ≤ n → lot.Sublist (allOf ws) → lot'.Sublist lot → nd ws lot' ≤ nd ws lot
  | 0, lot, lot', h, _, hs' => by
    have := hs'.length_le
    rw [nd_small (lot := lot') (by omega)]; omega
  | n + 1, lot, lot', h, hs, hs' => by
    by_cases h2 : 2 ≤ lot.length
    · obtain ⟨t, ht, e⟩ := nd_ex hg hs h2
      obtain ⟨a1, a2, a3, a4, a5, a6⟩ := ways_lt ht
      obtain ⟨k, hk, rfl, k1, k2⟩ := mem_ways ht
      have s1 : (cutH ws lot' k).Sublist (cutH ws lot k) := hs'.filter _
      have s2 : (cutO ws lot' k).Sublist (cutO ws lot k) := hs'.filter _
      have m1 := nd_mono hg n (cutH ws lot k) (cutH ws lot' k) (by simp at a1; omega) (a5.trans hs) s1
      have m2 := nd_mono hg n (cutO ws lot k) (cutO ws lot' k) (by simp at a2; omega) (a6.trans hs) s2
      simp only at e
      have hl := cut_len ws lot' k
      by_cases q1 : cutH ws lot' k = []
      · have hlot : cutO ws lot' k = lot' := by
          have : (cutO ws lot' k).Sublist lot' := List.filter_sublist
          exact this.eq_of_length (by rw [q1] at hl; simpa using hl)
        rw [hlot] at m2
        omega
      · by_cases q2 : cutO ws lot' k = []
        · have hlot : cutH ws lot' k = lot' := by
            have : (cutH ws lot' k).Sublist lot' := List.filter_sublist
            exact this.eq_of_length (by rw [q2] at hl; simpa using hl)
          rw [hlot] at m1
          omega
        · have := nd_le (ways_mem hk q1 q2)
          simp only at this
          omega
    · have := hs'.length_le
      rw [nd_small (lot := lot') (by omega)]; omega
/-- one more needs one more at most -/
theorem nd_one {ws : List Nat} (hg : Good ws) : ∀ (n : Nat) (lot : List Nat) (x : Nat), lot.length ≤ n → (lot ++ [x]).Sublist (allOf ws) → nd ws (lot ++ [x]) ≤ nd ws lot + 1
  | 0, lot, x, h, hs => by
    have : (lot ++ [x]).length ≤ 1 := by rw [List.length_append, List.length_singleton]; omega
    rw [nd_small this]; omega
  | n + 1, lot, x, h, hs => by
    have hs1 : lot.Sublist (allOf ws) := (List.sublist_append_left lot [x]).trans hs
    by_cases h2 : 2 ≤ lot.length
    · obtain ⟨t, ht, e⟩ := nd_ex hg hs1 h2
      obtain ⟨a1, a2, a3, a4, a5, a6⟩ := ways_lt ht
      obtain ⟨k, hk, rfl, k1, k2⟩ := mem_ways ht
      simp only at e a1 a2
      cases q : onR ws k x with
      | true =>
        have e1 : cutH ws (lot ++ [x]) k = cutH ws lot k := by simp only [cutH, List.filter_append, List.filter_cons, q]; simp
        have e2 : cutO ws (lot ++ [x]) k = cutO ws lot k ++ [x] := by simp only [cutO, List.filter_append, List.filter_cons, q]; simp
        have m := nd_le (ways_mem (lot := lot ++ [x]) hk (by rw [e1]; exact k1) (by rw [e2]; simp))
        simp only [e1, e2] at m
        have := nd_one hg n (cutO ws lot k) x (by omega) (by rw [← e2]; exact List.filter_sublist.trans hs)
        omega
      | false =>
        have e1 : cutH ws (lot ++ [x]) k = cutH ws lot k ++ [x] := by simp only [cutH, List.filter_append, List.filter_cons, q]; simp
        have e2 : cutO ws (lot ++ [x]) k = cutO ws lot k := by simp only [cutO, List.filter_append, List.filter_cons, q]; simp
        have m := nd_le (ways_mem (lot := lot ++ [x]) hk (by rw [e1]; simp) (by rw [e2]; exact k2))
        simp only [e1, e2] at m
        have := nd_one hg n (cutH ws lot k) x (by omega) (by rw [← e1]; exact List.filter_sublist.trans hs)
        omega
    · have := nd_up hg _ (lot ++ [x]) (Nat.le_refl _) hs
      simp at this
      omega
/-! a wire more -/
section
variable {ws : List Nat} {p : Nat}
theorem road_more (hg : Good ws) (hp : p ≤ ws.length) : ∀ (f k : Nat), k ≤ ws.length → road (ws ++ [p]) f k = road ws f k
  | 0, k, _ => rfl
  | f + 1, 0, _ => rfl
  | f + 1, k + 1, h => by
    have e : (ws ++ [p])[k]? = ws[k]? := List.getElem?_append_left (by omega)
    simp only [road, e]
    congr 1
    refine road_more hg hp f _ ?_
    cases q : ws[k]? with
    | none => simp
    | some r => have := hg.2 k r q; simp; omega
theorem road_new : road (ws ++ [p]) 9 (ws.length + 1) = (ws.length + 1) :: road (ws ++ [p]) 8 p := by simp [road]
theorem road_f {ws : List Nat} (hg : Good ws) : ∀ (f g k : Nat), k ≤ f → k ≤ g → road ws f k = road ws g k
  | 0, g, k, h1, h2 => by
    have : k = 0 := by omega
    subst this; cases g <;> rfl
  | f + 1, 0, k, h1, h2 => by
    have : k = 0 := by omega
    subst this; rfl
  | f + 1, g + 1, 0, _, _ => rfl
  | f + 1, g + 1, k + 1, h1, h2 => by
    simp only [road]
    congr 1
    have : (ws[k]?).getD 0 ≤ k := by
      cases q : ws[k]? with
      | none => simp
      | some r => have := hg.2 k r q; simpa using this
    exact road_f hg f g _ (by omega) (by omega)
theorem good_more (hg : Good ws) (hp : p ≤ ws.length) (hl : ws.length ≤ 7) : Good (ws ++ [p]) := by
  refine ⟨by simp; omega, fun i q h => ?_⟩
  by_cases hi : i < ws.length
  · rw [List.getElem?_append_left hi] at h; exact hg.2 i q h
  · have := (List.getElem?_eq_some_iff.mp h).1
    simp at this
    have hi : i = ws.length := by omega
    subst hi
    simp at h
    omega
theorem cut_more (hg : Good ws) (hp : p ≤ ws.length) {lot : List Nat} {k : Nat} (hk : k ≤ ws.length) : cutH (ws ++ [p]) lot k = cutH ws lot k ∧ cutO (ws ++ [p]) lot k = cutO ws lot k := by
  constructor <;> simp only [cutH, cutO, onR, road_more hg hp 9 k hk]
theorem cut_new (hg : Good ws) (hp : p ≤ ws.length) (hl : ws.length ≤ 7) {lot : List Nat} (hs : lot.Sublist (allOf ws)) : cutH (ws ++ [p]) lot (ws.length + 1) = cutH ws lot p ∧ cutO (ws ++ [p]) lot (ws.length + 1) = cutO ws lot p := by
  have h : ∀ x ∈ lot, onR (ws ++ [p]) (ws.length + 1) x = onR ws p x := fun x hx => by
    have hx := (mem_allOf.mp (hs.subset hx)).2
    unfold onR
    rw [road_new, road_more hg hp 8 p hp, road_f hg 8 9 p (by omega) (by omega)]
    rw [List.contains_cons]
    have : (x == ws.length + 1) = false := by simp; omega
    rw [this, Bool.false_or]
  constructor
  · exact List.filter_congr fun x hx => by rw [h x hx]
  · exact List.filter_congr fun x hx => by rw [h x hx]
theorem sub_more {lot : List Nat} (hs : lot.Sublist (allOf ws)) : lot.Sublist (allOf (ws ++ [p])) := by
  refine hs.trans ?_
  simp only [allOf, List.length_append, List.length_singleton, List.range_succ, List.map_append]
  exact List.sublist_append_left _ _
theorem allOf_more : allOf (ws ++ [p]) = allOf ws ++ [ws.length + 1] := by
  simp [allOf, List.range_succ]
theorem nd_more (hg : Good ws) (hp : p ≤ ws.length) (hl : ws.length ≤ 7) : ∀ (n : Nat) (lot : List Nat), lot.length ≤ n → lot.Sublist (allOf ws) → nd (ws ++ [p]) lot = nd ws lot
  | 0, lot, h, _ => by rw [nd_small (by omega), nd_small (by omega)]
  | n + 1, lot, h, hs => by
    by_cases h2 : 2 ≤ lot.length
    · have hg' := good_more hg hp hl
      apply Nat.le_antisymm
      · obtain ⟨t, ht, e⟩ := nd_ex hg hs h2
        obtain ⟨a1, a2, a3, a4, a5, a6⟩ := ways_lt ht
        obtain ⟨k, hk, rfl, k1, k2⟩ := mem_ways ht
        obtain ⟨c1, c2⟩ := cut_more hg hp (lot := lot) (mem_allOf.mp hk).2
        have m := nd_le (ways_mem (ws := ws ++ [p]) (lot := lot) (k := k) (by rw [allOf_more]; simp [hk]) (by rw [c1]; exact k1) (by rw [c2]; exact k2))
        simp only [c1, c2] at m
        simp only at e a1 a2 a5 a6
        rw [nd_more hg hp hl n _ (by omega) (a5.trans hs), nd_more hg hp hl n _ (by omega) (a6.trans hs)] at m
        omega
      · obtain ⟨t, ht, e⟩ := nd_ex hg' (sub_more hs) h2
        obtain ⟨a1, a2, a3, a4, a5, a6⟩ := ways_lt ht
        rw [nd_more hg hp hl n _ (by omega) (a5.trans hs), nd_more hg hp hl n _ (by omega) (a6.trans hs)] at e
        obtain ⟨k, hk, rfl, k1, k2⟩ := mem_ways ht
        rw [allOf_more] at hk
        rcases List.mem_append.mp hk with hk | hk
        · obtain ⟨c1, c2⟩ := cut_more hg hp (lot := lot) (mem_allOf.mp hk).2
          rw [c1] at k1
          rw [c2] at k2
          have m := nd_le (ways_mem (lot := lot) hk k1 k2)
          simp only [c1, c2] at e m
          omega
        · simp only [List.mem_singleton] at hk
          subst hk
          obtain ⟨c1, c2⟩ := cut_new hg hp hl hs
          rw [c1] at k1
          rw [c2] at k2
          have hp0 : p ∈ allOf ws := by
            refine mem_allOf.mpr ⟨?_, hp⟩
            cases p with
            | zero => exact absurd (by simp [cutO, onR, road]) k2
            | succ p => omega
          have m := nd_le (ways_mem (lot := lot) hp0 k1 k2)
          simp only [c1, c2] at e m
          omega
    · rw [nd_small (by omega), nd_small (by omega)]
theorem more_ok (hg : Good ws) (hp : p ≤ ws.length) (hl : ws.length ≤ 7) : nd ws (allOf ws) ≤ nd (ws ++ [p]) (allOf (ws ++ [p])) ∧ nd (ws ++ [p]) (allOf (ws ++ [p])) ≤ nd ws (allOf ws) + 1 := by
  have hg' := good_more hg hp hl
  rw [← nd_more hg hp hl _ (allOf ws) (Nat.le_refl _) (.refl _)]
  constructor
  · exact nd_mono hg' _ _ _ (Nat.le_refl _) (.refl _) (sub_more (.refl _))
  · have := nd_one hg' _ (allOf ws) (ws.length + 1) (Nat.le_refl _) (by rw [← allOf_more (p := p)]; exact .refl _)
    rw [← allOf_more (p := p)] at this
    exact this
end
/-! all at the root -/
theorem good_star {m : Nat} (h : m ≤ 8) : Good (List.replicate m 0) := ⟨by simpa using h, fun i p e => by
  have := List.mem_of_getElem? e
  simp at this
  omega⟩
theorem onR_star {m k x : Nat} : onR (List.replicate m 0) (k + 1) x = decide (x = k + 1) := by
  have : road (List.replicate m 0) 9 (k + 1) = [k + 1] := by
    simp only [road]
    congr 1
    have : ((List.replicate m 0)[k]?).getD 0 = 0 := by
      cases q : (List.replicate m 0)[k]? with
      | none => rfl
      | some p => have := List.mem_of_getElem? q; simp at this; simp [this]
    rw [this]; rfl
  unfold onR
  rw [this, Bool.eq_iff_iff]
  simp
theorem filter_one : ∀ {lot : List Nat} {k : Nat}, lot.Nodup → (lot.filter fun x => decide (x = k)).length ≤ 1
  | [], _, _ => by simp
  | x :: r, k, h => by
    have h' := List.nodup_cons.mp h
    rw [List.filter_cons]
    by_cases e : x = k
    · subst e
      have : r.filter (fun y => decide (y = x)) = [] := List.filter_eq_nil_iff.mpr fun y hy => by
        simp only [decide_eq_true_eq]
        rintro rfl
        exact h'.1 hy
      simp [this]
    · simp only [e, decide_false, Bool.false_eq_true, if_false]
      exact filter_one h'.2
theorem nodup_lot {ws lot : List Nat} (hs : lot.Sublist (allOf ws)) : lot.Nodup := ((allOf_sorted ws).sublist hs).imp fun h => by omega
theorem nd_star {m : Nat} (hm : m ≤ 8) : ∀ (n : Nat) (lot : List Nat), lot.length ≤ n → lot.Sublist (allOf (List.replicate m 0)) → lot.length - 1 ≤ nd (List.replicate m 0) lot
  | 0, lot, h, _ => by omega
  | n + 1, lot, h, hs => by
    by_cases h2 : 2 ≤ lot.length
    · obtain ⟨t, ht, e⟩ := nd_ex (good_star hm) hs h2
      obtain ⟨a1, a2, a3, a4, a5, a6⟩ := ways_lt ht
      have hl := way_len ht
      have ih := nd_star hm n t.2.1 (by omega) (a5.trans hs)
      obtain ⟨k, hk, rfl, _, _⟩ := mem_ways ht
      obtain ⟨j, rfl⟩ : ∃ j, k = j + 1 := ⟨k - 1, by have := (mem_allOf.mp hk).1; omega⟩
      have h1 : (cutO (List.replicate m 0) lot (j + 1)).length ≤ 1 := by
        simp only [cutO, onR_star]
        exact filter_one (nodup_lot hs)
      simp only at hl ih e
      omega
    · omega
/-! in a row -/
theorem good_row {m : Nat} (h : m ≤ 8) : Good (List.range m) := ⟨by simpa using h, fun i p e => by
  rw [List.getElem?_range (by have := (List.getElem?_eq_some_iff.mp e).1; simpa using this)] at e
  cases e; omega⟩
theorem road_row {m : Nat} : ∀ (f k x : Nat), k ≤ f → k ≤ m → (x ∈ road (List.range m) f k ↔ 1 ≤ x ∧ x ≤ k)
  | 0, k, x, h, _ => by
    simp [road]; omega
  | f + 1, 0, x, _, _ => by simp [road]; omega
  | f + 1, k + 1, x, h, hm => by
    have e : ((List.range m)[k]?).getD 0 = k := by rw [List.getElem?_range (by omega)]; rfl
    have ih := road_row (m := m) f k x (by omega) (by omega)
    rw [road, e, List.mem_cons, ih]
    omega
theorem split_sorted : ∀ {lot : List Nat} {h : Nat}, lot.Pairwise (· < ·) → 0 < h → h < lot.length → ∃ k ∈ lot, (lot.filter fun x => decide (x ≤ k)).length = h ∧ (lot.filter fun x => !decide (x ≤ k)).length = lot.length - h
  | [], h, _, _, hl => by simp at hl
  | x :: r, h, hp, h0, hl => by
    have hp' := List.pairwise_cons.mp hp
    by_cases h1 : h = 1
    · subst h1
      refine ⟨x, by simp, ?_, ?_⟩
      · have : r.filter (fun y => decide (y ≤ x)) = [] := List.filter_eq_nil_iff.mpr fun y hy => by have := hp'.1 y hy; simp; omega
        simp [List.filter_cons, this]
      · have : r.filter (fun y => !decide (y ≤ x)) = r := List.filter_eq_self.mpr fun y hy => by have := hp'.1 y hy; simp; omega
        simp [List.filter_cons, this]
    · obtain ⟨k, hk, e1, e2⟩ := split_sorted (lot := r) (h := h - 1) hp'.2 (by omega) (by simp at hl; omega)
      have hxk : x ≤ k := by have := hp'.1 k hk; omega
      refine ⟨k, by simp [hk], ?_, ?_⟩
      · simp only [List.filter_cons, hxk, decide_true, if_true, List.length_cons, e1]; omega
      · simp only [List.filter_cons, hxk, decide_true, Bool.not_true, Bool.false_eq_true, if_false, List.length_cons, e2]; omega
theorem nd_row {m : Nat} (hm : m ≤ 8) : ∀ (c : Nat) (lot : List Nat), lot.length ≤ 2 ^ c → lot.Sublist (allOf (List.range m)) → nd (List.range m) lot ≤ c
  | 0, lot, h, _ => by rw [nd_small (by simpa using h)]; omega
  | c + 1, lot, h, hs => by
    by_cases h2 : 2 ≤ lot.length
    · obtain ⟨k, hk, e1, e2⟩ := split_sorted (lot := lot) (h := lot.length / 2) ((allOf_sorted _).sublist hs) (by omega) (by omega)
      have hk' := mem_allOf.mp (hs.subset hk)
      rw [List.length_range] at hk'
      have hr : ∀ x ∈ lot, onR (List.range m) k x = decide (x ≤ k) := fun x hx => by
        have hx := (mem_allOf.mp (hs.subset hx)).1
        unfold onR
        rw [Bool.eq_iff_iff, List.contains_iff_mem, road_row 9 k x (by omega) (by omega)]
        simp; omega
      have c1 : cutO (List.range m) lot k = lot.filter fun x => decide (x ≤ k) := List.filter_congr fun x hx => by rw [hr x hx]
      have c2 : cutH (List.range m) lot k = lot.filter fun x => !decide (x ≤ k) := List.filter_congr fun x hx => by rw [hr x hx]
      rw [Nat.pow_succ] at h
      have m1 := nd_row hm c (cutO (List.range m) lot k) (by rw [c1, e1]; omega) (List.filter_sublist.trans hs)
      have m2 := nd_row hm c (cutH (List.range m) lot k) (by rw [c2, e2]; omega) (List.filter_sublist.trans hs)
      have := nd_le (ws := List.range m) (lot := lot) (ways_mem (hs.subset hk) (by
        rw [c2]; intro q; rw [q] at e2; simp at e2; omega) (by
        rw [c1]; intro q; rw [q] at e1; simp at e1; omega))
      simp only at this
      omega
    · rw [nd_small (by omega)]; omega
theorem star_ok {m : Nat} (h1 : 1 ≤ m) (hm : m ≤ 8) : nd (List.replicate m 0) (allOf (List.replicate m 0)) = m - 1 := by
  have hl : (allOf (List.replicate m 0)).length = m := by simp [allOf]
  have a := nd_star hm _ (allOf (List.replicate m 0)) (Nat.le_refl _) (.refl _)
  have b := nd_up (good_star hm) _ (allOf (List.replicate m 0)) (Nat.le_refl _) (.refl _)
  omega
theorem row_ok {m : Nat} (h1 : 1 ≤ m) (hm : m ≤ 8) : nd (List.range m) (allOf (List.range m)) = ((List.range 4).filter fun k => decide (2 ^ k < m)).length := by
  have hl : (allOf (List.range m)).length = m := by simp [allOf]
  have a := fun c hc => nd_row hm c (allOf (List.range m)) hc (.refl _)
  have b := nd_low (good_row hm) _ (allOf (List.range m)) (Nat.le_refl _) (.refl _)
  rw [hl] at a b
  generalize nd (List.range m) (allOf (List.range m)) = n at *
  have hp : ∀ c, n ≤ c → m ≤ 2 ^ c := fun c hc => Nat.le_trans b (Nat.pow_le_pow_right (by decide) hc)
  have h0 := hp 0
  have h1' := hp 1
  have h2 := hp 2
  have a0 := a 0
  have a1 := a 1
  have a2 := a 2
  have a3 := a 3
  have e : ((List.range 4).filter fun k => decide (2 ^ k < m)).length = if m ≤ 1 then 0 else if m ≤ 2 then 1 else if m ≤ 4 then 2 else 3 := by
    have : m = 1 ∨ m = 2 ∨ m = 3 ∨ m = 4 ∨ m = 5 ∨ m = 6 ∨ m = 7 ∨ m = 8 := by omega
    rcases this with rfl | rfl | rfl | rfl | rfl | rfl | rfl | rfl <;> decide
  rw [e]
  simp only [Nat.pow_zero, Nat.pow_one, Nat.reducePow] at *
  split
  · omega
  · split
    · omega
    · split <;> omega
end Lk26

set_option Elab.async false
set_option linter.all false
set_option maxRecDepth 100000
namespace Lk26
open PySem L2 VM
theorem draw_eq : m_law_draw = drawM := rfl
section
variable {st : Store} {ns : List Int} {t : Nat} {p a : Int}
theorem draw {many : Int} (h : st[t]? = some (tapeC ns p a)) (hp : 0 ≤ p) (ha : 0 ≤ a) (hm : 0 < many) (hm2 : many < 1000) :
    ∃ f p' a', nxF m_law_draw [.ref t, .int many] st = .ok (.int f) (st.set t (tapeC ns p' a')) ∧ 0 ≤ f ∧ f < many ∧ 0 ≤ p' ∧ 0 ≤ a' := by
  obtain ⟨f, p', a', e, r⟩ := draw_ok h hp ha hm (by omega)
  exact ⟨f, p', a', nxF_ok (by rw [draw_eq]; exact e), r⟩
theorem set_l {r : Store} {c : Cell} (ht : t < st.length) : (st ++ r).set t c = st.set t c ++ r := List.set_append_left _ _ ht
theorem get_l {r : Store} {c : Cell} (h : st[t]? = some c) : (st ++ r)[t]? = some c := by rw [List.getElem?_append_left (List.getElem?_eq_some_iff.mp h).1]; exact h
theorem wires_ok {most : Nat} (h1 : 1 ≤ most) (h7 : most ≤ 7) (h : st[t]? = some (tapeC ns p a)) (hp : 0 ≤ p) (ha : 0 ≤ a) :
    ∃ ws p' a', m_law_wires [.ref t, .int most] st = .ok (tI ws) (st.set t (tapeC ns p' a')) ∧ Good ws ∧ 1 ≤ ws.length ∧ ws.length ≤ 7 ∧ 0 ≤ p' ∧ 0 ≤ a' := by
  have ht : t < st.length := (List.getElem?_eq_some_iff.mp h).1
  have hS : ∀ c (r : Store), (st.set t c ++ r)[t]? = some c := fun c r => get_l (tape_set h c)
  have hW : ∀ c d (r : Store), (st.set t c ++ r).set t d = st.set t d ++ r := fun c d r => by rw [set_l (by simpa using ht), set_set]
  obtain ⟨f, p1, a1, e1, f0, f1, hp1, ha1⟩ := draw (st := st ++ [.lst []]) (many := most) (get_l h) hp ha (by omega) (by omega)
  rw [set_l ht] at e1
  obtain ⟨n, rfl⟩ : ∃ n : Nat, f = n := ⟨f.toNat, by omega⟩
  have key : NxP (forM (.nm 3) (rng1S (aC (opM (addW false) (cM (.int 1)) (bM (nxF m_law_draw) (aC (vM 0) (aC (vM 1) aN)))) aN))
    (exprM (mlM appF (vM 2) (aC (opM ixW (lstM false (aC (bM (nxF m_law_draw) (aC (vM 0) (aC (opM (addW false) (vM 3) (cM (.int 1))) aN))) (aC (vM 3) (aC (cM (.int 0)) aN)))) (bM (nxF m_law_draw) (aC (vM 0) (aC (cM (.int 3)) aN)))) aN))) [some (.ref t), some (.int most), some (.ref st.length), none] (st ++ [.lst []]))
    (fun ls st' => ∃ acc p' a' x, ls = [some (.ref t), some (.int most), some (.ref st.length), x] ∧ st' = st.set t (tapeC ns p' a') ++ [.lst (iW acc)] ∧ acc.length = 1 + n ∧ (∀ (i q : Nat), acc[i]? = some q → q ≤ i) ∧ 0 ≤ p' ∧ 0 ≤ a') := by
    have hr : rngOk (1 + (n : Int)) = true := rngOk_of (by omega) (by omega)
    have hlen : (intsW 0 (1 + (n : Int)).toNat).length = 1 + n := by rw [intsW_len]; omega
    rw [← hlen]
    refine for_nx (gd := none) (ws := intsW 0 (1 + (n : Int)).toNat) (st1 := st.set t (tapeC ns p1 a1) ++ [.lst []]) ?hs (fun j ls st' => ∃ acc p' a' x, ls = [some (.ref t), some (.int most), some (.ref st.length), x] ∧ st' = st.set t (tapeC ns p' a') ++ [.lst (iW acc)] ∧ acc.length = j ∧ (∀ (i q : Nat), acc[i]? = some q → q ≤ i) ∧ 0 ≤ p' ∧ 0 ≤ a')
      ⟨[], p1, a1, _, rfl, rfl, rfl, fun i q h => by simp at h, hp1, ha1⟩ (fun _ _ _ _ => rfl) ?_
    case hs => exact rng1_ok (j := 1 + (n : Int)) (by simp [e1]) hr (Nat.le_of_lt (sizeLine_of (by omega)))
    rintro j ls st' w ⟨acc, p', a', x, rfl, rfl, hj, hacc, hp', ha'⟩ hw
    have hjn : j < 1 + n := by
      have := (List.getElem?_eq_some_iff.mp hw).1
      omega
    rw [intsW_get (by omega)] at hw
    cases hw
    refine ⟨_, rfl, ?_⟩
    obtain ⟨g, p2, a2, e2, g0, g1, hp2, ha2⟩ := draw (st := st.set t (tapeC ns p' a') ++ [.lst (iW acc)]) (many := 0 + (j : Nat) + 1) (hS _ _) hp' ha' (by omega) (by omega)
    rw [hW] at e2
    obtain ⟨h3, p3, a3, e3, b0, b1, hp3, ha3⟩ := draw (st := st.set t (tapeC ns p2 a2) ++ [.lst (iW acc)]) (many := 3) (hS _ _) hp2 ha2 (by omega) (by omega)
    rw [hW] at e3
    -- what is taken
    obtain ⟨q, hq, hqj⟩ : ∃ q : Nat, ixW (.lst [.int g, .int (0 + (j : Nat)), .int 0]) (.int h3) (st.set t (tapeC ns p3 a3) ++ [.lst (iW acc)]) = .ok (.int q) (st.set t (tapeC ns p3 a3) ++ [.lst (iW acc)]) ∧ q ≤ j := by
      have : h3 = 0 ∨ h3 = 1 ∨ h3 = 2 := by omega
      rcases this with rfl | rfl | rfl
      · obtain ⟨g', rfl⟩ : ∃ g' : Nat, g = g' := ⟨g.toNat, by omega⟩
        exact ⟨g', ix_lst (k := 0) rfl, by omega⟩
      · exact ⟨j, ix_lst (k := 1) (by simp), Nat.le_refl _⟩
      · exact ⟨0, ix_lst (k := 2) rfl, Nat.zero_le _⟩
    have hc : (st.set t (tapeC ns p3 a3) ++ [Cell.lst (iW acc)])[st.length]? = some (.lst (iW acc)) := by
      rw [List.getElem?_append_right (by simp)]; simp
    refine nx_of (expr_ok (ml_ok (st1 := st.set t (tapeC ns p' a') ++ [.lst (iW acc)]) (st2 := st.set t (tapeC ns p3 a3) ++ [.lst (iW acc)]) (ws := [.int q]) (w := .ref st.length) rfl (asL_isSome (xs := iW acc) (by rw [List.getElem?_append_right (by simp)]; simp)) ?_ (app_ok hc (sizeLine_of (by simp; omega))))) ⟨acc ++ [q], p3, a3, _, rfl, ?_, by simp [hj], fun i r hr' => ?_, hp3, ha3⟩
    · simp only [aC, aN, opM, lstM, bM, cM, List.set_cons_zero, List.set_cons_succ, vM0, vMs, Res.bind_ok, addW_ii, e2, e3, List.length_cons, List.length_nil, Nat.zero_add, Nat.reduceAdd, szB3, if_true, newL_f, hq]
    · rw [List.set_append_right _ _ (by simp)]
      simp
    · by_cases hi : i < acc.length
      · rw [List.getElem?_append_left hi] at hr'; exact hacc i r hr'
      · have := (List.getElem?_eq_some_iff.mp hr').1
        simp at this
        have hi : i = acc.length := by omega
        subst hi
        simp at hr'
        omega
  obtain ⟨ls, st', e, acc, p', a', x, rfl, rfl, hl, hacc, hp', ha'⟩ := key
  have hz : setM 2 (lstM true aN) (startL 4 [.ref t, .int most]) st = .nx [some (.ref t), some (.int most), some (.ref st.length), none] (st ++ [.lst []]) := set_ok (by simp)
  refine ⟨acc, p', a', fun_set (t := [.lst (iW acc)]) rfl (seq_nx hz (seq_nx e (ret_ok ?_))) tape_low (by simp), ⟨by omega, hacc⟩, by omega, by omega, hp', ha'⟩
  have hc : (st.set t (tapeC ns p' a') ++ [Cell.lst (iW acc)])[st.length]? = some (.lst (iW acc)) := by
    rw [List.getElem?_append_right (by simp)]; simp
  have : tupleF [.ref st.length] (st.set t (tapeC ns p' a') ++ [Cell.lst (iW acc)]) = .ok (tI acc) (st.set t (tapeC ns p' a') ++ [Cell.lst (iW acc)]) := by
    unfold tupleF; simp only [asL_ref hc]
  simp [this]
end
end Lk26

set_option Elab.async false
set_option linter.all false
set_option maxRecDepth 100000
namespace Lk26
open PySem L2 VM
theorem fp {ws : List Nat} (hg : Good ws) (st : Store) : ∃ plan, nxF m_find_plan [tI ws] st = .ok (.tup [.int (nd ws (allOf ws)), plan]) st := by
  obtain ⟨plan, h⟩ := find_ok hg st
  exact ⟨plan, nxF_ok h⟩
theorem fst_ok {x y : W} {st : Store} : ixW (.tup [x, y]) (.int 0) st = .ok x st := ix_tup (k := 0) rfl
theorem ints_range (n : Nat) : intsW 0 n = iW (List.range n) := by simp [intsW, iW]
theorem mul_zero {m : Nat} (h1 : 1 ≤ m) (h8 : m ≤ 8) {st : Store} : mulA false (.tup [.int 0]) (.int m) st = .ok (tI (List.replicate m 0)) st := by
  unfold mulA
  by_cases e : m = 1
  · subst e; rfl
  · have e' : ¬ (m : Int) = 1 := by omega
    have h2 : (2 : Int) ≤ m := by omega
    have h3 : (m : Int) ≤ 1000 := by omega
    have e4 : (List.replicate m [W.int 0]).flatten = iW (List.replicate m 0) := by
      clear e e' h2 h3 h1 h8
      induction m with
      | zero => rfl
      | succ m ih => rw [List.replicate_succ, List.flatten_cons, ih, List.replicate_succ]; rfl
    simp [asT, e', h2, h3, e4]
theorem halving_ok {m : Nat} {st : Store} (h1 : 1 ≤ m) (h8 : m ≤ 8) {a b d e f g h i j : Option W} : bM lenF (aC (lcM false [9] (.nm 9) (rng1S (aC (cM (.int 4)) aN)) (tstM (opM ltM (opM shlW (cM (.int 1)) (vM 9)) (vM 2))) (vM 9)) aN) [a, b, some (.int m), d, e, f, g, h, i, j] st = .ok (.int ((List.range 4).filter fun k => decide (2 ^ k < m)).length) st := by
  have hr : rngOk 4 = true := rngOk_of (by omega) (by omega)
  have hl := lc_pure (tg := .nm 9) (gd := none) (st := st) (tt := tstM (opM ltM (opM shlW (cM (.int 1)) (vM 9)) (vM 2))) (te := vM 9) (ls := [a, b, some (.int m), d, e, f, g, h, i, none]) rfl
    (fun w => match w with | .int k => decide (2 ^ k.toNat < m) | _ => false) id (iW (List.range 4)) fun w hw => by
      obtain ⟨k, hk, rfl⟩ := List.mem_map.mp hw
      have hk4 : k < 4 := by simpa using hk
      refine ⟨_, rfl, ?_, fun _ => rfl⟩
      have e1 : powOk 1 (k : Int) = true := powOk_of (by omega) (by omega) (by decide)
      have e2 : (1 * 2 ^ k : Int) < m ↔ 2 ^ k < m := by rw [Int.one_mul]; exact_mod_cast Iff.rfl
      simp [e1]
      exact_mod_cast Iff.rfl
  rw [filt (q := fun k => decide (2 ^ k < m)) fun x => by simp] at hl
  have hs : rng1S (aC (cM (.int 4)) aN) [a, b, some (.int m), d, e, f, g, h, i, j] st = .ok ⟨iW (List.range 4), none⟩ st := by
    have := rng1_ok (ma := aC (cM (.int 4)) aN) (ls := [a, b, some (.int m), d, e, f, g, h, i, j]) (st := st) (j := 4) rfl hr (Nat.le_of_lt (sizeLine_of (by decide)))
    rw [this]; rfl
  have := lcM_ok (c := false) (vs := [9]) hs hl
  simp [this]
theorem law_true (ns : List Int) (_h : ns.length ≤ 63) : m_law [.scr ns] [] = .ok (.bl true) [] := by
  have key : ∃ p a, (seqM (setM 1 (lstM true (aC (bM (listF false) (aC (vM 0) aN)) (aC (cM (.int 0)) (aC (cM (.int 0)) aN)))))
    (seqM (forM (.nm 2) (rng2S (aC (cM (.int 1)) (aC (cM (.int 9)) aN)))
    (seqM (setM 3 (tupRgM (aC (vM 2) aN)))
      (seqM (setM 4 (bM lenF (aC (lcM false [9] (.nm 9) (rng1S (aC (cM (.int 4)) aN)) (tstM (opM ltM (opM shlW (cM (.int 1)) (vM 9)) (vM 2))) (vM 9)) aN)))
      (ifS (orT (tstM (opM neM (opM ixW (bM (nxF m_find_plan) (aC (vM 3) aN)) (cM (.int 0))) (vM 4))) (tstM (opM neM (opM ixW (bM (nxF m_find_plan) (aC (opM (mulA false) (tupM (aC (cM (.int 0)) aN)) (vM 2)) aN)) (cM (.int 0))) (opM subW (vM 2) (cM (.int 1))))))
      (retM (cM (.bl false)))
      nxS))))
    (seqM (forM (.nm 5) (rng1S (aC (cM (.int 3)) aN))
    (seqM (setM 6 (bM (nxF m_law_wires) (aC (vM 1) (aC (cM (.int 7)) aN))))
      (seqM (setM 7 (opM ixW (bM (nxF m_find_plan) (aC (vM 6) aN)) (cM (.int 0))))
      (seqM (setM 8 (opM (addW false) (vM 6) (tupM (aC (bM (nxF m_law_draw) (aC (vM 1) (aC (opM (addW false) (bM lenF (aC (vM 6) aN)) (cM (.int 1))) aN))) aN))))
      (seqM (ifS (orT (tstM (opM ltM (opM ixW (bM (nxF m_find_plan) (aC (vM 8) aN)) (cM (.int 0))) (vM 7))) (tstM (opM gtM (opM ixW (bM (nxF m_find_plan) (aC (vM 8) aN)) (cM (.int 0))) (opM (addW false) (vM 7) (cM (.int 1))))))
      (retM (cM (.bl false)))
      nxS)
      (ifS (orT (tstM (opM ltM (opM shlW (cM (.int 1)) (vM 7)) (bM lenF (aC (vM 6) aN)))) (tstM (opM gtM (vM 7) (opM subW (bM lenF (aC (vM 6) aN)) (cM (.int 1))))))
      (retM (cM (.bl false)))
      nxS))))))
    (retM (cM (.bl true)))))) [some (.scr ns), none, none, none, none, none, none, none, none, none] [] = .rt (.bl true) ([] ++ [tapeC ns p a]) := by
    refine seq_nxP (R := fun r => ∃ p a, r = .rt (.bl true) ([] ++ [tapeC ns p a])) (set_to (ls' := [some (.scr ns), some (.ref 0), none, none, none, none, none, none, none, none]) (w := .ref 0) (st1 := [tapeC ns 0 0]) (by
      have : listF false [.scr ns] [] = .ok (.lst (ns.map .int)) [] := rfl
      simp [this, tapeC])) ?_
    -- the rows and the stars
    refine seq_exP (R := fun r => ∃ p a, r = .rt (.bl true) ([] ++ [tapeC ns p a])) (for_nx (gd := none) (ws := intsW 1 (9 - 1 : Int).toNat) (st1 := [tapeC ns 0 0]) (rng2_ok rfl (rngOk_of (by omega) (by omega)) (rngOk_of (by omega) (by omega)) (Nat.le_of_lt (sizeLine_of (by decide)))) (fun j ls st => ∃ x y z, ls = [some (.scr ns), some (.ref 0), x, y, z, none, none, none, none, none] ∧ st = [tapeC ns 0 0]) ⟨_, _, _, rfl, rfl⟩ (fun _ _ _ _ => rfl) ?_) ?_
    · rintro j ls st w ⟨x, y, z, rfl, rfl⟩ hw
      have hj : j < 8 := by
        have := (List.getElem?_eq_some_iff.mp hw).1
        rw [intsW_len] at this
        exact this
      rw [intsW_get (show j < (9 - 1 : Int).toNat from hj)] at hw
      have hw : W.int ((j + 1 : Nat) : Int) = w := by
        have := Option.some.inj hw
        rw [← this]
        congr 1
        omega
      subst hw
      refine ⟨[some (.scr ns), some (.ref 0), some (.int ((j + 1 : Nat) : Int)), y, z, none, none, none, none, none], rfl, ?_⟩
      obtain ⟨p1, e1⟩ := fp (ws := List.range (j + 1)) (good_row (by omega)) [tapeC ns 0 0]
      obtain ⟨p2, e2⟩ := fp (ws := List.replicate (j + 1) 0) (good_star (by omega)) [tapeC ns 0 0]
      rw [row_ok (by omega) (by omega)] at e1
      rw [star_ok (by omega) (by omega)] at e2
      refine seq_nxP (R := fun r => NxP r _) (set_to (ls' := [some (.scr ns), some (.ref 0), some (.int ((j + 1 : Nat) : Int)), some (tI (List.range (j + 1))), z, none, none, none, none, none]) (w := tI (List.range (j + 1))) (st1 := [tapeC ns 0 0]) ?_) ?_
      · refine (tupRg1_ok (j := ((j + 1 : Nat) : Int)) rfl (rgOk2_of (by omega) (by omega) (by omega) (by omega))).trans ?_
        rw [show (((j + 1 : Nat) : Int) - 0).toNat = j + 1 by omega, ints_range]
      refine seq_nxP (R := fun r => NxP r _) (set_to (ls' := [some (.scr ns), some (.ref 0), some (.int ((j + 1 : Nat) : Int)), some (tI (List.range (j + 1))), some (.int ((List.range 4).filter fun k => decide (2 ^ k < j + 1)).length), none, none, none, none, none]) (halving_ok (by omega) (by omega))) ?_
      refine nx_of (if_f (st1 := [tapeC ns 0 0]) ?_ rfl) ⟨_, _, _, rfl, rfl⟩
      have e3 := mul_zero (m := j + 1) (by omega) (by omega) (st := [tapeC ns 0 0])
      simp only [orT, tstM, opM, bM, aC, aN, cM, tupM, vM0, vMs, Res.bind_ok, e1, e2, e3, fst_ok, neM_ii, subW_ii, List.length_cons, List.length_nil, Nat.zero_add, szB1, if_true]
      have h0 : ((j + 1 - 1 : Nat) : Int) = ((j + 1 : Nat) : Int) - 1 := by omega
      simp [h0]
    · rintro ls st ⟨x, y, z, rfl, rfl⟩
      refine seq_exP (R := fun r => ∃ p a, r = .rt (.bl true) ([] ++ [tapeC ns p a])) (for_nx (gd := none) (ws := intsW 0 (3 : Int).toNat) (st1 := [tapeC ns 0 0]) (rng1_ok rfl (rngOk_of (by omega) (by omega)) (Nat.le_of_lt (sizeLine_of (by decide)))) (fun j ls st => ∃ x2 x3 x4 x5 x6 x7 x8 p a, ls = [some (.scr ns), some (.ref 0), x2, x3, x4, x5, x6, x7, x8, none] ∧ st = [tapeC ns p a] ∧ 0 ≤ p ∧ 0 ≤ a) ⟨_, _, _, _, _, _, _, 0, 0, rfl, rfl, Int.le_refl _, Int.le_refl _⟩ (fun _ _ _ _ => rfl) ?_) ?_
      · rintro j ls st w ⟨x2, x3, x4, x5, x6, x7, x8, p, a, rfl, rfl, hp, ha⟩ hw
        refine ⟨[some (.scr ns), some (.ref 0), x2, x3, x4, some w, x6, x7, x8, none], rfl, ?_⟩
        obtain ⟨ws, p1, a1, e1, hg, l1, l7, hp1, ha1⟩ := wires_ok (ns := ns) (t := 0) (st := [tapeC ns p a]) (most := 7) (by omega) (by omega) rfl hp ha
        have e1 := nxF_ok e1
        rw [show ([tapeC ns p a] : Store).set 0 (tapeC ns p1 a1) = [tapeC ns p1 a1] from rfl] at e1
        obtain ⟨q1, e2⟩ := fp hg [tapeC ns p1 a1]
        obtain ⟨f, p2, a2, e3, f0, f1, hp2, ha2⟩ := draw (ns := ns) (t := 0) (st := [tapeC ns p1 a1]) (many := (ws.length : Int) + 1) rfl hp1 ha1 (by omega) (by omega)
        rw [show ([tapeC ns p1 a1] : Store).set 0 (tapeC ns p2 a2) = [tapeC ns p2 a2] from rfl] at e3
        obtain ⟨n, rfl⟩ : ∃ n : Nat, f = n := ⟨f.toNat, by omega⟩
        have hn : n ≤ ws.length := by omega
        obtain ⟨q2, e4⟩ := fp (good_more hg hn l7) [tapeC ns p2 a2]
        have hm := more_ok hg hn l7
        have hlen : (allOf ws).length = ws.length := by simp [allOf]
        have hup := nd_up hg _ (allOf ws) (Nat.le_refl _) (.refl _)
        have hlo := nd_low hg _ (allOf ws) (Nat.le_refl _) (.refl _)
        rw [hlen] at hup hlo
        generalize nd ws (allOf ws) = A at *
        generalize nd (ws ++ [n]) (allOf (ws ++ [n])) = B at *
        refine seq_nxP (R := fun r => NxP r _) (set_to (ls' := [some (.scr ns), some (.ref 0), x2, x3, x4, some w, some (tI ws), x7, x8, none]) (w := tI ws) (st1 := [tapeC ns p1 a1]) ?_) ?_
        · simpa using e1
        refine seq_nxP (R := fun r => NxP r _) (set_to (ls' := [some (.scr ns), some (.ref 0), x2, x3, x4, some w, some (tI ws), some (.int A), x8, none]) (w := .int A) (st1 := [tapeC ns p1 a1]) ?_) ?_
        · simp only [opM, bM, aC, aN, cM, vM0, vMs, Res.bind_ok, e2, fst_ok]
        refine seq_nxP (R := fun r => NxP r _) (set_to (ls' := [some (.scr ns), some (.ref 0), x2, x3, x4, some w, some (tI ws), some (.int A), some (tI (ws ++ [n])), none]) (w := tI (ws ++ [n])) (st1 := [tapeC ns p2 a2]) ?_) ?_
        · have hadd : addW false (tI ws) (.tup [.int n]) [tapeC ns p2 a2] = .ok (tI (ws ++ [n])) [tapeC ns p2 a2] := by
            have hz : szB ((iW ws).length + [W.int (n : Int)].length) = true := szB_of (by simp; omega)
            unfold addW
            simp only [hz, if_true]
            simp [iW]
          simp only [opM, tupM, bM, aC, aN, cM, vM0, vMs, Res.bind_ok, len_tup, List.length_map, addW_ii, e3, List.length_cons, List.length_nil, Nat.zero_add, szB1, if_true, hadd]
        refine seq_nxP (R := fun r => NxP r _) (if_f (st1 := [tapeC ns p2 a2]) (r := .nx [some (.scr ns), some (.ref 0), x2, x3, x4, some w, some (tI ws), some (.int A), some (tI (ws ++ [n])), none] [tapeC ns p2 a2]) ?_ rfl) ?_
        · have h1 : ¬ ((B : Nat) : Int) < A := by omega
          have h2 : ¬ ((A : Nat) : Int) + 1 < B := by omega
          simp only [orT, tstM, opM, bM, aC, aN, cM, vM0, vMs, Res.bind_ok, e4, fst_ok, ltM_ii, gtM_ii, addW_ii, h1, h2, decide_false, if_false, Bool.false_eq_true]
        refine nx_of (if_f (st1 := [tapeC ns p2 a2]) ?_ rfl) ⟨_, _, _, _, _, _, _, p2, a2, rfl, rfl, hp2, ha2⟩
        have hpw : powOk 1 (A : Int) = true := powOk_of (by omega) (by omega) (by decide)
        have h1 : ¬ (1 : Int) * 2 ^ A < (ws.length : Int) := by
          have : ((2 ^ A : Nat) : Int) = (2 : Int) ^ A := by simp
          rw [Int.one_mul, ← this]
          omega
        have h2 : ¬ (ws.length : Int) - 1 < A := by omega
        simp only [orT, tstM, opM, bM, aC, aN, cM, vM0, vMs, Res.bind_ok, shlW_ii, hpw, if_true, len_tup, List.length_map, ltM_ii, gtM_ii, subW_ii, Int.toNat_natCast, h1, h2, decide_false, if_false, Bool.false_eq_true]
      · rintro ls st ⟨x2, x3, x4, x5, x6, x7, x8, p, a, rfl, rfl, _, _⟩
        exact ⟨p, a, rfl⟩
  obtain ⟨p, a, e⟩ := key
  exact fun_ok (t := [tapeC ns p a]) rfl e rfl
end Lk26

open PySem PySem.W PyProof.Rows in
set_option maxRecDepth 100000 in
set_option maxHeartbeats 0 in
theorem PySem.Challenge.cw_wirehouse_k26_whole_known_finds_holds : PySem.Challenge.rw_wirehouse_k26_whole_known_finds.Holds := by
  w_on; o_law; k_head; (case hw => w_witness2)
  k_fill
  refine VM.walk_vm (l := PySem.Challenge.rw_wirehouse_k26_whole_known_finds) (k := 31) (F := Lk26.m_law) (cl := fun _ _ => 0) rfl rfl ⟨rfl, by decide, by decide⟩ (fun w h Y => PySem.W.kIn_of Y) ?F Lk26.law_true
  case F =>
    intro w mg fa h KX G hmg
    refine' Lk26.all_mk KX G hmg ?a0 ?l0 ?c0 ?k0 ?a1 ?l1 ?c1 ?k1 ?a2 ?l2 ?c2 ?k2 ?a3 ?l3 ?c3 ?k3 ?a4 ?l4 ?c4 ?k4 ?a5 ?l5 ?c5 ?k5 ?a6 ?l6 ?c6 ?k6 ?a7 ?l7 ?c7 ?k7 ?a8 ?l8 ?c8 ?k8 ?a9 ?l9 ?c9 ?k9 ?z_len ?z_list ?z_max ?z_min ?z_range ?z_tuple
    (case a0 => k_is)
    (case l0 => k_is)
    (case c0 => k_is)
    (case k0 => k_is)
    (case a1 => k_is)
    (case l1 => k_is)
    (case c1 => k_is)
    (case k1 => k_is)
    (case a2 => k_is)
    (case l2 => k_is)
    (case c2 => k_is)
    (case k2 => k_is)
    (case a3 => k_is)
    (case l3 => k_is)
    (case c3 => k_is)
    (case k3 => k_is)
    (case a4 => k_is)
    (case l4 => k_is)
    (case c4 => k_is)
    (case k4 => k_is)
    (case a5 => k_is)
    (case l5 => k_is)
    (case c5 => k_is)
    (case k5 => k_is)
    (case a6 => k_is)
    (case l6 => k_is)
    (case c6 => k_is)
    (case k6 => k_is)
    (case a7 => k_is)
    (case l7 => k_is)
    (case c7 => k_is)
    (case k7 => k_is)
    (case a8 => k_is)
    (case l8 => k_is)
    (case c8 => k_is)
    (case k8 => k_is)
    (case a9 => k_is)
    (case l9 => k_is)
    (case c9 => k_is)
    (case k9 => k_is)
    (case z_len => k_is)
    (case z_list => k_is)
    (case z_max => k_is)
    (case z_min => k_is)
    (case z_range => k_is)
    (case z_tuple => k_is)
