import PyProof.Rows.All
import HandS.ForMost
import HandS.ForExc
import HandS.Lambda
import HandS.Wide
import HandS.TupMul
import HandS.TupAny
import HandS.Deep
import HandS.Flow
import HandS.IsInst
import HandS.RaiseMore
import HandS.Style
import HandS.ExcCtx
import HandS.ExcOwn
import HandS.Small
import HandS.Iter
import HandS.FStr
import HandS.SetFor
import HandS.Text
import HandS.Strs
import HandS.List
import HandS.Dict
import HandS.EndTab
import HandS.CallSlots
import HandS.ExcInit
import HandS.HotCalls
import HandS.ExcIs
import KE.KExcIs
import HandS.ExcField
import OpenK.AllK
import Wide.FinOn
import HandS.Codes
import PySem.Challenge.RW_waterheads_k73_texts_that_write_no_fract
set_option Elab.async false
set_option linter.all false
set_option maxRecDepth 100000
set_option maxHeartbeats 1000000
/-! Fw1: data, the abstract state of a body, how both stand to the hand layer's heap. -/
namespace Fw
open PySem PySem.Spec PyProof.Rows L2

/-- data -/
inductive D where
  | non | bl (b : Bool) | int (i : Int) | str (x : Str) | tup (xs : List D) | lst (xs : List D) | dic (es : List (D × D)) | obj (n : Nat) | scr (ns : List Int) | ty (n : String) | exc (a : Nat) | exf (a dd : Nat) (fs : List (Str × D))
  deriving Inhabited

mutual
inductive Rep (K : PySem.W.Frag) (F : Hp) (α : List Addr) : V → D → Prop
  | non : Rep K F α .non .non
  | bl (b : Bool) : Rep K F α (.bl b) (.bl b)
  | int (i : Int) : Rep K F α (.int i) (.int i)
  | str (x : Str) : Rep K F α (.str x) (.str x)
  | tup {a : Addr} {vs : List V} {ds : List D} : SqT K F a vs → Reps K F α vs ds → Rep K F α (.ref a) (.tup ds)
  | lst {a : Addr} {vs : List V} {ds : List D} : F a = some (.lst vs) → Reps K F α vs ds → Rep K F α (.ref a) (.lst ds)
  | scr {a : Addr} {ns : List Int} : SqL K F a (ns.map V.int) → Rep K F α (.ref a) (.scr ns)
  | dic {a : Addr} {kvs : List (Key × V)} {es : List (D × D)} : Rd F a (.dK kvs) → Reps K F α (kvs.map fun p => kV p.1) (es.map (·.1)) → Reps K F α (kvs.map (·.2)) (es.map (·.2)) → Rep K F α (.ref a) (.dic es)
  | obj {a : Addr} {n : Nat} : α[n]? = some a → Rep K F α (.ref a) (.obj n)
  | ty (n : String) : Rep K F α (.ty n) (.ty n)
  | exc (a : Addr) : Rep K F α (.ref a) (.exc a)
  | exf {a dd : Addr} {vfs : List (Str × V)} {fs : List (Str × D)} : F dd = some (.xd vfs) → vfs.map (·.1) = fs.map (·.1) → Reps K F α (vfs.map (·.2)) (fs.map (·.2)) → Rep K F α (.ref a) (.exf a dd fs)
inductive Reps (K : PySem.W.Frag) (F : Hp) (α : List Addr) : List V → List D → Prop
  | nil : Reps K F α [] []
  | cons {v : V} {vs : List V} {d : D} {ds : List D} : Rep K F α v d → Reps K F α vs ds → Reps K F α (v :: vs) (d :: ds)
end

def Sub (F F' : Hp) : Prop := ∀ a o, F a = some o → F' a = some o
theorem Sub.refl (F : Hp) : Sub F F := fun _ _ h => h
theorem Sub.trans {F G H : Hp} (a : Sub F G) (b : Sub G H) : Sub F H := fun x o h => b x o (a x o h)
theorem Sub.upd {F : Hp} {p : Addr} {o : HO} (h : F p = none) : Sub F (upd F p o) := fun a u e => by
  rw [upd_ne (ne_of_none e h)]; exact e
theorem Sub.rd {F F' : Hp} {a : Addr} {u : HO} (e : Sub F F') (h : Rd F a u) : Rd F' a u := by
  rcases h with h | ⟨o, h⟩
  · exact .inl (e a _ h)
  · exact .inr ⟨o, e a _ h⟩
theorem Sub.l {K : PySem.W.Frag} {F F' : Hp} {a : Addr} {xs : List V} (e : Sub F F') (h : SqL K F a xs) : SqL K F' a xs := h.imp (fun h => e.rd h) id
theorem Sub.t {K : PySem.W.Frag} {F F' : Hp} {a : Addr} {xs : List V} (e : Sub F F') (h : SqT K F a xs) : SqT K F' a xs := h.imp (fun h => e.rd h) id
theorem pre_get {α α' : List Addr} (p : α <+: α') {n : Nat} {a : Addr} (h : α[n]? = some a) : α'[n]? = some a := by
  obtain ⟨t, rfl⟩ := p
  rw [List.getElem?_append_left (List.getElem?_eq_some_iff.mp h).1]; exact h

section
variable {K : PySem.W.Frag} {F F' : Hp} {α α' : List Addr}
mutual
theorem Rep.up (e : Sub F F') (p : α <+: α') : ∀ {v : V} {d : D}, Rep K F α v d → Rep K F' α' v d
  | _, _, .non => .non
  | _, _, .bl b => .bl b
  | _, _, .int i => .int i
  | _, _, .str x => .str x
  | _, _, .tup h r => .tup (e.t h) (Reps.up e p r)
  | _, _, .lst h r => .lst (e _ _ h) (Reps.up e p r)
  | _, _, .scr h => .scr (e.l h)
  | _, _, .ty n => .ty n
  | _, _, .exc a => .exc a
  | _, _, .exf h n r => .exf (e _ _ h) n (Reps.up e p r)
  | _, _, .dic h r q => .dic (e.rd h) (Reps.up e p r) (Reps.up e p q)
  | _, _, .obj h => .obj (pre_get p h)
theorem Reps.up (e : Sub F F') (p : α <+: α') : ∀ {vs : List V} {ds : List D}, Reps K F α vs ds → Reps K F' α' vs ds
  | _, _, .nil => .nil
  | _, _, .cons h r => .cons (Rep.up e p h) (Reps.up e p r)
end
theorem Reps.len : ∀ {vs : List V} {ds : List D}, Reps K F α vs ds → vs.length = ds.length
  | _, _, .nil => rfl
  | _, _, .cons _ r => congrArg (· + 1) r.len
theorem Reps.app : ∀ {vs ws : List V} {ds es : List D}, Reps K F α vs ds → Reps K F α ws es → Reps K F α (vs ++ ws) (ds ++ es)
  | _, _, _, _, .nil, r => r
  | _, _, _, _, .cons h t, r => .cons h (t.app r)
theorem Reps.at : ∀ {vs : List V} {ds : List D} {i : Nat} {d : D}, Reps K F α vs ds → ds[i]? = some d → ∃ v, vs[i]? = some v ∧ Rep K F α v d
  | _, _, _, _, .nil, h => by simp at h
  | _, _, 0, _, .cons h t, e => by
    cases e
    exact ⟨_, rfl, h⟩
  | _, _, i + 1, _, .cons h t, e => by
    obtain ⟨v, q, r⟩ := t.at (i := i) (by simpa using e)
    exact ⟨v, by simpa using q, r⟩
theorem Reps.atV : ∀ {vs : List V} {ds : List D} {i : Nat} {v : V}, Reps K F α vs ds → vs[i]? = some v → ∃ d, ds[i]? = some d ∧ Rep K F α v d
  | _, _, _, _, .nil, h => by simp at h
  | _, _, 0, _, .cons h t, e => by
    cases e
    exact ⟨_, rfl, h⟩
  | _, _, i + 1, _, .cons h t, e => by
    obtain ⟨v, q, r⟩ := t.atV (i := i) (by simpa using e)
    exact ⟨v, by simpa using q, r⟩
theorem Reps.set : ∀ {vs : List V} {ds : List D} {v : V} {d : D} (i : Nat), Reps K F α vs ds → Rep K F α v d → Reps K F α (vs.set i v) (ds.set i d)
  | _, _, _, _, _, .nil, _ => .nil
  | _, _, _, _, 0, .cons _ t, r => .cons r t
  | _, _, _, _, i + 1, .cons h t, r => .cons h (t.set i r)
theorem Reps.drop : ∀ {vs : List V} {ds : List D} (i : Nat), Reps K F α vs ds → Reps K F α (vs.drop i) (ds.drop i)
  | _, _, 0, h => h
  | _, _, _ + 1, .nil => .nil
  | _, _, i + 1, .cons _ t => t.drop i
theorem Reps.take : ∀ {vs : List V} {ds : List D} (i : Nat), Reps K F α vs ds → Reps K F α (vs.take i) (ds.take i)
  | _, _, 0, h => .nil
  | _, _, _ + 1, .nil => .nil
  | _, _, i + 1, .cons h t => .cons h (t.take i)
theorem Reps.rev : ∀ {vs : List V} {ds : List D}, Reps K F α vs ds → Reps K F α vs.reverse ds.reverse
  | _, _, .nil => .nil
  | _, _, .cons h t => by
    rw [List.reverse_cons, List.reverse_cons]
    exact t.rev.app (.cons h .nil)
theorem Reps.ints : ∀ (ns : List Int), Reps K F α (ns.map V.int) (ns.map D.int)
  | [] => .nil
  | n :: ns => .cons (.int n) (Reps.ints ns)
end

/-! ### the state -/
/-- a mutable object that is known by its number -/
inductive Cell where
  | lst (xs : List D) | ins (c : Str) (fs : List (Str × D)) | dct (es : List (D × D))
  deriving Inhabited
/-- a slot: nothing, a thing that may be shared, a list or dict that is this slot's own -/
inductive Sl where
  | no | fz (d : D) | ow (d : D)
  deriving Inhabited
structure S where
  sl : List Sl
  st : List Cell
/-- a value in flight: shared, new and nobody's, or what slot i holds -/
inductive RV where
  | fz (d : D) | ow (d : D) | ln (i : Nat)
  deriving Inhabited
/-- an exception of one's own class: its name, its fields -/
structure Ex where
  cls : Str
  fs : List (Str × D)
inductive R (β : Type) where
  | ok (r : β) (s : S) | ex (x : Ex) (s : S) | bad

/-- what stands around: the written part, the tables of code objects, where the own classes stand -/
structure Ct where
  K : PySem.W.Frag
  T : List (Addr × Str)
  cl : Str → Addr
/-- the entry of a body -/
structure Bs where
  H : Hp
  F : Hp
  al : List Addr
def NoTbl : HO → Prop
  | .tbl _ => False
  | _ => True

section
variable (Γ : Ct) (B : Bs)
def OwnR (H F : Hp) (α : List Addr) (a : Addr) : D → Prop
  | .lst ds => ∃ vs, H a = some (.lst vs) ∧ Reps Γ.K F α vs ds
  | .dic es => ∃ kvs : List (Key × V), H a = some (.dK kvs) ∧ Reps Γ.K F α (kvs.map fun p => kV p.1) (es.map (·.1)) ∧ Reps Γ.K F α (kvs.map (·.2)) (es.map (·.2))
  | _ => False
def CellR (H F : Hp) (α : List Addr) (a : Addr) : Cell → Prop
  | .lst ds => ∃ vs, H a = some (.lst vs) ∧ Reps Γ.K F α vs ds
  | .ins c fs => ∃ dx vfs, H a = some (.ins (Γ.cl c) dx vfs) ∧ vfs.map (·.1) = fs.map (·.1) ∧ Reps Γ.K F α (vfs.map (·.2)) (fs.map (·.2))
  | .dct es => ∃ kvs : List (List Key × V), H a = some (.dT kvs) ∧ es.map (·.1) = kvs.map (fun p => D.tup (p.1.map fun k => match k with | .inl i => D.int i | .inr x => D.str x)) ∧ Reps Γ.K F α (kvs.map (·.2)) (es.map (·.2))
structure GR (H F : Hp) (α : List Addr) (st : List Cell) : Prop where
  sub : Sub F H
  nd : α.Nodup
  len : α.length = st.length
  cell : ∀ (n : Nat) (a : Addr) (c : Cell), α[n]? = some a → st[n]? = some c → CellR Γ H F α a c
  afz : ∀ a ∈ α, F a = none
  ext : Sub B.F F
  pre : B.al <+: α
  new : ∀ a ∈ α, a ∈ B.al ∨ B.H a = none
  keep : ∀ a o, B.H a = some o → a ∉ B.al → NoTbl o → H a = some o
  tin : ∀ a ps, H a = some (.tbl ps) → ∃ q, (a, q) ∈ Γ.T
  nofz : ∀ a o, B.H a = some o → B.F a = none → F a = none
  tabs : LamX.Tabs Γ.T H
  nt : ∀ q ∈ Γ.T, F q.1 = none
  btin : ∀ a ps, B.H a = some (.tbl ps) → ∃ q, (a, q) ∈ Γ.T
/-- a new thing that is nobody's or one slot's -/
structure NewR (H F : Hp) (α : List Addr) (a : Addr) (d : D) : Prop where
  fz : F a = none
  bs : B.H a = none
  na : a ∉ α
  own : OwnR Γ H F α a d
def SlR (H F : Hp) (α : List Addr) (ov : Option V) : Sl → Prop
  | .no => True
  | .fz d => ∃ v, ov = some v ∧ Rep Γ.K F α v d
  | .ow d => ∃ a, ov = some (.ref a) ∧ NewR Γ B H F α a d
def OwAt (s : S) (ρ : L2.St) (i : Nat) (a : Addr) : Prop := (∃ d, s.sl[i]? = some (.ow d)) ∧ ρ[i]? = some (some (.ref a))
structure SR (η : List (Addr × D)) (ρ : L2.St) (H F : Hp) (α : List Addr) (s : S) : Prop where
  g : GR Γ B H F α s.st
  len : s.sl.length = ρ.length
  sl : ∀ (i : Nat) (x : Sl), s.sl[i]? = some x → SlR Γ B H F α (ρ[i]?.getD none) x
  dis : ∀ (i j : Nat) (a : Addr), OwAt s ρ i a → OwAt s ρ j a → i = j
  hid : ∀ p ∈ η, NewR Γ B H F α p.1 p.2
  hnd : (η.map (·.1)).Nodup
  hds : ∀ (i : Nat) (a : Addr), OwAt s ρ i a → a ∉ η.map (·.1)
def RR (η : List (Addr × D)) (ρ : L2.St) (H F : Hp) (α : List Addr) (s : S) (v : V) : RV → Prop
  | .fz d => Rep Γ.K F α v d
  | .ow d => ∃ a, v = .ref a ∧ NewR Γ B H F α a d ∧ (∀ i, ¬ OwAt s ρ i a) ∧ a ∉ η.map (·.1)
  | .ln i => ρ[i]? = some (some v)
end

section
variable {Γ : Ct} {B : Bs} {H H' F F' : Hp} {α α' : List Addr} {st : List Cell} {s : S} {ρ : L2.St} {η : List (Addr × D)} {a p : Addr} {o : HO} {d : D} {v : V}
theorem OwnR.up (e : Sub F F') (pr : α <+: α') (h : OwnR Γ H F α a d) : OwnR Γ H F' α' a d := by
  cases d with
  | lst ds => obtain ⟨vs, q, r⟩ := h; exact ⟨vs, q, r.up e pr⟩
  | dic es => obtain ⟨kvs, q, r, r'⟩ := h; exact ⟨kvs, q, r.up e pr, r'.up e pr⟩
  | _ => exact h
theorem OwnR.hp (k : ∀ o, H a = some o → NoTbl o → H' a = some o) (h : OwnR Γ H F α a d) : OwnR Γ H' F α a d := by
  cases d with
  | lst ds => obtain ⟨vs, q, r⟩ := h; exact ⟨vs, k _ q trivial, r⟩
  | dic es => obtain ⟨kvs, q, r, r'⟩ := h; exact ⟨kvs, k _ q trivial, r, r'⟩
  | _ => exact h
theorem OwnR.there (h : OwnR Γ H F α a d) : ∃ o, H a = some o ∧ NoTbl o := by
  cases d with
  | lst ds => obtain ⟨vs, q, r⟩ := h; exact ⟨_, q, trivial⟩
  | dic es => obtain ⟨kvs, q, r, r'⟩ := h; exact ⟨_, q, trivial⟩
  | _ => exact h.elim
theorem CellR.up {c : Cell} (e : Sub F F') (pr : α <+: α') (h : CellR Γ H F α a c) : CellR Γ H F' α' a c := by
  cases c with
  | lst ds => obtain ⟨vs, q, r⟩ := h; exact ⟨vs, q, r.up e pr⟩
  | ins c fs => obtain ⟨dx, vfs, q, n, r⟩ := h; exact ⟨dx, vfs, q, n, r.up e pr⟩
  | dct es => obtain ⟨kvs, q, n, r⟩ := h; exact ⟨kvs, q, n, r.up e pr⟩
theorem CellR.hp {c : Cell} (k : ∀ o, H a = some o → NoTbl o → H' a = some o) (h : CellR Γ H F α a c) : CellR Γ H' F α a c := by
  cases c with
  | lst ds => obtain ⟨vs, q, r⟩ := h; exact ⟨vs, k _ q trivial, r⟩
  | ins c fs => obtain ⟨dx, vfs, q, r⟩ := h; exact ⟨dx, vfs, k _ q trivial, r⟩
  | dct es => obtain ⟨kvs, q, n, r⟩ := h; exact ⟨kvs, k _ q trivial, n, r⟩
theorem CellR.there {c : Cell} (h : CellR Γ H F α a c) : ∃ o, H a = some o ∧ NoTbl o := by
  cases c with
  | lst ds => obtain ⟨vs, q, r⟩ := h; exact ⟨_, q, trivial⟩
  | ins c fs => obtain ⟨dx, vfs, q, r⟩ := h; exact ⟨_, q, trivial⟩
  | dct es => obtain ⟨kvs, q, n, r⟩ := h; exact ⟨_, q, trivial⟩
theorem GR.there (g : GR Γ B H F α st) (h : a ∈ α) : ∃ o, H a = some o ∧ NoTbl o := by
  obtain ⟨n, hn, e⟩ := List.getElem_of_mem h
  have hn' : n < st.length := by rw [← g.len]; exact hn
  exact (g.cell n a st[n] (by rw [List.getElem?_eq_getElem hn, e]) (List.getElem?_eq_getElem hn')).there
/-- what H does not know was not known at the entry -/
theorem GR.fresh (g : GR Γ B H F α st) (h : H p = none) : B.H p = none ∧ F p = none ∧ p ∉ α := by
  have h1 : p ∉ α := fun z => by obtain ⟨o, q, _⟩ := g.there z; rw [h] at q; cases q
  refine ⟨?_, ?_, h1⟩
  · cases e : B.H p with
    | none => rfl
    | some o =>
      by_cases t : NoTbl o
      · have := g.keep p o e (fun z => h1 (g.pre.subset z)) t
        rw [h] at this; cases this
      · cases o with
        | tbl ps => obtain ⟨q, hq⟩ := g.btin p ps e; obtain ⟨ps', q1, _⟩ := g.tabs _ hq; rw [h] at q1; cases q1
        | _ => exact absurd trivial t
  · cases e : F p with
    | none => rfl
    | some o => have := g.sub p o e; rw [h] at this; cases this
theorem NewR.up (e : Sub F F') (hf : F' a = none) (h : NewR Γ B H F α a d) : NewR Γ B H F' α a d := ⟨hf, h.bs, h.na, h.own.up e (List.prefix_rfl)⟩
theorem NewR.hp (k : ∀ o, H a = some o → NoTbl o → H' a = some o) (h : NewR Γ B H F α a d) : NewR Γ B H' F α a d := ⟨h.fz, h.bs, h.na, h.own.hp k⟩
theorem SlR.hp {ov : Option V} {x : Sl} (k : Sub H H') (h : SlR Γ B H F α ov x) : SlR Γ B H' F α ov x := by
  cases x with
  | no => trivial
  | fz d => exact h
  | ow d => obtain ⟨a, e, n⟩ := h; exact ⟨a, e, n.hp fun o q _ => k a o q⟩
/-- H grows -/
theorem GR.hp (g : GR Γ B H F α st) (k : Sub H H') (kt : ∀ a ps, H' a = some (.tbl ps) → H a = some (.tbl ps)) : GR Γ B H' F α st where
  sub := g.sub.trans k
  nd := g.nd
  len := g.len
  cell := fun n a c h1 h2 => (g.cell n a c h1 h2).hp fun o q _ => k a o q
  afz := g.afz
  ext := g.ext
  pre := g.pre
  new := g.new
  keep := fun a o h1 h2 h3 => k a o (g.keep a o h1 h2 h3)
  tin := fun a ps h => g.tin a ps (kt a ps h)
  nt := g.nt
  btin := g.btin
  nofz := g.nofz
  tabs := g.tabs.ext k
theorem kt_upd (hp : H p = none) (nt : NoTbl o) : ∀ a ps, (upd H p o) a = some (.tbl ps) → H a = some (.tbl ps) := fun a ps h => by
  by_cases z : a = p
  · rw [z, upd_same] at h; cases h; exact nt.elim
  · rw [upd_ne z] at h; exact h
theorem SR.hp (h : SR Γ B η ρ H F α s) (k : Sub H H') (kt : ∀ a ps, H' a = some (.tbl ps) → H a = some (.tbl ps)) : SR Γ B η ρ H' F α s := ⟨h.g.hp k kt, h.len, fun i x e => (h.sl i x e).hp k, h.dis, fun p hp => (h.hid p hp).hp fun o q _ => k _ o q, h.hnd, h.hds⟩
theorem RR.hp {r : RV} (k : Sub H H') (h : RR Γ B η ρ H F α s v r) : RR Γ B η ρ H' F α s v r := by
  cases r with
  | fz d => exact h
  | ow d => obtain ⟨a, e, n, m⟩ := h; exact ⟨a, e, n.hp fun o q _ => k a o q, m⟩
  | ln i => exact h
/-- F grows by a thing that is nobody's -/
theorem GR.fr (g : GR Γ B H F α st) (nt : NoTbl o) (hp : H p = some o) (hf : F p = none) (hb : B.H p = none) (ha : p ∉ α) : GR Γ B H (upd F p o) α st where
  sub := fun a u e => by
    by_cases z : a = p
    · rw [z, upd_same] at e; cases e; rw [z]; exact hp
    · rw [upd_ne z] at e; exact g.sub a u e
  nd := g.nd
  len := g.len
  cell := fun n a c h1 h2 => (g.cell n a c h1 h2).up (Sub.upd hf) List.prefix_rfl
  afz := fun a h => by
    rw [upd_ne (show a ≠ p from fun z => ha (by rw [← z]; exact h))]
    exact g.afz a h
  ext := g.ext.trans (Sub.upd hf)
  pre := g.pre
  new := g.new
  keep := g.keep
  tin := g.tin
  nt := fun q hq => by
    obtain ⟨ps, q1, _⟩ := g.tabs q hq
    rw [upd_ne (show q.1 ≠ p from fun z => by rw [z, hp] at q1; cases q1; exact nt)]
    exact g.nt q hq
  btin := g.btin
  nofz := fun a u h1 h2 => by
    rw [upd_ne (show a ≠ p from fun z => by rw [z, hb] at h1; cases h1)]
    exact g.nofz a u h1 h2
  tabs := g.tabs
theorem SR.fr (h : SR Γ B η ρ H F α s) (nt : NoTbl o) (hp : H p = some o) (hf : F p = none) (hb : B.H p = none) (ha : p ∉ α) (no : ∀ i, ¬ OwAt s ρ i p) (nh : p ∉ η.map (·.1)) : SR Γ B η ρ H (upd F p o) α s := by
  refine ⟨h.g.fr nt hp hf hb ha, h.len, fun i x e => ?_, h.dis, fun q hq => (h.hid q hq).up (Sub.upd hf) (by rw [upd_ne (show q.1 ≠ p from fun z => nh (z ▸ List.mem_map_of_mem hq))]; exact (h.hid q hq).fz), h.hnd, h.hds⟩
  have q := h.sl i x e
  cases x with
  | no => trivial
  | fz d => obtain ⟨v, e1, r⟩ := q; exact ⟨v, e1, r.up (Sub.upd hf) List.prefix_rfl⟩
  | ow d =>
    obtain ⟨a, e1, n⟩ := q
    have hne : a ≠ p := fun z => no i ⟨⟨d, e⟩, by
      cases hq : ρ[i]? with
      | none => rw [hq] at e1; cases e1
      | some y => rw [hq] at e1; rw [← z]; exact congrArg some e1⟩
    exact ⟨a, e1, n.up (Sub.upd hf) (by rw [upd_ne hne]; exact n.fz)⟩
theorem SR.at (h : SR Γ B η ρ H F α s) {i : Nat} {x : Sl} (e : s.sl[i]? = some x) : ∃ ov, ρ[i]? = some ov ∧ SlR Γ B H F α ov x := by
  have hl := (List.getElem?_eq_some_iff.mp e).1
  rw [h.len] at hl
  have q := h.sl i x e
  rw [List.getElem?_eq_getElem hl] at q
  exact ⟨_, List.getElem?_eq_getElem hl, q⟩
theorem SR.fresh (h : SR Γ B η ρ H F α s) (hp : H p = none) : (B.H p = none ∧ F p = none ∧ p ∉ α) ∧ (∀ i, ¬ OwAt s ρ i p) ∧ p ∉ η.map (·.1) := by
  refine ⟨h.g.fresh hp, fun i ⟨⟨d, e⟩, e2⟩ => ?_, fun z => ?_⟩
  rotate_left
  · obtain ⟨q, hq, rfl⟩ := List.mem_map.mp z
    obtain ⟨o, w, _⟩ := (h.hid q hq).own.there
    rw [hp] at w; cases w
  obtain ⟨ov, q, a, e1, n⟩ := h.at e
  rw [e2] at q; cases q; cases e1
  obtain ⟨o, z, _⟩ := n.own.there
  rw [hp] at z; cases z
/-- a new object that is shared from the start -/
theorem SR.newF (h : SR Γ B η ρ H F α s) (hp : H p = none) (nt : NoTbl o := by exact trivial) : SR Γ B η ρ (upd H p o) (upd F p o) α s :=
  let ⟨⟨a, b, c⟩, n, m⟩ := h.fresh hp
  (h.hp (Sub.upd hp) (kt_upd hp nt)).fr nt upd_same b a c n m
/-- a new object that is nobody's -/
theorem SR.newO (h : SR Γ B η ρ H F α s) (hp : H p = none) (nt : NoTbl o := by exact trivial) : SR Γ B η ρ (upd H p o) F α s := h.hp (Sub.upd hp) (kt_upd hp nt)
theorem SR.newN (h : SR Γ B η ρ H F α s) (hp : H p = none) (ow : OwnR Γ (upd H p o) F α p d) : RR Γ B η ρ (upd H p o) F α s (.ref p) (.ow d) :=
  let ⟨⟨a, b, c⟩, n, m⟩ := h.fresh hp
  ⟨p, rfl, ⟨b, a, c, ow⟩, n, m⟩
theorem OwnR.rep (h : OwnR Γ H F α a d) (hf : F a = none) : ∃ o, H a = some o ∧ NoTbl o ∧ Rep Γ.K (upd F a o) α (.ref a) d := by
  cases d with
  | lst ds => obtain ⟨vs, q, r⟩ := h; exact ⟨_, q, trivial, .lst upd_same (r.up (Sub.upd hf) List.prefix_rfl)⟩
  | dic es => obtain ⟨kvs, q, r, r'⟩ := h; exact ⟨_, q, trivial, .dic (.of upd_same) (r.up (Sub.upd hf) List.prefix_rfl) (r'.up (Sub.upd hf) List.prefix_rfl)⟩
  | _ => exact h.elim
/-- what is nobody's becomes shared -/
theorem SR.freeze (h : SR Γ B η ρ H F α s) (r : RR Γ B η ρ H F α s v (.ow d)) : ∃ F', Sub F F' ∧ SR Γ B η ρ H F' α s ∧ Rep Γ.K F' α v d := by
  obtain ⟨a, rfl, n, m, nh⟩ := r
  obtain ⟨o, q, nt, r⟩ := n.own.rep n.fz
  exact ⟨_, Sub.upd n.fz, h.fr nt q n.fz n.bs n.na m nh, r⟩
/-- a slot's own thing becomes shared -/
theorem SR.share {i : Nat} (h : SR Γ B η ρ H F α s) (e : s.sl[i]? = some (.ow d)) : ∃ v F', ρ[i]? = some (some v) ∧ Sub F F' ∧ SR Γ B η ρ H F' α { s with sl := s.sl.set i (.fz d) } ∧ Rep Γ.K F' α v d := by
  obtain ⟨ov, q, a, e1, n⟩ := h.at e
  subst e1
  obtain ⟨o, hp, nt, r⟩ := n.own.rep n.fz
  have hi := (List.getElem?_eq_some_iff.mp e).1
  have sub := Sub.upd (o := o) n.fz
  have k1 : ∀ {m : Nat} {dd : D}, (s.sl.set i (.fz d))[m]? = some (.ow dd) → s.sl[m]? = some (.ow dd) := fun {m dd} hm => by
    by_cases z : m = i
    · subst z; rw [List.getElem?_set_self hi] at hm; cases hm
    · rw [List.getElem?_set_ne (Ne.symm z)] at hm; exact hm
  have nh := h.hds i a ⟨⟨d, e⟩, q⟩
  refine ⟨_, _, q, sub, ⟨h.g.fr nt hp n.fz n.bs n.na, by simpa using h.len, fun j x ej => ?_, fun j k b ⟨⟨d1, h1⟩, h2⟩ ⟨⟨d2, h3⟩, h4⟩ => h.dis j k b ⟨⟨d1, k1 h1⟩, h2⟩ ⟨⟨d2, k1 h3⟩, h4⟩,
    fun q' hq => (h.hid q' hq).up sub (by rw [upd_ne (show q'.1 ≠ a from fun z => nh (z ▸ List.mem_map_of_mem hq))]; exact (h.hid q' hq).fz), h.hnd, fun j b ⟨⟨d1, h1⟩, h2⟩ => h.hds j b ⟨⟨d1, k1 h1⟩, h2⟩⟩, r⟩
  · by_cases z : j = i
    · subst z
      rw [List.getElem?_set_self hi] at ej; cases ej
      rw [q]; exact ⟨_, rfl, r⟩
    · rw [List.getElem?_set_ne (Ne.symm z)] at ej
      have w := h.sl j x ej
      cases x with
      | no => trivial
      | fz d => obtain ⟨v, e1, r⟩ := w; exact ⟨v, e1, r.up sub List.prefix_rfl⟩
      | ow d' =>
        obtain ⟨a', e1, n'⟩ := w
        have hne : a' ≠ a := fun zz => z (h.dis j i a ⟨⟨d', ej⟩, by
          cases hq : ρ[j]? with
          | none => rw [hq] at e1; cases e1
          | some y => rw [hq] at e1; rw [← zz]; exact congrArg some e1⟩ ⟨⟨d, e⟩, q⟩)
        exact ⟨a', e1, n'.up sub (by rw [upd_ne hne]; exact n'.fz)⟩
end

/-! ### reading values -/
def lookO (s : S) : D → D
  | .obj n => match s.st[n]? with
    | some (.lst ds) => .lst ds
    | _ => .obj n
  | d => d
def look (s : S) : RV → Option D
  | .fz d => some (lookO s d)
  | .ow d => some d
  | .ln i => match s.sl[i]? with
    | some (.ow d) => some d
    | some (.fz d) => some d
    | _ => none
def VR (Γ : Ct) (H F : Hp) (α : List Addr) (v : V) (d : D) : Prop := Rep Γ.K F α v d ∨ ∃ a, v = .ref a ∧ OwnR Γ H F α a d
section
variable {Γ : Ct} {B : Bs} {H H' F F' : Hp} {α α' : List Addr} {s : S} {ρ : L2.St} {η : List (Addr × D)} {a p : Addr} {o : HO} {d : D} {v : V} {r : RV}
theorem SR.view (h : SR Γ B η ρ H F α s) (rr : RR Γ B η ρ H F α s v r) (e : look s r = some d) : VR Γ H F α v d := by
  cases r with
  | fz d' =>
    cases e
    cases d' with
    | obj n =>
      show VR Γ H F α v (match s.st[n]? with | some (.lst ds) => .lst ds | _ => .obj n)
      cases q : s.st[n]? with
      | none => exact .inl rr
      | some c =>
        cases c with
        | lst ds =>
          cases rr with
          | obj ha => exact .inr ⟨_, rfl, h.g.cell n _ _ ha q⟩
        | _ => exact .inl rr
    | _ => exact .inl rr
  | ow d' => cases e; obtain ⟨a, rfl, n, _⟩ := rr; exact .inr ⟨a, rfl, n.own⟩
  | ln i =>
    have hv : ρ[i]? = some (some v) := rr
    unfold look at e
    cases q : s.sl[i]? with
    | none => simp [q] at e
    | some x =>
      cases x with
      | no => simp [q] at e
      | fz d' =>
        simp [q] at e; subst e
        obtain ⟨ov, q', w, e1, n⟩ := h.at q
        rw [hv] at q'; cases q'; cases e1
        exact .inl n
      | ow d' =>
        simp [q] at e; subst e
        obtain ⟨ov, q', a, e1, n⟩ := h.at q
        rw [hv] at q'; cases q'; cases e1
        exact .inr ⟨a, rfl, n.own⟩
theorem VR.lst {ds : List D} (g : Sub F H) (h : VR Γ H F α v (.lst ds)) : ∃ a vs, v = .ref a ∧ H a = some (.lst vs) ∧ Reps Γ.K F α vs ds := by
  rcases h with h | ⟨a, rfl, vs, q, r⟩
  · cases h with
    | lst q r => exact ⟨_, _, rfl, g _ _ q, r⟩
  · exact ⟨a, vs, rfl, q, r⟩
theorem VR.scr {ns : List Int} (g : Sub F H) (h : VR Γ H F α v (.scr ns)) : ∃ a, v = .ref a ∧ SqL Γ.K H a (ns.map V.int) := by
  rcases h with h | ⟨a, rfl, z⟩
  · cases h with
    | scr q => exact ⟨_, rfl, g.l q⟩
  · exact z.elim
theorem VR.tup {ds : List D} (g : Sub F H) (h : VR Γ H F α v (.tup ds)) : ∃ a vs, v = .ref a ∧ SqT Γ.K H a vs ∧ Reps Γ.K F α vs ds := by
  rcases h with h | ⟨a, rfl, z⟩
  · cases h with
    | tup q r => exact ⟨_, _, rfl, g.t q, r⟩
  · exact z.elim
theorem VR.dic {es : List (D × D)} (g : Sub F H) (h : VR Γ H F α v (.dic es)) : ∃ a kvs, v = .ref a ∧ Rd H a (.dK kvs) ∧ Reps Γ.K F α (kvs.map fun p => kV p.1) (es.map (·.1)) ∧ Reps Γ.K F α (kvs.map (·.2)) (es.map (·.2)) := by
  rcases h with h | ⟨a, rfl, kvs, q, r, r'⟩
  · cases h with
    | dic q r r' => exact ⟨_, _, rfl, g.rd q, r, r'⟩
  · exact ⟨a, kvs, rfl, .of q, r, r'⟩
theorem VR.int {i : Int} (h : VR Γ H F α v (.int i)) : v = .int i := by
  rcases h with h | ⟨a, rfl, z⟩
  · cases h; rfl
  · exact z.elim
theorem VR.bl {i : Bool} (h : VR Γ H F α v (.bl i)) : v = .bl i := by
  rcases h with h | ⟨a, rfl, z⟩
  · cases h; rfl
  · exact z.elim
theorem VR.str {i : Str} (h : VR Γ H F α v (.str i)) : v = .str i := by
  rcases h with h | ⟨a, rfl, z⟩
  · cases h; rfl
  · exact z.elim
theorem VR.non (h : VR Γ H F α v .non) : v = .non := by
  rcases h with h | ⟨a, rfl, z⟩
  · cases h; rfl
  · exact z.elim
theorem VR.ty {n : String} (h : VR Γ H F α v (.ty n)) : v = .ty n := by
  rcases h with h | ⟨a, rfl, z⟩
  · cases h; rfl
  · exact z.elim
theorem VR.exc {b : Addr} (h : VR Γ H F α v (.exc b)) : v = .ref b := by
  rcases h with h | ⟨a, rfl, z⟩
  · cases h; rfl
  · exact z.elim
theorem VR.obj {n : Nat} (h : VR Γ H F α v (.obj n)) : ∃ a, v = .ref a ∧ α[n]? = some a := by
  rcases h with h | ⟨a, rfl, z⟩
  · cases h with
    | obj q => exact ⟨_, rfl, q⟩
  · exact z.elim
end
end Fw

set_option Elab.async false
set_option linter.all false
set_option maxRecDepth 100000
set_option maxHeartbeats 1000000
/-! Fw2: readings of programs over data; operators. -/
namespace Fw
open PySem PySem.Spec PyProof.Rows L2

abbrev EX := S → R RV
abbrev AX := S → R (List D)

/-- an exception as it lies -/
def XR (Γ : Ct) (B : Bs) (H F : Hp) (α : List Addr) (x : Ex) (cls : Value) (d : Option Addr) : Prop :=
  cls = .ref (Γ.cl x.cls) ∧ ((x.fs = [] ∧ d = none) ∨ x.fs ≠ [] ∧ ∃ dd vfs, d = some dd ∧ H dd = some (.xd vfs) ∧ B.H dd = none ∧ F dd = none ∧ vfs.map (·.1) = x.fs.map (·.1) ∧ Reps Γ.K F α (vfs.map (·.2)) (x.fs.map (·.2)))
def Aft (Γ : Ct) (B : Bs) (W : WX) (η : List (Addr × D)) (σ : L2.St) (F : Hp) (α : List Addr) (Q : VK) : R RV → Prop
  | .bad => False
  | .ok r s' => ∀ H' F' α' v, SR Γ B η σ H' F' α' s' → Sub F F' → α <+: α' → RR Γ B η σ H' F' α' s' v r → Q v H'
  | .ex x s' => ∀ H' F' α' cls d, SR Γ B η σ H' F' α' s' → XR Γ B H' F' α' x cls d → W cls d σ H'
def AftA (Γ : Ct) (B : Bs) (W : WX) (η : List (Addr × D)) (σ : L2.St) (F : Hp) (α : List Addr) (Q : List V → Hp → Prop) : R (List D) → Prop
  | .bad => False
  | .ok ds s' => ∀ H' F' α' vs, SR Γ B η σ H' F' α' s' → Sub F F' → α <+: α' → Reps Γ.K F' α' vs ds → Q vs H'
  | .ex x s' => ∀ H' F' α' cls d, SR Γ B η σ H' F' α' s' → XR Γ B H' F' α' x cls d → W cls d σ H'
/-- the reading of an expression, of arguments -/
def tX (Γ : Ct) (B : Bs) (W : WX) (g : EX) : TE := fun σ H Q => ∃ η F α s, SR Γ B η σ H F α s ∧ Aft Γ B W η σ F α Q (g s)
def tA (Γ : Ct) (B : Bs) (W : WX) (g : AX) : TA := fun σ H Q => ∃ η F α s, SR Γ B η σ H F α s ∧ AftA Γ B W η σ F α Q (g s)

def R.bind {β γ : Type} (r : R β) (k : β → S → R γ) : R γ := match r with
  | .ok b s => k b s
  | .ex x s => .ex x s
  | .bad => .bad

section
variable {Γ : Ct} {B : Bs} {W : WX} {σ : L2.St} {η : List (Addr × D)} {H H' F F' : Hp} {α α' : List Addr} {s s' : S} {v w : V} {Q : VK} {r : RV} {d : D} {g ga gb : EX}
theorem Aft.up {x : R RV} (e : Sub F F') (p : α <+: α') (h : Aft Γ B W η σ F α Q x) : Aft Γ B W η σ F' α' Q x := by
  cases x with
  | bad => exact h
  | ok r s' => exact fun H' G β v h1 h2 h3 h4 => h H' G β v h1 (e.trans h2) (p.trans h3) h4
  | ex x s' => exact h
theorem AftA.up {x : R (List D)} {Q : List V → Hp → Prop} (e : Sub F F') (p : α <+: α') (h : AftA Γ B W η σ F α Q x) : AftA Γ B W η σ F' α' Q x := by
  cases x with
  | bad => exact h
  | ok r s' => exact fun H' G β v h1 h2 h3 h4 => h H' G β v h1 (e.trans h2) (p.trans h3) h4
  | ex x s' => exact h
/-- what is known when something has been evaluated -/
def Kn (Γ : Ct) (B : Bs) (W : WX) (σ : L2.St) (H : Hp) (v : V) (k : RV → S → R RV) (Q : VK) : Prop :=
  ∃ η F α s r, SR Γ B η σ H F α s ∧ RR Γ B η σ H F α s v r ∧ Aft Γ B W η σ F α Q (k r s)
theorem tX_bind {k : RV → S → R RV} (h : tX Γ B W (fun s => (g s).bind k) σ H Q) : tX Γ B W g σ H fun v H1 => Kn Γ B W σ H1 v k Q := by
  obtain ⟨η, F, α, s, sr, a⟩ := h
  refine ⟨η, F, α, s, sr, ?_⟩
  have a : Aft Γ B W η σ F α Q ((g s).bind k) := a
  cases e : g s with
  | bad => rw [e] at a; exact a
  | ex x s1 => rw [e] at a; exact a
  | ok r s1 =>
    rw [e] at a
    exact fun H1 F1 α1 v sr1 sub pr rr => ⟨η, F1, α1, s1, r, sr1, rr, Aft.up sub pr a⟩
/-- a value that is held while something else is evaluated: nobody's thing becomes shared -/
def RV.keep : RV → RV
  | .ow d => .fz d
  | r => r
theorem RR.held (r : RR Γ B η σ H F α s v r₀) (hr : r₀.keep = r₀) (e : Sub F F') (p : α <+: α') : RR Γ B η σ H' F' α' s' v r₀ := by
  cases r₀ with
  | fz d => exact Rep.up e p r
  | ow d => cases hr
  | ln i => exact r
theorem SR.keepR {r₀ : RV} (h : SR Γ B η σ H F α s) (r : RR Γ B η σ H F α s v r₀) : ∃ F', Sub F F' ∧ SR Γ B η σ H F' α s ∧ RR Γ B η σ H F' α s v r₀.keep := by
  cases r₀ with
  | fz d => exact ⟨F, Sub.refl F, h, r⟩
  | ow d => obtain ⟨F', e, h', r'⟩ := h.freeze r; exact ⟨F', e, h', r'⟩
  | ln i => exact ⟨F, Sub.refl F, h, r⟩
theorem keep_keep (r : RV) : r.keep.keep = r.keep := by cases r <;> rfl
/-- two operands, from the left -/
def gBin (f : RV → RV → S → R RV) (ga gb : EX) : EX := fun s => (ga s).bind fun ra s1 => (gb s1).bind fun rb s2 => f ra.keep rb s2
def K2 (Γ : Ct) (B : Bs) (W : WX) (σ : L2.St) (H : Hp) (v w : V) (f : RV → RV → S → R RV) (Q : VK) : Prop :=
  ∃ η F α s ra rb, SR Γ B η σ H F α s ∧ RR Γ B η σ H F α s v ra ∧ RR Γ B η σ H F α s w rb ∧ Aft Γ B W η σ F α Q (f ra rb s)
theorem tX_bin {f : RV → RV → S → R RV} (h : tX Γ B W (gBin f ga gb) σ H Q) : tX Γ B W ga σ H fun v H1 => tX Γ B W gb σ H1 fun w H2 => K2 Γ B W σ H2 v w f Q := by
  obtain ⟨η, F, α, s, sr, a⟩ := h
  refine ⟨η, F, α, s, sr, ?_⟩
  unfold gBin at a
  cases e : ga s with
  | bad => rw [e] at a; exact a
  | ex x s1 => rw [e] at a; exact a
  | ok ra s1 =>
    rw [e] at a
    intro H1 F1 α1 v sr1 sub pr rr
    obtain ⟨F1', sub1, sr1', rr1⟩ := sr1.keepR rr
    refine ⟨η, F1', α1, s1, sr1', ?_⟩
    have a : Aft Γ B W η σ F α Q ((gb s1).bind fun rb s2 => f ra.keep rb s2) := a
    cases e2 : gb s1 with
    | bad => rw [e2] at a; exact a
    | ex x s2 => rw [e2] at a; exact a
    | ok rb s2 =>
      rw [e2] at a
      exact fun H2 F2 α2 w sr2 sub2 pr2 rr2 => ⟨η, F2, α2, s2, ra.keep, rb, sr2, rr1.held (keep_keep ra) sub2 pr2, rr2, a.up ((sub.trans sub1).trans sub2) (pr.trans pr2)⟩

/-! ### what an operation gives -/
inductive Out where
  | val (d : D) | nt (ds : List D) | nl (ds : List D) | no
def emit : Out → S → R RV
  | .val d, s => .ok (.fz d) s
  | .nt ds, s => .ok (.fz (.tup ds)) s
  | .nl ds, s => .ok (.ow (.lst ds)) s
  | .no, _ => .bad
/-- the state behind the operands, what is wanted of what is given -/
def Em (Γ : Ct) (B : Bs) (H F : Hp) (α : List Addr) (Q : VK) (o : Out) : Prop := ∃ η σ W s, SR Γ B η σ H F α s ∧ Aft Γ B W η σ F α Q (emit o s)
theorem Em.sub {o : Out} (h : Em Γ B H F α Q o) : Sub F H := let ⟨_, _, _, _, sr, _⟩ := h; sr.g.sub
theorem Em.val {d : D} (h : Em Γ B H F α Q (.val d)) (r : Rep Γ.K F α v d) : Q v H := by
  obtain ⟨η, σ, W, s, sr, a⟩ := h
  exact a H F α v sr (Sub.refl F) List.prefix_rfl r
theorem Em.nt {ds : List D} {vs : List V} (h : Em Γ B H F α Q (.nt ds)) (r : Reps Γ.K F α vs ds) (p : Addr) (hp : H p = none) : Q (.ref p) (upd H p (.tup vs)) := by
  obtain ⟨η, σ, W, s, sr, a⟩ := h
  have hf := (sr.fresh hp).1.2.1
  exact a _ _ α (.ref p) (sr.newF hp) (Sub.upd hf) List.prefix_rfl (.tup (.of upd_same) (r.up (Sub.upd hf) List.prefix_rfl))
theorem Em.ntv {ds : List D} (h : Em Γ B H F α Q (.nt ds)) (r : Rep Γ.K F α v (.tup ds)) : Q v H := by
  obtain ⟨η, σ, W, s, sr, a⟩ := h
  exact a H F α v sr (Sub.refl F) List.prefix_rfl r
theorem Em.nl {ds : List D} {vs : List V} (h : Em Γ B H F α Q (.nl ds)) (r : Reps Γ.K F α vs ds) (p : Addr) (hp : H p = none) : Q (.ref p) (upd H p (.lst vs)) := by
  obtain ⟨η, σ, W, s, sr, a⟩ := h
  exact a _ F α (.ref p) (sr.newO hp) (Sub.refl F) List.prefix_rfl (sr.newN hp ⟨vs, upd_same, r⟩)
theorem Em.no (h : Em Γ B H F α Q .no) : False := let ⟨_, _, _, _, _, a⟩ := h; a
theorem Em.any {o : Out} (h : Em Γ B H F α Q o) : o ≠ .no := fun e => by subst e; exact h.no

/-- an operation on two data -/
def lift2 (f : D → D → Out) (ra rb : RV) (s : S) : R RV := match look s ra, look s rb with
  | some a, some b => emit (f a b) s
  | _, _ => .bad
def rD (Γ : Ct) (B : Bs) (f : D → D → Out) : R2 := fun v w H Q => ∃ F α a b, VR Γ H F α v a ∧ VR Γ H F α w b ∧ Em Γ B H F α Q (f a b)
theorem K2.rD {f : D → D → Out} (h : K2 Γ B W σ H v w (lift2 f) Q) : rD Γ B f v w H Q := by
  obtain ⟨η, F, α, s, ra, rb, sr, r1, r2, a⟩ := h
  unfold lift2 at a
  cases e1 : look s ra with
  | none => simp [e1] at a; exact a.elim
  | some x =>
    cases e2 : look s rb with
    | none => simp [e1, e2] at a; exact a.elim
    | some y =>
      simp only [e1, e2] at a
      exact ⟨F, α, x, y, sr.view r1 e1, sr.view r2 e2, η, σ, W, s, sr, a⟩
def lift1 (f : D → Out) (ra : RV) (s : S) : R RV := match look s ra with
  | some a => emit (f a) s
  | _ => .bad
def rD1 (Γ : Ct) (B : Bs) (f : D → Out) : V → Hp → VK → Prop := fun v H Q => ∃ F α a, VR Γ H F α v a ∧ Em Γ B H F α Q (f a)
theorem Kn.rD1 {f : D → Out} (h : Kn Γ B W σ H v (lift1 f) Q) : rD1 Γ B f v H Q := by
  obtain ⟨η, F, α, s, ra, sr, r1, a⟩ := h
  unfold lift1 at a
  cases e1 : look s ra with
  | none => simp [e1] at a; exact a.elim
  | some x =>
    simp only [e1] at a
    exact ⟨F, α, x, sr.view r1 e1, η, σ, W, s, sr, a⟩
end

section
variable {X : Cx} {Γ : Ct} {B : Bs} {W : WX} {ga gb gc : EX} {a b c : Expr} {pos : Pos}
theorem _root_.L2.PE.imp {e : Expr} {t t' : TE} (h : PE X e t) (k : ∀ σ H Q, t' σ H Q → t σ H Q) : PE X e t' := ⟨fun pins s σ H Q I q => h.run pins s σ H Q I (k σ H Q q)⟩
/-- a reading is monotone in what is wanted -/
theorem tX.mono {σ : L2.St} {H : Hp} {Q Q' : VK} {g : EX} (h : tX Γ B W g σ H Q) (k : ∀ v H', Q v H' → Q' v H') : tX Γ B W g σ H Q' := by
  obtain ⟨η, F, α, s, sr, a⟩ := h
  refine ⟨η, F, α, s, sr, ?_⟩
  cases e : g s with
  | bad => rw [e] at a; exact a
  | ex x s1 => rw [e] at a; exact a
  | ok r s1 => rw [e] at a; exact fun H1 F1 α1 v h1 h2 h3 h4 => k _ _ (a H1 F1 α1 v h1 h2 h3 h4)
theorem x_bin {op : Operator} {f : D → D → Out} (ho : OpR X (binaryOp op) (rD Γ B f)) (ha : PE X a (tX Γ B W ga)) (hb : PE X b (tX Γ B W gb)) : PE X (.BinOp a op b pos) (tX Γ B W (gBin (lift2 f) ga gb)) :=
  (pe_op ho ha hb).imp fun σ H Q h => (tX_bin h).mono fun v H1 h1 => h1.mono fun w H2 h2 => h2.rD
theorem x_cmp {op : CmpOp} {f : D → D → Out} (ho : OpR X (compareOp op) (rD Γ B f)) (ha : PE X a (tX Γ B W ga)) (hb : PE X b (tX Γ B W gb)) (hm : behindInMarks op b = false) : PE X (.Compare a [op] [b] pos) (tX Γ B W (gBin (lift2 f) ga gb)) :=
  (pe_cmpR ho ha hb hm).imp fun σ H Q h => (tX_bin h).mono fun v H1 h1 => h1.mono fun w H2 h2 => h2.rD
def gUn (f : D → Out) (ga : EX) : EX := fun s => (ga s).bind (lift1 f)
theorem x_un {op : UnaryOp} {f : D → Out} (ho : UnR X (unaryOp op) (rD1 Γ B f)) (ha : PE X a (tX Γ B W ga)) : PE X (.UnaryOp op a pos) (tX Γ B W (gUn f ga)) :=
  (pe_un ho ha).imp fun σ H Q h => (tX_bind h).mono fun v H1 h1 => h1.rD1
end

/-! ### binary operators -/
def isNilD : List D → Bool
  | [] => true
  | _ => false
def sz (n : Nat) : Bool := decide (n ≤ sizeLine)
def addD : D → D → Out
  | .int i, .int j => .val (.int (i + j))
  | .str x, .str y => if sz (x.length + y.length) then .val (.str (x ++ y)) else .no
  | .lst xs, .lst ys => if sz (xs.length + ys.length) then .nl (xs ++ ys) else .no
  | .tup xs, .tup ys => if sz (xs.length + ys.length) then .nt (xs ++ ys) else .no
  | _, _ => .no
def subD : D → D → Out
  | .int i, .int j => .val (.int (i - j))
  | _, _ => .no
def mulD : D → D → Out
  | .int i, .int j => if i.natAbs.log2 + j.natAbs.log2 < 1000000 then .val (.int (i * j)) else .no
  | .tup xs, .int k => if !isNilD xs && decide (2 ≤ k) && decide (k ≤ 1000) && decide (xs.length ≤ 1000) then .nt (List.replicate k.toNat xs).flatten else .no
  | .lst xs, .int k => if decide (0 ≤ k) && decide (k < 1000000) && sz (xs.length * k.toNat) then .nl (List.replicate k.toNat xs).flatten else .no
  | _, _ => .no
def fdivD : D → D → Out
  | .int i, .int j => if 0 < j ∧ j.natAbs.log2 < 9000 then .val (.int (i / j)) else if j < 0 ∧ j.natAbs.log2 < 30 then .val (.int (i.fdiv j)) else .no
  | _, _ => .no
def modD : D → D → Out
  | .int i, .int j => if 0 < j then .val (.int (i % j)) else .no
  | _, _ => .no
def powD : D → D → Out
  | .int i, .int j => if 0 ≤ j ∧ j ≤ 1000000 ∧ i.natAbs < 2 ^ 64 then .val (.int (i ^ j.toNat)) else .no
  | _, _ => .no
def shlD : D → D → Out
  | .int i, .int j => if 0 ≤ j ∧ j ≤ 1000000 ∧ i.natAbs < 2 ^ 64 then .val (.int (i * 2 ^ j.toNat)) else .no
  | _, _ => .no
def shrD : D → D → Out
  | .int i, .int j => if 0 ≤ j then .val (.int (i / 2 ^ j.toNat)) else .no
  | _, _ => .no
def andD : D → D → Out
  | .int i, .int j => .val (.int (Builtin.bitAnd i j))
  | _, _ => .no

section
variable {X : Cx} {Γ : Ct} {B : Bs} {H F : Hp} {α : List Addr} {ds : List D} {vs : List V}
theorem reps_flat (k : Nat) (r : Reps Γ.K F α vs ds) : Reps Γ.K F α (List.replicate k vs).flatten (List.replicate k ds).flatten := by
  induction k with
  | zero => exact .nil
  | succ k ih =>
    rw [List.replicate_succ, List.replicate_succ, List.flatten_cons, List.flatten_cons]
    exact r.app ih
theorem reps_nil (r : Reps Γ.K F α vs ds) : isNilD ds = true ↔ vs = [] := by
  cases r with
  | nil => simp [isNilD]
  | cons _ _ => simp [isNilD]
theorem szE {n : Nat} : sz n = true ↔ n ≤ sizeLine := by unfold sz; exact decide_eq_true_iff
theorem o_add (hK : Γ.K = X.K) : OpR X (binaryOp .Add) (rD Γ B addD) := by
  intro pins s σ H x y v u Q I rx ry h
  obtain ⟨F, α, a, b, va, vb, em⟩ := h
  cases a with
  | int i =>
    cases b with
    | int j => exact op_add pins s σ H x y v u Q I rx ry ⟨i, j, va.int, vb.int, em.val (.int _)⟩
    | _ => exact em.no.elim
  | str i =>
    cases b with
    | str j =>
      simp only [addD] at em
      split at em
      · next c => exact op_add_str pins s σ H x y v u Q I rx ry ⟨i, j, va.str, vb.str, szE.mp c, em.val (.str _)⟩
      · exact em.no.elim
    | _ => exact em.no.elim
  | lst xs =>
    cases b with
    | lst ys =>
      simp only [addD] at em
      split at em
      · next c =>
        obtain ⟨p, vs, e1, q1, r1⟩ := va.lst em.sub
        obtain ⟨q, ws, e2, q2, r2⟩ := vb.lst em.sub
        exact op_cat pins s σ H x y v u Q I rx ry ⟨p, q, vs, ws, e1, e2, q1, q2, by rw [r1.len, r2.len]; exact szE.mp c, em.nl (r1.app r2)⟩
      · exact em.no.elim
    | _ => exact em.no.elim
  | tup xs =>
    cases b with
    | tup ys =>
      simp only [addD] at em
      split at em
      · next c =>
        obtain ⟨p, vs, e1, q1, r1⟩ := va.tup em.sub
        obtain ⟨q, ws, e2, q2, r2⟩ := vb.tup em.sub
        rw [hK] at q1 q2
        refine op_catA pins s σ H x y v u Q I rx ry ⟨p, q, vs, ws, e1, e2, q1, q2, by rw [r1.len, r2.len]; exact szE.mp c, fun z => ?_, fun _ z => ?_, fun _ _ => em.nt (r1.app r2)⟩
        · subst z
          cases r1
          rcases vb with vb | ⟨_, _, z⟩
          · rw [e2] at vb; exact em.ntv vb
          · exact z.elim
        · subst z
          cases r2
          rw [List.append_nil] at em
          rcases va with va | ⟨_, _, z⟩
          · rw [e1] at va; exact em.ntv va
          · exact z.elim
      · exact em.no.elim
    | _ => exact em.no.elim
  | _ => exact em.no.elim
theorem o_sub : OpR X (binaryOp .Sub) (rD Γ B subD) := by
  intro pins s σ H x y v u Q I rx ry h
  obtain ⟨F, α, a, b, va, vb, em⟩ := h
  cases a with
  | int i =>
    cases b with
    | int j => exact op_sub pins s σ H x y v u Q I rx ry ⟨i, j, va.int, vb.int, em.val (.int _)⟩
    | _ => exact em.no.elim
  | _ => exact em.no.elim
theorem o_mul (hK : Γ.K = X.K) : OpR X (binaryOp .Mult) (rD Γ B mulD) := by
  intro pins s σ H x y v u Q I rx ry h
  obtain ⟨F, α, a, b, va, vb, em⟩ := h
  cases a with
  | int i =>
    cases b with
    | int j =>
      simp only [mulD] at em
      split at em
      · next c => exact op_mulW pins s σ H x y v u Q I rx ry ⟨i, j, va.int, vb.int, c, em.val (.int _)⟩
      · exact em.no.elim
    | _ => exact em.no.elim
  | tup xs =>
    cases b with
    | int k =>
      simp only [mulD] at em
      split at em
      · next c =>
        simp only [Bool.and_eq_true, decide_eq_true_eq, Bool.not_eq_true'] at c
        obtain ⟨⟨⟨c1, c2⟩, c3⟩, c4⟩ := c
        obtain ⟨p, vs, e1, q1, r1⟩ := va.tup em.sub
        rw [hK] at q1
        exact op_repT pins s σ H x y v u Q I rx ry ⟨p, k, vs, e1, vb.int, q1, (fun z => by rw [(reps_nil r1).mpr z] at c1; cases c1), c2, c3, by rw [r1.len]; exact c4, em.nt (reps_flat _ r1)⟩
      · exact em.no.elim
    | _ => exact em.no.elim
  | lst xs =>
    cases b with
    | int k =>
      simp only [mulD] at em
      split at em
      · next c =>
        simp only [Bool.and_eq_true, decide_eq_true_eq] at c
        obtain ⟨⟨c1, c2⟩, c3⟩ := c
        obtain ⟨p, vs, e1, q1, r1⟩ := va.lst em.sub
        exact op_rep pins s σ H x y v u Q I rx ry ⟨p, k, vs, e1, vb.int, q1, by omega, by omega, by rw [r1.len]; exact szE.mp c3, em.nl (reps_flat _ r1)⟩
      · exact em.no.elim
    | _ => exact em.no.elim
  | _ => exact em.no.elim
theorem o_fdiv : OpR X (binaryOp .FloorDiv) (rD Γ B fdivD) := by
  intro pins s σ H x y v u Q I rx ry h
  obtain ⟨F, α, a, b, va, vb, em⟩ := h
  cases a with
  | int i =>
    cases b with
    | int j =>
      simp only [fdivD] at em
      split at em
      · next c => exact op_fdivW pins s σ H x y v u Q I rx ry ⟨i, j, va.int, vb.int, c, em.val (.int _)⟩
      · split at em
        · next c =>
          refine op_fdivN pins s σ H x y v u Q I rx ry ⟨i, j, va.int, vb.int, ⟨by omega, ?_⟩, em.val (.int _)⟩
          have h0 : j.natAbs ≠ 0 := by omega
          exact (Nat.log2_lt h0).mp c.2
        · exact em.no.elim
    | _ => exact em.no.elim
  | _ => exact em.no.elim
theorem o_mod : OpR X (binaryOp .Mod) (rD Γ B modD) := by
  intro pins s σ H x y v u Q I rx ry h
  obtain ⟨F, α, a, b, va, vb, em⟩ := h
  cases a with
  | int i =>
    cases b with
    | int j =>
      simp only [modD] at em
      split at em
      · next c => exact op_mod pins s σ H x y v u Q I rx ry ⟨i, j, va.int, vb.int, c, em.val (.int _)⟩
      · exact em.no.elim
    | _ => exact em.no.elim
  | _ => exact em.no.elim
theorem o_pow : OpR X (binaryOp .Pow) (rD Γ B powD) := by
  intro pins s σ H x y v u Q I rx ry h
  obtain ⟨F, α, a, b, va, vb, em⟩ := h
  cases a with
  | int i =>
    cases b with
    | int j =>
      simp only [powD] at em
      split at em
      · next c => exact op_pow pins s σ H x y v u Q I rx ry ⟨i, j, va.int, vb.int, c, em.val (.int _)⟩
      · exact em.no.elim
    | _ => exact em.no.elim
  | _ => exact em.no.elim
theorem o_shl : OpR X (binaryOp .LShift) (rD Γ B shlD) := by
  intro pins s σ H x y v u Q I rx ry h
  obtain ⟨F, α, a, b, va, vb, em⟩ := h
  cases a with
  | int i =>
    cases b with
    | int j =>
      simp only [shlD] at em
      split at em
      · next c => exact op_shl pins s σ H x y v u Q I rx ry ⟨i, j, va.int, vb.int, c, em.val (.int _)⟩
      · exact em.no.elim
    | _ => exact em.no.elim
  | _ => exact em.no.elim
theorem o_shr : OpR X (binaryOp .RShift) (rD Γ B shrD) := by
  intro pins s σ H x y v u Q I rx ry h
  obtain ⟨F, α, a, b, va, vb, em⟩ := h
  cases a with
  | int i =>
    cases b with
    | int j =>
      simp only [shrD] at em
      split at em
      · next c => exact op_shr pins s σ H x y v u Q I rx ry ⟨i, j, va.int, vb.int, c, em.val (.int _)⟩
      · exact em.no.elim
    | _ => exact em.no.elim
  | _ => exact em.no.elim
theorem o_and : OpR X (binaryOp .BitAnd) (rD Γ B andD) := by
  intro pins s σ H x y v u Q I rx ry h
  obtain ⟨F, α, a, b, va, vb, em⟩ := h
  cases a with
  | int i =>
    cases b with
    | int j => exact op_and pins s σ H x y v u Q I rx ry ⟨i, j, va.int, vb.int, em.val (.int _)⟩
    | _ => exact em.no.elim
  | _ => exact em.no.elim
/-- the operators -/
def binD : Operator → D → D → Out
  | .Add => addD | .Sub => subD | .Mult => mulD | .FloorDiv => fdivD | .Mod => modD | .Pow => powD | .LShift => shlD | .RShift => shrD | .BitAnd => andD
  | _ => fun _ _ => .no
theorem o_bin (hK : Γ.K = X.K) (op : Operator) : OpR X (binaryOp op) (rD Γ B (binD op)) := by
  cases op with
  | Add => exact o_add hK
  | Sub => exact o_sub
  | Mult => exact o_mul hK
  | FloorDiv => exact o_fdiv
  | Mod => exact o_mod
  | Pow => exact o_pow
  | LShift => exact o_shl
  | RShift => exact o_shr
  | BitAnd => exact o_and
  | _ => exact fun pins s σ H x y v u Q I rx ry h => let ⟨_, _, _, _, _, _, em⟩ := h; em.no.elim
end
end Fw

set_option Elab.async false
set_option linter.all false
set_option maxRecDepth 100000
set_option maxHeartbeats 1000000
/-! Fw3: tests, comparisons, argument lists, displays, subscripts. -/
namespace Fw
open PySem PySem.Spec PyProof.Rows L2

abbrev TX := S → R Bool
abbrev VX := S → R (List RV)
def AftT (Γ : Ct) (B : Bs) (W : WX) (η : List (Addr × D)) (σ : L2.St) (F : Hp) (α : List Addr) (Q : Bool → Hp → Prop) : R Bool → Prop
  | .bad => False
  | .ok b s' => ∀ H' F' α', SR Γ B η σ H' F' α' s' → Sub F F' → α <+: α' → Q b H'
  | .ex x s' => ∀ H' F' α' cls d, SR Γ B η σ H' F' α' s' → XR Γ B H' F' α' x cls d → W cls d σ H'
def tT (Γ : Ct) (B : Bs) (W : WX) (g : TX) : TT := fun σ H Q => ∃ η F α s, SR Γ B η σ H F α s ∧ AftT Γ B W η σ F α Q (g s)
inductive RRs (Γ : Ct) (B : Bs) (η : List (Addr × D)) (ρ : L2.St) (H F : Hp) (α : List Addr) (s : S) : List V → List RV → Prop
  | nil : RRs Γ B η ρ H F α s [] []
  | cons {v : V} {vs : List V} {r : RV} {rs : List RV} : RR Γ B η ρ H F α s v r → r.keep = r → RRs Γ B η ρ H F α s vs rs → RRs Γ B η ρ H F α s (v :: vs) (r :: rs)
def AftV (Γ : Ct) (B : Bs) (W : WX) (η : List (Addr × D)) (σ : L2.St) (F : Hp) (α : List Addr) (Q : List V → Hp → Prop) : R (List RV) → Prop
  | .bad => False
  | .ok rs s' => ∀ H' F' α' vs, SR Γ B η σ H' F' α' s' → Sub F F' → α <+: α' → RRs Γ B η σ H' F' α' s' vs rs → Q vs H'
  | .ex x s' => ∀ H' F' α' cls d, SR Γ B η σ H' F' α' s' → XR Γ B H' F' α' x cls d → W cls d σ H'
def tV (Γ : Ct) (B : Bs) (W : WX) (g : VX) : TA := fun σ H Q => ∃ η F α s, SR Γ B η σ H F α s ∧ AftV Γ B W η σ F α Q (g s)

/-! ### truth -/
def truD : D → Option Bool
  | .non => some false
  | .bl b => some b
  | .int i => some (i != 0)
  | .str x => if sz x.length then some ((x.length : Int) != 0) else none
  | .tup xs => some (!isNilD xs)
  | .lst xs => some (!isNilD xs)
  | _ => none
def toT (g : EX) : TX := fun s => (g s).bind fun r s1 => match (look s1 r).bind truD with
  | some b => .ok b s1
  | none => .bad
section
variable {Γ : Ct} {B : Bs} {W : WX} {σ : L2.St} {η : List (Addr × D)} {H H' F F' : Hp} {α α' : List Addr} {s s' : S} {v w : V} {Q : VK} {r : RV} {d : D} {g ga gb : EX}
theorem AftT.up {x : R Bool} {Q : Bool → Hp → Prop} (e : Sub F F') (p : α <+: α') (h : AftT Γ B W η σ F α Q x) : AftT Γ B W η σ F' α' Q x := by
  cases x with
  | bad => exact h
  | ok r s' => exact fun H' G β h1 h2 h3 => h H' G β h1 (e.trans h2) (p.trans h3)
  | ex x s' => exact h
theorem AftV.up {x : R (List RV)} {Q : List V → Hp → Prop} (e : Sub F F') (p : α <+: α') (h : AftV Γ B W η σ F α Q x) : AftV Γ B W η σ F' α' Q x := by
  cases x with
  | bad => exact h
  | ok r s' => exact fun H' G β v h1 h2 h3 h4 => h H' G β v h1 (e.trans h2) (p.trans h3) h4
  | ex x s' => exact h
theorem isEmptyD {ds : List D} {vs : List V} (r : Reps Γ.K F α vs ds) : (!isNilD ds) = !vs.isEmpty := by cases r <;> rfl
theorem tru_of {K : PySem.W.Frag} {k : Bool} (hK : Γ.K = K) (g : Sub F H) (h : VR Γ H F α v d) (e : truD d = some k) : TruV K v H k := by
  cases d with
  | non => cases h.non; cases e; rfl
  | bl b => cases h.bl; cases e; rfl
  | int i => cases h.int; cases e; rfl
  | str x =>
    cases h.str
    simp only [truD] at e
    split at e
    · next c => cases e; exact ⟨szE.mp c, rfl⟩
    · cases e
  | tup xs =>
    obtain ⟨a, vs, rfl, q, r⟩ := h.tup g
    cases e
    rw [hK] at q
    exact .inr (.inl ⟨vs, q, isEmptyD r⟩)
  | lst xs =>
    obtain ⟨a, vs, rfl, q, r⟩ := h.lst g
    cases e
    exact .inl ⟨vs, .of q, isEmptyD r⟩
  | _ => cases e
theorem tT_of {Q : Bool → Hp → Prop} {K : PySem.W.Frag} (hK : Γ.K = K) (h : tT Γ B W (toT g) σ H Q) : tX Γ B W g σ H fun x H' => ∃ k, TruV K x H' k ∧ Q k H' := by
  obtain ⟨η, F, α, s, sr, a⟩ := h
  refine ⟨η, F, α, s, sr, ?_⟩
  unfold toT at a
  cases e : g s with
  | bad => rw [e] at a; exact a
  | ex x s1 => rw [e] at a; exact a
  | ok r s1 =>
    rw [e] at a
    intro H1 F1 α1 v sr1 sub pr rr
    simp only [R.bind] at a
    cases e2 : look s1 r with
    | none => simp [e2] at a; exact a.elim
    | some d =>
      cases e3 : truD d with
      | none => simp [e2, e3] at a; exact a.elim
      | some b =>
        simp only [e2, Option.bind_some, e3] at a
        exact ⟨b, tru_of hK sr1.g.sub (sr1.view rr e2) e3, a H1 F1 α1 sr1 sub pr⟩
end

/-! ### and, or, not, if as values and as tests -/
def gAnd (ga gb : EX) : EX := fun s => (ga s).bind fun r s1 => match (look s1 r).bind truD with
  | some true => gb s1
  | some false => .ok r s1
  | none => .bad
def gOr (ga gb : EX) : EX := fun s => (ga s).bind fun r s1 => match (look s1 r).bind truD with
  | some true => .ok r s1
  | some false => gb s1
  | none => .bad
def notD : D → Out
  | .bl b => .val (.bl (!b))
  | _ => .no
def gNot (ga : EX) : EX := gUn notD ga
def gIf (gc ga gb : EX) : EX := fun s => (toT gc s).bind fun b s1 => if b = true then ga s1 else gb s1

section
variable {X : Cx} {Γ : Ct} {B : Bs} {W : WX} {ga gb gc : EX} {a b c : Expr} {rest : List Expr} {pos : Pos} {σ : L2.St} {H : Hp}
theorem tAnd_of {Q : VK} (hK : Γ.K = X.K) (h : tX Γ B W (gAnd ga gb) σ H Q) : tAndT X.K (tX Γ B W ga) (tX Γ B W gb) σ H Q := by
  refine (tX_bind h).mono fun v H1 ⟨η, F, α, s, r, sr, rr, a⟩ => ?_
  cases e2 : look s r with
  | none => simp [e2] at a; exact a.elim
  | some d =>
    cases e3 : truD d with
    | none => simp [e2, e3] at a; exact a.elim
    | some k =>
      refine ⟨k, tru_of hK sr.g.sub (sr.view rr e2) e3, ?_⟩
      simp only [e2, Option.bind_some, e3] at a
      cases k with
      | true => exact ⟨η, F, α, s, sr, a⟩
      | false => exact a H1 F α v sr (Sub.refl F) List.prefix_rfl rr
theorem tOr_of {Q : VK} (hK : Γ.K = X.K) (h : tX Γ B W (gOr ga gb) σ H Q) : tOrT X.K (tX Γ B W ga) (tX Γ B W gb) σ H Q := by
  refine (tX_bind h).mono fun v H1 ⟨η, F, α, s, r, sr, rr, a⟩ => ?_
  cases e2 : look s r with
  | none => simp [e2] at a; exact a.elim
  | some d =>
    cases e3 : truD d with
    | none => simp [e2, e3] at a; exact a.elim
    | some k =>
      refine ⟨k, tru_of hK sr.g.sub (sr.view rr e2) e3, ?_⟩
      simp only [e2, Option.bind_some, e3] at a
      cases k with
      | false => exact ⟨η, F, α, s, sr, a⟩
      | true => exact a H1 F α v sr (Sub.refl F) List.prefix_rfl rr
theorem x_one {op : BoolOp} (ha : PE X a (tX Γ B W ga)) : PE X (.BoolOp op [a] pos) (tX Γ B W ga) := pe_one ha
theorem x_and (hK : Γ.K = X.K) (ha : PE X a (tX Γ B W ga)) (hb : PE X (.BoolOp .And (b :: rest) pos) (tX Γ B W gb)) : PE X (.BoolOp .And (a :: b :: rest) pos) (tX Γ B W (gAnd ga gb)) :=
  (pe_andT ha hb).imp fun σ H Q h => tAnd_of hK h
theorem x_or (hK : Γ.K = X.K) (ha : PE X a (tX Γ B W ga)) (hb : PE X (.BoolOp .Or (b :: rest) pos) (tX Γ B W gb)) : PE X (.BoolOp .Or (a :: b :: rest) pos) (tX Γ B W (gOr ga gb)) :=
  (pe_orT ha hb).imp fun σ H Q h => tOr_of hK h
theorem _root_.L2.PT.imp {e : Expr} {t t' : TT} (h : PT X e t) (k : ∀ σ H Q, t' σ H Q → t σ H Q) : PT X e t' := ⟨fun pins s σ H Q I q => h.run pins s σ H Q I (k σ H Q q)⟩
theorem _root_.L2.PW.imp {e : Expr} {t t' : TT} (h : PW X e t) (k : ∀ σ H Q, t' σ H Q → t σ H Q) : PW X e t' := ⟨fun wh pins s σ H Q I q => h.run wh pins s σ H Q I (k σ H Q q)⟩
theorem y_plain (hK : Γ.K = X.K) (ha : PE X a (tX Γ B W ga)) (he : ∀ whole, isTrue a X.env whole = (do let v ← whole; standAt a.pos; holding [v] (truthy v))) : PT X a (tT Γ B W (toT ga)) :=
  (pt_truth ha he).imp fun σ H Q h => tT_of hK h
theorem tT_bind {Q : Bool → Hp → Prop} {g : TX} {k : Bool → S → R Bool} (h : tT Γ B W (fun s => (g s).bind k) σ H Q) : tT Γ B W g σ H fun b H1 => ∃ η F α s, SR Γ B η σ H1 F α s ∧ AftT Γ B W η σ F α Q (k b s) := by
  obtain ⟨η, F, α, s, sr, a⟩ := h
  refine ⟨η, F, α, s, sr, ?_⟩
  have a : AftT Γ B W η σ F α Q ((g s).bind k) := a
  cases e : g s with
  | bad => rw [e] at a; exact a
  | ex x s1 => rw [e] at a; exact a
  | ok r s1 =>
    rw [e] at a
    exact fun H1 F1 α1 sr1 sub pr => ⟨η, F1, α1, s1, sr1, a.up sub pr⟩
theorem tT.mono {Q Q' : Bool → Hp → Prop} {g : TX} (h : tT Γ B W g σ H Q) (k : ∀ b H', Q b H' → Q' b H') : tT Γ B W g σ H Q' := by
  obtain ⟨η, F, α, s, sr, a⟩ := h
  refine ⟨η, F, α, s, sr, ?_⟩
  cases e : g s with
  | bad => rw [e] at a; exact a
  | ex x s1 => rw [e] at a; exact a
  | ok r s1 => rw [e] at a; exact fun H1 F1 α1 h1 h2 h3 => k _ _ (a H1 F1 α1 h1 h2 h3)
theorem toT_and : toT (gAnd ga gb) = fun s => (toT ga s).bind fun b s1 => if b = true then toT gb s1 else .ok false s1 := by
  funext s
  simp only [toT, gAnd]
  cases ga s with
  | bad => rfl
  | ex x s1 => rfl
  | ok r s1 =>
    simp only [R.bind]
    cases e : (look s1 r).bind truD with
    | none => rfl
    | some k => cases k <;> simp [e]
theorem toT_or : toT (gOr ga gb) = fun s => (toT ga s).bind fun b s1 => if b = true then .ok true s1 else toT gb s1 := by
  funext s
  simp only [toT, gOr]
  cases ga s with
  | bad => rfl
  | ex x s1 => rfl
  | ok r s1 =>
    simp only [R.bind]
    cases e : (look s1 r).bind truD with
    | none => rfl
    | some k => cases k <;> simp [e]
theorem w_one {op : BoolOp} (ho : op = .And ∨ op = .Or) (ha : PT X a (tT Γ B W (toT ga))) : PW X (.BoolOp op [a] pos) (tT Γ B W (toT ga)) := by
  rcases ho with rfl | rfl
  · exact pw_and1 ha
  · exact pw_or1 ha
theorem w_and (ha : PT X a (tT Γ B W (toT ga))) (hb : PW X (.BoolOp .And (b :: rest) pos) (tT Γ B W (toT gb))) : PW X (.BoolOp .And (a :: b :: rest) pos) (tT Γ B W (toT (gAnd ga gb))) :=
  (pw_and ha hb).imp fun σ H Q h => by
    rw [toT_and] at h
    refine (tT_bind h).mono fun c H1 ⟨η, F, α, s, sr, a⟩ => ?_
    cases c with
    | true => exact ⟨η, F, α, s, sr, a⟩
    | false => exact a H1 F α sr (Sub.refl F) List.prefix_rfl
theorem w_or (ha : PT X a (tT Γ B W (toT ga))) (hb : PW X (.BoolOp .Or (b :: rest) pos) (tT Γ B W (toT gb))) : PW X (.BoolOp .Or (a :: b :: rest) pos) (tT Γ B W (toT (gOr ga gb))) :=
  (pw_or ha hb).imp fun σ H Q h => by
    rw [toT_or] at h
    refine (tT_bind h).mono fun c H1 ⟨η, F, α, s, sr, a⟩ => ?_
    cases c with
    | true => exact a H1 F α sr (Sub.refl F) List.prefix_rfl
    | false => exact ⟨η, F, α, s, sr, a⟩
theorem y_not (ha : PT X a (tT Γ B W (toT ga))) : PT X (.UnaryOp .Not a pos) (tT Γ B W (toT (gNot ga))) :=
  (pt_not ha).imp fun σ H Q h => by
    obtain ⟨η, F, α, s, sr, q⟩ := h
    refine ⟨η, F, α, s, sr, ?_⟩
    unfold toT gNot gUn at q
    unfold toT
    cases e : ga s with
    | bad => rw [e] at q; exact q
    | ex x s1 => rw [e] at q; exact q
    | ok r s1 =>
      rw [e] at q
      simp only [R.bind] at q ⊢
      cases e2 : look s1 r with
      | none =>
        have hl : lift1 notD r s1 = .bad := by simp only [lift1, e2]
        rw [hl] at q; exact q.elim
      | some d =>
        cases d with
        | bl k =>
          have hl : lift1 notD r s1 = .ok (.fz (.bl (!k))) s1 := by simp only [lift1, e2, notD, emit]
          rw [hl] at q
          exact q
        | _ =>
          have hl : lift1 notD r s1 = .bad := by simp only [lift1, e2, notD, emit]
          rw [hl] at q; exact q.elim
theorem x_not (ha : PE X a (tX Γ B W ga)) : PE X (.UnaryOp .Not a pos) (tX Γ B W (gNot ga)) :=
  (pe_not ha).imp fun σ H Q h => by
    refine (tX_bind h).mono fun v H1 ⟨η, F, α, s, r, sr, rr, a⟩ => ?_
    unfold lift1 at a
    cases e2 : look s r with
    | none => simp [e2] at a; exact a.elim
    | some d =>
      cases d with
      | bl k =>
        cases (sr.view rr e2).bl
        simp only [e2] at a
        exact ⟨k, rfl, a H1 F α _ sr (Sub.refl F) List.prefix_rfl (.bl _)⟩
      | _ => simp [e2, notD, emit] at a; exact a.elim
theorem x_if (hc : PT X c (tT Γ B W (toT gc))) (ha : PE X a (tX Γ B W ga)) (hb : PE X b (tX Γ B W gb)) : PE X (.IfExp c a b pos) (tX Γ B W (gIf gc ga gb)) :=
  (pe_ifExp hc ha hb).imp fun σ H Q h => by
    obtain ⟨η, F, α, s, sr, q⟩ := h
    refine ⟨η, F, α, s, sr, ?_⟩
    unfold gIf at q
    cases e : toT gc s with
    | bad => rw [e] at q; exact q
    | ex x s1 => rw [e] at q; exact q
    | ok k s1 =>
      rw [e] at q
      intro H1 F1 α1 sr1 sub pr
      cases k with
      | true => exact ⟨η, F1, α1, s1, sr1, Aft.up sub pr q⟩
      | false => exact ⟨η, F1, α1, s1, sr1, Aft.up sub pr q⟩
end

/-! ### argument lists -/
def gArgs : List EX → VX
  | [] => fun s => .ok [] s
  | g :: gs => fun s => (g s).bind fun r s1 => (gArgs gs s1).bind fun rs s2 => .ok (r.keep :: rs) s2
def settle (r : RV) (s : S) : Option (D × S) := match r with
  | .fz d => some (d, s)
  | .ow _ => none
  | .ln i => match s.sl[i]? with
    | some (.ow d) => some (d, { s with sl := s.sl.set i (.fz d) })
    | some (.fz d) => some (d, s)
    | _ => none
def settleAll : List RV → S → Option (List D × S)
  | [], s => some ([], s)
  | r :: rs, s => match settle r s with
    | some (d, s1) => match settleAll rs s1 with
      | some (ds, s2) => some (d :: ds, s2)
      | none => none
    | none => none
section
variable {X : Cx} {Γ : Ct} {B : Bs} {W : WX} {g : EX} {gs : List EX} {e : Expr} {es : List Expr} {pos : Pos} {σ ρ : L2.St} {η : List (Addr × D)} {H H' F F' : Hp} {α α' : List Addr} {s s' : S} {vs : List V} {rs : List RV} {ds : List D}
theorem RRs.held (h : RRs Γ B η σ H F α s vs rs) (e : Sub F F') (p : α <+: α') : RRs Γ B η σ H' F' α' s' vs rs := by
  induction h with
  | nil => exact .nil
  | cons r k _ ih => exact .cons (r.held k e p) k ih
theorem settle_ok {r : RV} {v : V} {d : D} (sr : SR Γ B η σ H F α s) (rr : RR Γ B η σ H F α s v r) (e : settle r s = some (d, s')) :
    ∃ F', Sub F F' ∧ SR Γ B η σ H F' α s' ∧ Rep Γ.K F' α v d ∧ s'.st = s.st ∧ s'.sl.length = s.sl.length := by
  cases r with
  | fz d' => cases e; exact ⟨F, Sub.refl F, sr, rr, rfl, rfl⟩
  | ow d' => cases e
  | ln i =>
    unfold settle at e
    cases q : s.sl[i]? with
    | none => simp [q] at e
    | some x =>
      cases x with
      | no => simp [q] at e
      | fz d' =>
        simp only [q, Option.some.injEq, Prod.mk.injEq] at e
        obtain ⟨rfl, rfl⟩ := e
        obtain ⟨ov, q', w, e1, n⟩ := sr.at q
        have hv : σ[i]? = some (some v) := rr
        rw [hv] at q'; cases q'; cases e1
        exact ⟨F, Sub.refl F, sr, n, rfl, rfl⟩
      | ow d' =>
        simp only [q, Option.some.injEq, Prod.mk.injEq] at e
        obtain ⟨rfl, rfl⟩ := e
        obtain ⟨w, F', h1, h2, h3, h4⟩ := sr.share q
        have hv : σ[i]? = some (some v) := rr
        rw [hv] at h1; cases h1
        exact ⟨F', h2, h3, h4, rfl, by simp⟩
theorem settleAll_ok : ∀ {rs : List RV} {vs : List V} {ds : List D} {s s' : S} {F : Hp}, SR Γ B η σ H F α s → RRs Γ B η σ H F α s vs rs → settleAll rs s = some (ds, s') →
    ∃ F', Sub F F' ∧ SR Γ B η σ H F' α s' ∧ Reps Γ.K F' α vs ds ∧ s'.st = s.st ∧ s'.sl.length = s.sl.length
  | [], _, _, _, _, F, sr, .nil, e => by cases e; exact ⟨F, Sub.refl F, sr, .nil, rfl, rfl⟩
  | r :: rs, _, _, s, s', F, sr, .cons rr k rt, e => by
    unfold settleAll at e
    cases q : settle r s with
    | none => simp [q] at e
    | some p =>
      obtain ⟨d, s1⟩ := p
      simp only [q] at e
      cases q2 : settleAll rs s1 with
      | none => simp [q2] at e
      | some p2 =>
        obtain ⟨ds2, s2⟩ := p2
        simp only [q2, Option.some.injEq, Prod.mk.injEq] at e
        obtain ⟨rfl, rfl⟩ := e
        obtain ⟨F1, h1, h2, h3, h4, h5⟩ := settle_ok sr rr q
        obtain ⟨F2, k1, k2, k3, k4, k5⟩ := settleAll_ok h2 (rt.held (s' := s1) (H' := H) h1 List.prefix_rfl) q2
        exact ⟨F2, h1.trans k1, k2, .cons (h3.up k1 List.prefix_rfl) k3, k4.trans h4, k5.trans h5⟩
theorem _root_.L2.PA.imp {es : List Expr} {t t' : TA} (h : PA X es t) (k : ∀ σ H Q, t' σ H Q → t σ H Q) : PA X es t' := ⟨fun p pins s σ H Q I q => h.run p pins s σ H Q I (k σ H Q q)⟩
theorem a_nil : PA X [] (tV Γ B W (gArgs [])) := pa_nil.imp fun σ H Q ⟨η, F, α, s, sr, a⟩ => a H F α [] sr (Sub.refl F) List.prefix_rfl .nil
theorem tV.mono {Q Q' : List V → Hp → Prop} {g : VX} (h : tV Γ B W g σ H Q) (k : ∀ v H', Q v H' → Q' v H') : tV Γ B W g σ H Q' := by
  obtain ⟨η, F, α, s, sr, a⟩ := h
  refine ⟨η, F, α, s, sr, ?_⟩
  cases e : g s with
  | bad => rw [e] at a; exact a
  | ex x s1 => rw [e] at a; exact a
  | ok r s1 => rw [e] at a; exact fun H1 F1 α1 v h1 h2 h3 h4 => k _ _ (a H1 F1 α1 v h1 h2 h3 h4)
theorem tV_cons {Q : List V → Hp → Prop} (h : tV Γ B W (gArgs (g :: gs)) σ H Q) : tX Γ B W g σ H fun x H1 => tV Γ B W (gArgs gs) σ H1 fun xs H2 => Q (x :: xs) H2 := by
  obtain ⟨η, F, α, s, sr, a⟩ := h
  refine ⟨η, F, α, s, sr, ?_⟩
  unfold gArgs at a
  cases e : g s with
  | bad => rw [e] at a; exact a
  | ex x s1 => rw [e] at a; exact a
  | ok r s1 =>
    rw [e] at a
    intro H1 F1 α1 v sr1 sub pr rr
    obtain ⟨F1', sub1, sr1', rr1⟩ := sr1.keepR rr
    refine ⟨η, F1', α1, s1, sr1', ?_⟩
    simp only [R.bind] at a
    cases e2 : gArgs gs s1 with
    | bad => rw [e2] at a; exact a
    | ex x s2 => rw [e2] at a; exact a
    | ok rs s2 =>
      rw [e2] at a
      exact fun H2 F2 α2 vs sr2 sub2 pr2 rr2 => a H2 F2 α2 (v :: vs) sr2 ((sub.trans sub1).trans sub2) (pr.trans pr2) (.cons (rr1.held (keep_keep r) sub2 pr2) (keep_keep r) rr2)
theorem a_cons (hs : starEach (e :: es) X.env = (false, eval e X.env) :: starEach es X.env) (ha : PE X e (tX Γ B W g)) (hr : PA X es (tV Γ B W (gArgs gs))) : PA X (e :: es) (tV Γ B W (gArgs (g :: gs))) :=
  (pa_cons ha hr hs).imp fun σ H Q h => tV_cons h

/-- what is known behind an argument list -/
def KnV (Γ : Ct) (B : Bs) (W : WX) (σ : L2.St) (H : Hp) (vs : List V) (k : List RV → S → R RV) (Q : VK) : Prop :=
  ∃ η F α s rs, SR Γ B η σ H F α s ∧ RRs Γ B η σ H F α s vs rs ∧ Aft Γ B W η σ F α Q (k rs s)
theorem tV_bind {g : VX} {k : List RV → S → R RV} {Q : VK} (h : tX Γ B W (fun s => (g s).bind k) σ H Q) : tV Γ B W g σ H fun vs H1 => KnV Γ B W σ H1 vs k Q := by
  obtain ⟨η, F, α, s, sr, a⟩ := h
  refine ⟨η, F, α, s, sr, ?_⟩
  have a : Aft Γ B W η σ F α Q ((g s).bind k) := a
  cases e : g s with
  | bad => rw [e] at a; exact a
  | ex x s1 => rw [e] at a; exact a
  | ok r s1 =>
    rw [e] at a
    exact fun H1 F1 α1 v sr1 sub pr rr => ⟨η, F1, α1, s1, r, sr1, rr, Aft.up sub pr a⟩
/-- the arguments, shared, handed to k -/
def gWith (gs : List EX) (k : List D → S → R RV) : EX := fun s => (gArgs gs s).bind fun rs s1 => match settleAll rs s1 with
  | some (ds, s2) => k ds s2
  | none => .bad
def KnD (Γ : Ct) (B : Bs) (W : WX) (σ : L2.St) (H : Hp) (vs : List V) (k : List D → S → R RV) (Q : VK) : Prop :=
  ∃ η F α s ds, SR Γ B η σ H F α s ∧ Reps Γ.K F α vs ds ∧ Aft Γ B W η σ F α Q (k ds s)
theorem tV_with {k : List D → S → R RV} {Q : VK} (h : tX Γ B W (gWith gs k) σ H Q) : tV Γ B W (gArgs gs) σ H fun vs H1 => KnD Γ B W σ H1 vs k Q :=
  (tV_bind h).mono fun vs H1 ⟨η, F, α, s, rs, sr, rr, a⟩ => by
    cases e : settleAll rs s with
    | none => simp [e] at a; exact a.elim
    | some p =>
      obtain ⟨ds, s2⟩ := p
      simp only [e] at a
      obtain ⟨F', sub, sr', r, _, _⟩ := settleAll_ok sr rr e
      exact ⟨η, F', α, s2, ds, sr', r, a.up sub List.prefix_rfl⟩
def tupK (ds : List D) (s : S) : R RV := if sz ds.length then .ok (.fz (.tup ds)) s else .bad
def lstK (ds : List D) (s : S) : R RV := if sz ds.length then .ok (.ow (.lst ds)) s else .bad
theorem x_tup {x1} (h : PA X es (tV Γ B W (gArgs gs))) : PE X (.Tuple es x1 pos) (tX Γ B W (gWith gs tupK)) :=
  (pe_tup h).imp fun σ H Q h => (tV_with h).mono fun vs H1 ⟨η, F, α, s, ds, sr, r, a⟩ => by
    unfold tupK at a
    split at a
    · next c => exact ⟨by rw [r.len]; exact szE.mp c, Em.nt ⟨η, σ, W, s, sr, a⟩ r⟩
    · exact a.elim
theorem x_lst (h : PA X es (tV Γ B W (gArgs gs))) : PE X (.List es pos) (tX Γ B W (gWith gs lstK)) :=
  (pe_lst h).imp fun σ H Q h => (tV_with h).mono fun vs H1 ⟨η, F, α, s, ds, sr, r, a⟩ => by
    unfold lstK at a
    split at a
    · next c => exact ⟨by rw [r.len]; exact szE.mp c, Em.nl ⟨η, σ, W, s, sr, a⟩ r⟩
    · exact a.elim

/-! ### calls of built-ins by data -/
def looks (s : S) : List RV → Option (List D)
  | [] => some []
  | r :: rs => match look s r, looks s rs with
    | some d, some ds => some (d :: ds)
    | _, _ => none
inductive VRs (Γ : Ct) (H F : Hp) (α : List Addr) : List V → List D → Prop
  | nil : VRs Γ H F α [] []
  | cons {v : V} {vs : List V} {d : D} {ds : List D} : VR Γ H F α v d → VRs Γ H F α vs ds → VRs Γ H F α (v :: vs) (d :: ds)
theorem SR.views (sr : SR Γ B η ρ H F α s) : ∀ {rs : List RV} {vs : List V} {ds : List D}, RRs Γ B η ρ H F α s vs rs → looks s rs = some ds → VRs Γ H F α vs ds
  | [], _, _, .nil, e => by cases e; exact .nil
  | r :: rs, _, _, .cons rr _ rt, e => by
    unfold looks at e
    cases q : look s r with
    | none => simp [q] at e
    | some d =>
      cases q2 : looks s rs with
      | none => simp [q, q2] at e
      | some ds2 =>
        simp only [q, q2, Option.some.injEq] at e
        subst e
        exact .cons (sr.view rr q) (sr.views rt q2)
def liftN (f : List D → Out) (rs : List RV) (s : S) : R RV := match looks s rs with
  | some ds => emit (f ds) s
  | none => .bad
def rDN (Γ : Ct) (B : Bs) (f : List D → Out) : List V → Hp → VK → Prop := fun vs H Q => ∃ F α ds, VRs Γ H F α vs ds ∧ Em Γ B H F α Q (f ds)
theorem KnV.rDN {f : List D → Out} {Q : VK} (h : KnV Γ B W σ H vs (liftN f) Q) : rDN Γ B f vs H Q := by
  obtain ⟨η, F, α, s, rs, sr, rr, a⟩ := h
  unfold liftN at a
  cases e : looks s rs with
  | none => simp [e] at a; exact a.elim
  | some ds =>
    simp only [e] at a
    exact ⟨F, α, ds, sr.views rr e, η, σ, W, s, sr, a⟩
def gCB (f : List D → Out) (gs : List EX) : EX := fun s => (gArgs gs s).bind (liftN f)
theorem x_callB {x : Str} {id : String} {f : List D → Out} {p : Pos} (hc : CallR X (.builtin id) (rDN Γ B f)) (hg : Gl X x) (hm : X.mg x = none) (hv : bootBuiltins x = some (.builtin id)) (ha : PA X (e :: es) (tV Γ B W (gArgs (g :: gs))))
    (hn : x ≠ "__name__") (hdb : (x == ("__debug__" : Str)) = false) (he : starEach (e :: es) X.env = (false, eval e X.env) :: starEach es X.env) (hpl : (backTo pos (starEach es X.env)).any (·.1) = false) :
    PE X (.Call (.Name x p) (e :: es) [] pos) (tX Γ B W (gCB f (g :: gs))) :=
  (pe_callB hc hg hm hv ha hn hdb he hpl).imp fun σ H Q h => (tV_bind h).mono fun vs H1 k => k.rDN
theorem x_callTy {x : Str} {T : String} {f : List D → Out} {p : Pos} (hc : CallR X (.type T) (rDN Γ B f)) (hg : Gl X x) (hm : X.mg x = none) (hv : bootBuiltins x = some (.type T)) (ha : PA X (e :: es) (tV Γ B W (gArgs (g :: gs))))
    (hn : x ≠ "__name__") (hdb : (x == ("__debug__" : Str)) = false) (he : starEach (e :: es) X.env = (false, eval e X.env) :: starEach es X.env) (hpl : (backTo pos (starEach es X.env)).any (·.1) = false) :
    PE X (.Call (.Name x p) (e :: es) [] pos) (tX Γ B W (gCB f (g :: gs))) :=
  (pe_callTy hc hg hm hv ha hn hdb he hpl).imp fun σ H Q h => (tV_bind h).mono fun vs H1 k => k.rDN
end
end Fw

set_option Elab.async false
set_option linter.all false
set_option maxRecDepth 100000
set_option maxHeartbeats 1000000
/-! Fw4: comparisons, items, slices, names. -/
namespace Fw
open PySem PySem.Spec PyProof.Rows L2

/-! ### == -/
mutual
def toP : D → Option PyData
  | .non => some .none
  | .bl b => some (.bool b)
  | .int i => some (.int i)
  | .str x => some (.str x)
  | .tup ds => match toPs ds with
    | some ps => some (.tuple ps)
    | none => none
  | .lst ds => match toPs ds with
    | some ps => some (.list ps)
    | none => none
  | .dic _ => none
  | .obj _ => none
  | .scr _ => none
  | .ty _ => none
  | .exc _ => none
  | .exf _ _ _ => none
def toPs : List D → Option (List PyData)
  | [] => some []
  | d :: ds => match toP d, toPs ds with
    | some p, some ps => some (p :: ps)
    | _, _ => none
end
section
variable {K : PySem.W.Frag} {F H : Hp} {α : List Addr}
mutual
theorem Rep.dp (g : Sub F H) : ∀ {v : V} {d : D} {p : PyData}, Rep K F α v d → toP d = some p → Dp K H v p
  | _, _, _, .non, e => by cases e; exact .non
  | _, _, _, .bl b, e => by cases e; exact .bl b
  | _, _, _, .int b, e => by cases e; exact .int b
  | _, _, _, .str b, e => by cases e; exact .str b
  | _, _, _, .tup (ds := ds) h r, e => by
    unfold toP at e
    cases q : toPs ds with
    | none => simp [q] at e
    | some ps => simp only [q, Option.some.injEq] at e; subst e; exact .tup (g.t h) (Reps.dp g r q)
  | _, _, _, .lst (ds := ds) h r, e => by
    unfold toP at e
    cases q : toPs ds with
    | none => simp [q] at e
    | some ps => simp only [q, Option.some.injEq] at e; subst e; exact .lst (.of (g _ _ h)) (Reps.dp g r q)
  | _, _, _, .scr _, e => by cases e
  | _, _, _, .dic _ _ _, e => by cases e
  | _, _, _, .obj _, e => by cases e
  | _, _, _, .ty _, e => by cases e
  | _, _, _, .exc _, e => by cases e
theorem Reps.dp (g : Sub F H) : ∀ {vs : List V} {ds : List D} {ps : List PyData}, Reps K F α vs ds → toPs ds = some ps → DpAll K H vs ps
  | _, _, _, .nil, e => by cases e; exact .nil
  | _, _, _, .cons (d := d) (ds := ds) h r, e => by
    unfold toPs at e
    cases q : toP d with
    | none => simp [q] at e
    | some p =>
      cases q2 : toPs ds with
      | none => simp [q, q2] at e
      | some ps => simp only [q, q2, Option.some.injEq] at e; subst e; exact .cons (Rep.dp g h q) (Reps.dp g r q2)
end
theorem VR.dp {Γ : Ct} {v : V} {d : D} {p : PyData} (g : Sub F H) (h : VR Γ H F α v d) (e : toP d = some p) : Dp Γ.K H v p := by
  rcases h with h | ⟨a, rfl, n⟩
  · exact h.dp g e
  · cases d with
    | lst ds =>
      obtain ⟨vs, q, r⟩ := n
      unfold toP at e
      cases q2 : toPs ds with
      | none => simp [q2] at e
      | some ps => simp only [q2, Option.some.injEq] at e; subst e; exact .lst (.of q) (r.dp g q2)
    | dic es => cases e
    | _ => exact n.elim
end
def eqP (a b : D) : Option Bool := match toP a, toP b with
  | some p, some q => if SeqAt.shaped p && SeqAt.shaped q then some (PyData.eqv p q) else none
  | _, _ => none
def eqD (a b : D) : Out := match eqP a b with
  | some k => .val (.bl k)
  | none => .no
def neD (a b : D) : Out := match eqP a b with
  | some k => .val (.bl (!k))
  | none => .no

/-! ### in -/
def toV : D → V
  | .non => .non
  | .bl b => .bl b
  | .int i => .int i
  | .str x => .str x
  | _ => .ty ""
def flatD : D → Bool
  | .non => true
  | .bl _ => true
  | .int _ => true
  | .str _ => true
  | _ => false
def eqF (a b : D) : Bool := eqV (toV a) (toV b)
def inF (x : D) (ys : List D) : Bool := ys.any fun y => eqF y x
def inP (x y : D) : Option Bool := match y with
  | .lst ys => if flatD x && ys.all flatD then some (inF x ys) else none
  | .tup ys => if flatD x && ys.all flatD then some (inF x ys) else none
  | .str z => match x with
    | .str w => match w.cps.toList with
      | [c] => some (decide (c ∈ z.cps.toList))
      | _ => none
    | _ => none
  | _ => none
def inD (a b : D) : Out := match inP a b with
  | some k => .val (.bl k)
  | none => .no
def notInD (a b : D) : Out := match inP a b with
  | some k => .val (.bl (!k))
  | none => .no
def isNon : D → Bool
  | .non => true
  | _ => false
def isG (f : Bool → Bool) : D → D → Out
  | a, .non => .val (.bl (f (isNon a)))
  | _, _ => .no
def isD : D → D → Out := isG id
def isNotD : D → D → Out := isG fun b => !b
def ordD (f : Int → Int → Bool) : D → D → Out
  | .int i, .int j => .val (.bl (f i j))
  | _, _ => .no
def cmpD : CmpOp → D → D → Out
  | .Eq => eqD
  | .NotEq => neD
  | .Lt => ordD fun i j => decide (i < j)
  | .LtE => ordD fun i j => decide (i ≤ j)
  | .Gt => ordD fun i j => decide (j < i)
  | .GtE => ordD fun i j => decide (j ≤ i)
  | .In => inD
  | .NotIn => notInD
  | .Is => isD
  | .IsNot => isNotD

section
variable {X : Cx} {Γ : Ct} {B : Bs} {H F : Hp} {α : List Addr} {v : V} {d : D} {Q : VK}
theorem VR.flat (h : VR Γ H F α v d) (f : flatD d = true) : v = toV d ∧ flatV v = true := by
  cases d with
  | non => cases h.non; exact ⟨rfl, rfl⟩
  | bl _ => cases h.bl; exact ⟨rfl, rfl⟩
  | int _ => cases h.int; exact ⟨rfl, rfl⟩
  | str _ => cases h.str; exact ⟨rfl, rfl⟩
  | _ => cases f
theorem Rep.flat (h : Rep Γ.K F α v d) (f : flatD d = true) : v = toV d ∧ flatV v = true := VR.flat (H := F) (.inl h) f
theorem Reps.flat : ∀ {vs : List V} {ds : List D}, Reps Γ.K F α vs ds → ds.all flatD = true → vs = ds.map toV ∧ vs.all flatV = true
  | _, _, .nil, _ => ⟨rfl, rfl⟩
  | _, _, .cons h r, f => by
    rw [List.all_cons, Bool.and_eq_true] at f
    obtain ⟨e1, e2⟩ := h.flat f.1
    obtain ⟨e3, e4⟩ := r.flat f.2
    exact ⟨by rw [List.map_cons, ← e1, ← e3], by rw [List.all_cons, e2, e4]; rfl⟩
theorem inV_eq {x : D} : ∀ (ys : List D), inV (toV x) (ys.map toV) = inF x ys := fun ys => by
  unfold inV inF
  rw [List.any_map]; rfl
theorem VR.seq {ys : List D} (hK : Γ.K = X.K) (g : Sub F H) (h : VR Γ H F α v (.lst ys) ∨ VR Γ H F α v (.tup ys)) : ∃ p vs, v = .ref p ∧ (SqL X.K H p vs ∨ SqT X.K H p vs) ∧ Reps Γ.K F α vs ys := by
  rcases h with h | h
  · obtain ⟨p, vs, e, q, r⟩ := h.lst g
    exact ⟨p, vs, e, .inl (.of q), r⟩
  · obtain ⟨p, vs, e, q, r⟩ := h.tup g
    exact ⟨p, vs, e, .inr (hK ▸ q), r⟩
theorem in_seq {x : D} {ys : List D} {neg : Bool} {w : V} (hK : Γ.K = X.K) (g : Sub F H) (hx : VR Γ H F α v x) (hy : VR Γ H F α w (.lst ys) ∨ VR Γ H F α w (.tup ys)) (c : (flatD x && ys.all flatD) = true)
    (q : Q (.bl (if neg then !inF x ys else inF x ys)) H) : rIn X.K neg v w H Q := by
  rw [Bool.and_eq_true] at c
  obtain ⟨p, vs, rfl, s, r⟩ := VR.seq hK g hy
  obtain ⟨e1, f1⟩ := hx.flat c.1
  obtain ⟨e2, f2⟩ := r.flat c.2
  refine ⟨p, vs, rfl, s, f1, f2, ?_⟩
  rw [e1, e2, inV_eq]
  exact q
theorem one_sign {w : Str} {c : Nat} (h : w.cps.toList = [c]) : w = ⟨#[c]⟩ := by
  cases w with
  | mk a =>
    have : a = #[c] := by
      apply Array.ext'
      simpa using h
    rw [this]
theorem o_cmp (hK : Γ.K = X.K) (hu : X.A.units + 65 < cLine) (op : CmpOp) : OpR X (compareOp op) (rD Γ B (cmpD op)) := by
  intro pins s σ H x y v u Q I rx ry h
  obtain ⟨F, α, a, b, va, vb, em⟩ := h
  have ordR : ∀ {f : Int → Int → Bool}, Em Γ B H F α Q (ordD f a b) → ∃ i j, x = .int i ∧ y = .int j ∧ Q (.bl (f i j)) H := fun {f} em => by
    cases a with
    | int i =>
      cases b with
      | int j => exact ⟨i, j, va.int, vb.int, em.val (.bl _)⟩
      | _ => exact em.no.elim
    | _ => exact em.no.elim
  have eqR : ∀ {f : Bool → Bool}, Em Γ B H F α Q (match eqP a b with | some k => .val (.bl (f k)) | none => .no) →
      ∃ d e, Dp X.K H x d ∧ Dp X.K H y e ∧ SeqAt.shaped d = true ∧ SeqAt.shaped e = true ∧ Q (.bl (f (PyData.eqv d e))) H := fun {f} em => by
    unfold eqP at em
    cases q1 : toP a with
    | none => simp only [q1] at em; exact em.no.elim
    | some p =>
      cases q2 : toP b with
      | none => simp only [q1, q2] at em; exact em.no.elim
      | some q =>
        by_cases c : (SeqAt.shaped p && SeqAt.shaped q) = true
        · simp only [q1, q2, if_pos c] at em
          rw [Bool.and_eq_true] at c
          exact ⟨p, q, hK ▸ va.dp em.sub q1, hK ▸ vb.dp em.sub q2, c.1, c.2, em.val (.bl _)⟩
        · simp only [q1, q2, if_neg c] at em
          exact em.no.elim
  have inR : ∀ {neg : Bool}, Em Γ B H F α Q (match inP a b with | some k => .val (.bl (if neg then !k else k)) | none => .no) →
      rIn X.K neg x y H Q ∨ ∃ (c : Nat) (z : Str), x = .str ⟨#[c]⟩ ∧ y = .str z ∧ Q (.bl (if neg then !decide (c ∈ z.cps.toList) else decide (c ∈ z.cps.toList))) H := fun {neg} em => by
    cases b with
    | lst ys =>
      simp only [inP] at em
      by_cases c : (flatD a && ys.all flatD) = true
      · rw [if_pos c] at em; exact .inl (in_seq hK em.sub va (.inl vb) c (em.val (.bl _)))
      · rw [if_neg c] at em; exact em.no.elim
    | tup ys =>
      simp only [inP] at em
      by_cases c : (flatD a && ys.all flatD) = true
      · rw [if_pos c] at em; exact .inl (in_seq hK em.sub va (.inr vb) c (em.val (.bl _)))
      · rw [if_neg c] at em; exact em.no.elim
    | str z =>
      cases a with
      | str w =>
        simp only [inP] at em
        cases q : w.cps.toList with
        | nil => simp only [q] at em; exact em.no.elim
        | cons c r =>
          cases r with
          | nil => simp only [q] at em; exact .inr ⟨c, z, by rw [va.str, one_sign q], vb.str, em.val (.bl _)⟩
          | cons _ _ => simp only [q] at em; exact em.no.elim
      | _ => exact em.no.elim
    | _ => exact em.no.elim
  have isR : ∀ {f : Bool → Bool}, Em Γ B H F α Q (isG f a b) → y = .non ∧ Q (.bl (f (decide (x = .non)))) H := fun {f} em => by
    cases b with
    | non =>
      refine ⟨vb.non, ?_⟩
      have e : decide (x = .non) = isNon a := by
        cases a with
        | non => cases va.non; rfl
        | _ =>
          refine decide_eq_false fun z => ?_
          subst z
          rcases va with va | ⟨a, e, _⟩
          · cases va
          · cases e
      rw [e]
      exact em.val (.bl _)
    | _ => exact em.no.elim
  cases op with
  | Eq => exact op_eqD (by omega) pins s σ H x y v u Q I rx ry (eqR (f := id) em)
  | NotEq => exact op_neD (by omega) pins s σ H x y v u Q I rx ry (eqR (f := fun b => !b) em)
  | Lt => exact op_lt pins s σ H x y v u Q I rx ry (ordR em)
  | LtE => exact op_le pins s σ H x y v u Q I rx ry (ordR em)
  | Gt => exact op_gt pins s σ H x y v u Q I rx ry (ordR em)
  | GtE => exact op_ge pins s σ H x y v u Q I rx ry (ordR em)
  | In =>
    rcases inR (neg := false) em with h | ⟨c, z, h1, h2, h3⟩
    · exact op_in_seq pins s σ H x y v u Q I rx ry h
    · exact op_in_sign pins s σ H x y v u Q I rx ry ⟨c, z, h1, h2, h3⟩
  | NotIn =>
    rcases inR (neg := true) em with h | ⟨c, z, h1, h2, h3⟩
    · exact op_notIn_seq pins s σ H x y v u Q I rx ry h
    · exact op_notIn_sign pins s σ H x y v u Q I rx ry ⟨c, z, h1, h2, h3⟩
  | Is => exact op_isN pins s σ H x y v u Q I rx ry (isR (f := id) em)
  | IsNot => exact op_notN pins s σ H x y v u Q I rx ry (isR (f := fun b => !b) em)
end

/-! ### items and slices -/
def atD (a i : D) : Out := match a, i with
  | .lst xs, .int i => match atI xs i with
    | some d => .val d
    | none => .no
  | .tup xs, .int i => match atI xs i with
    | some d => .val d
    | none => .no
  | .scr ns, .int i => match atI ns i with
    | some n => .val (.int n)
    | none => .no
  | .str x, .int i => if sz x.length then match atI x.cps.toList i with
    | some c => .val (.str ⟨#[c]⟩)
    | none => .no
    else .no
  | _, _ => .no
def cutD {β : Type} (xs : List β) (lo hi : Option Int) : List β := (xs.drop (HT.sIx xs.length 0 lo)).take (HT.sIx xs.length xs.length hi - HT.sIx xs.length 0 lo)
def slD (a : D) (lo hi : Option Int) : Out := match a with
  | .lst xs => .nl (cutD xs lo hi)
  | .tup xs => .nt (cutD xs lo hi)
  | .str x => if sz x.length then .val (.str (cutS x lo hi)) else .no
  | _ => .no
section
variable {X : Cx} {Γ : Ct} {B : Bs} {H F : Hp} {α : List Addr} {v : V} {d : D} {Q : VK}
theorem atI_some {β : Type} {xs : List β} {i : Int} {d : β} (h : atI xs i = some d) : ∃ j, ixN xs.length i = some j ∧ xs[j]? = some d := by
  unfold atI at h
  cases e : ixN xs.length i with
  | none => rw [e] at h; cases h
  | some j => rw [e] at h; exact ⟨j, rfl, h⟩
theorem Reps.atI {vs : List V} {ds : List D} {i : Int} (r : Reps Γ.K F α vs ds) (h : L2.atI ds i = some d) : ∃ v, L2.atI vs i = some v ∧ Rep Γ.K F α v d := by
  obtain ⟨j, h1, h2⟩ := atI_some h
  obtain ⟨v, h3, h4⟩ := r.at h2
  refine ⟨v, ?_, h4⟩
  unfold L2.atI
  rw [r.len, h1]; exact h3
theorem atI_map {β γ : Type} {f : β → γ} {xs : List β} {i : Int} {d : β} (h : L2.atI xs i = some d) : L2.atI (xs.map f) i = some (f d) := by
  obtain ⟨j, h1, h2⟩ := atI_some h
  unfold L2.atI
  rw [List.length_map, h1]
  show (xs.map f)[j]? = _
  rw [List.getElem?_map, h2]; rfl
theorem i_at (hK : Γ.K = X.K) : IxR X (rD Γ B atD) := by
  intro value slice pins s σ H x y v u Q I rx ry h hs
  obtain ⟨F, α, a, b, va, vb, em⟩ := h
  refine ix_seq value slice pins s σ H x y v u Q I rx ry ?_ hs
  cases b with
  | int i =>
    have ey := vb.int
    cases a with
    | lst xs =>
      simp only [atD] at em
      cases e : L2.atI xs i with
      | none => simp only [e] at em; exact em.no.elim
      | some d =>
        simp only [e] at em
        obtain ⟨p, vs, rfl, q, r⟩ := va.lst em.sub
        obtain ⟨w, h1, h2⟩ := r.atI e
        exact .inl ⟨p, vs, i, w, rfl, ey, .of q, h1, em.val h2⟩
    | tup xs =>
      simp only [atD] at em
      cases e : L2.atI xs i with
      | none => simp only [e] at em; exact em.no.elim
      | some d =>
        simp only [e] at em
        obtain ⟨p, vs, rfl, q, r⟩ := va.tup em.sub
        obtain ⟨w, h1, h2⟩ := r.atI e
        exact .inr (.inl ⟨p, vs, i, w, rfl, ey, hK ▸ q, h1, em.val h2⟩)
    | scr ns =>
      simp only [atD] at em
      cases e : L2.atI ns i with
      | none => simp only [e] at em; exact em.no.elim
      | some n =>
        simp only [e] at em
        obtain ⟨p, rfl, q⟩ := va.scr em.sub
        exact .inl ⟨p, _, i, .int n, rfl, ey, hK ▸ q, atI_map e, em.val (.int n)⟩
    | str z =>
      simp only [atD] at em
      by_cases c : sz z.length = true
      · rw [if_pos c] at em
        cases e : L2.atI z.cps.toList i with
        | none => simp only [e] at em; exact em.no.elim
        | some n =>
          simp only [e] at em
          exact .inr (.inr ⟨z, i, n, va.str, ey, szE.mp c, e, em.val (.str _)⟩)
      · rw [if_neg c] at em; exact em.no.elim
    | _ => exact em.no.elim
  | _ =>
    cases a with
    | _ => exact em.no.elim
theorem x_ix {a b : Expr} {ga gb : EX} {W : WX} {pos : Pos} (hK : Γ.K = X.K) (ha : PE X a (tX Γ B W ga)) (hb : PE X b (tX Γ B W gb)) (hs : PlainIx b) : PE X (.Subscript a b pos) (tX Γ B W (gBin (lift2 atD) ga gb)) :=
  (pe_ix (i_at hK) ha hb hs).imp fun σ H Q h => (tX_bin h).mono fun v H1 h1 => h1.mono fun w H2 h2 => h2.rD
/-- a slice, its bounds given -/
def rSlD (Γ : Ct) (B : Bs) : V → Option Int → Option Int → Hp → VK → Prop := fun v lo hi H Q => ∃ F α a, VR Γ H F α v a ∧ Em Γ B H F α Q (slD a lo hi)
theorem Reps.cut {vs : List V} {ds : List D} {lo hi : Option Int} (r : Reps Γ.K F α vs ds) : Reps Γ.K F α (cutV vs lo hi) (cutD ds lo hi) := by
  unfold cutV cutD
  rw [r.len]
  exact (r.drop _).take _
theorem cutD_whole {β : Type} {xs : List β} {lo hi : Option Int} (h : HT.sIx xs.length 0 lo = 0 ∧ HT.sIx xs.length xs.length hi = xs.length) : cutD xs lo hi = xs := by
  unfold cutD
  rw [h.1, h.2, List.drop_zero, Nat.sub_zero, List.take_length]
theorem s_sl (hK : Γ.K = X.K) : L2.SlR X (rSlD Γ B) := by
  intro pins s σ H x v vl vu lo hi sl Q I rx hs pl pu h
  obtain ⟨F, α, a, va, em⟩ := h
  cases a with
  | lst xs =>
    obtain ⟨p, vs, e, q, r⟩ := va.lst em.sub
    exact sl_list pins s σ H x v vl vu lo hi sl Q I rx hs pl pu ⟨p, vs, e, .of q, em.nl r.cut⟩
  | tup xs =>
    obtain ⟨p, vs, e, q, r⟩ := va.tup em.sub
    refine sl_tupA pins s σ H x v vl vu lo hi sl Q I rx hs pl pu ⟨p, vs, e, hK ▸ q, fun hw => ?_, fun _ => em.nt r.cut⟩
    rw [r.len] at hw
    simp only [slD] at em
    rw [cutD_whole hw] at em
    rcases va with va | ⟨_, _, z⟩
    · rw [e] at va; exact em.ntv va
    · exact z.elim
  | str z =>
    simp only [slD] at em
    by_cases c : sz z.length = true
    · rw [if_pos c] at em
      exact sl_str pins s σ H x v vl vu lo hi sl Q I rx hs pl pu ⟨z, va.str, szE.mp c, em.val (.str _)⟩
    · rw [if_neg c] at em; exact em.no.elim
  | _ => exact em.no.elim
/-- the bounds -/
abbrev PX := S → R (Option Int)
def gPart : Option EX → PX
  | none => fun s => .ok none s
  | some g => fun s => (g s).bind fun r s1 => match look s1 r with
    | some (.int i) => .ok (some i) s1
    | _ => .bad
def gSlice (ga : EX) (gl gh : Option EX) : EX := fun s => (ga s).bind fun ra s1 => (gPart gl s1).bind fun lo s2 => (gPart gh s2).bind fun hi s3 => match look s3 ra.keep with
  | some a => emit (slD a lo hi) s3
  | none => .bad
inductive POx (X : Cx) (Γ : Ct) (B : Bs) (W : WX) : Option Expr → Option EX → Prop
  | none : POx X Γ B W none none
  | some {e : Expr} {g : EX} : PE X e (tX Γ B W g) → POx X Γ B W (some e) (some g)
def AftP (Γ : Ct) (B : Bs) (W : WX) (η : List (Addr × D)) (σ : L2.St) (F : Hp) (α : List Addr) (Q : Option Int → Hp → Prop) : R (Option Int) → Prop
  | .bad => False
  | .ok b s' => ∀ H' F' α', SR Γ B η σ H' F' α' s' → Sub F F' → α <+: α' → Q b H'
  | .ex x s' => ∀ H' F' α' cls d, SR Γ B η σ H' F' α' s' → XR Γ B H' F' α' x cls d → W cls d σ H'
def tP (Γ : Ct) (B : Bs) (W : WX) (g : PX) : TO := fun σ H Q => ∃ η F α s, SR Γ B η σ H F α s ∧ AftP Γ B W η σ F α Q (g s)
theorem p_part {W : WX} {o : Option Expr} {g : Option EX} (h : POx X Γ B W o g) : PO X o (tP Γ B W (gPart g)) := by
  cases h with
  | none =>
    refine ⟨fun pins s σ H Q I ⟨η, F, α, s1, sr, a⟩ => po_none.run pins s σ H Q I (a H F α sr (Sub.refl F) List.prefix_rfl)⟩
  | @some e g he =>
    refine ⟨fun pins s σ H Q I h => (po_some he).run pins s σ H Q I ?_⟩
    obtain ⟨η, F, α, s1, sr, a⟩ := h
    refine ⟨η, F, α, s1, sr, ?_⟩
    simp only [gPart] at a
    cases e : g s1 with
    | bad => rw [e] at a; exact a
    | ex x s2 => rw [e] at a; exact a
    | ok r s2 =>
      rw [e] at a
      intro H1 F1 α1 v sr1 sub pr rr
      simp only [R.bind] at a
      cases e2 : look s2 r with
      | none => simp only [e2] at a; exact a.elim
      | some d =>
        cases d with
        | int i => simp only [e2] at a; exact ⟨i, (sr1.view rr e2).int, a H1 F1 α1 sr1 sub pr⟩
        | _ => simp only [e2] at a; exact a.elim
theorem tP_bind {W : WX} {σ : L2.St} {η : List (Addr × D)} {gp : PX} {k : Option Int → S → R RV} {s : S} (sr : SR Γ B η σ H F α s) (a : Aft Γ B W η σ F α Q ((gp s).bind k)) :
    tP Γ B W gp σ H fun o H1 => ∃ F1 α1 s1, SR Γ B η σ H1 F1 α1 s1 ∧ Sub F F1 ∧ α <+: α1 ∧ Aft Γ B W η σ F1 α1 Q (k o s1) := by
  refine ⟨η, F, α, s, sr, ?_⟩
  cases e : gp s with
  | bad => rw [e] at a; exact a
  | ex x s1 => rw [e] at a; exact a
  | ok o s1 =>
    rw [e] at a
    exact fun H1 F1 α1 sr1 sub pr => ⟨F1, α1, s1, sr1, sub, pr, Aft.up sub pr a⟩
theorem x_slice {a : Expr} {lo hi : Option Expr} {ga : EX} {gl gh : Option EX} {W : WX} {p2 pos : Pos} (hK : Γ.K = X.K) (ha : PE X a (tX Γ B W ga)) (hl : POx X Γ B W lo gl) (hh : POx X Γ B W hi gh) :
    PE X (.Subscript a (.Slice lo hi none p2) pos) (tX Γ B W (gSlice ga gl gh)) :=
  (pe_slice (s_sl hK) ha (p_part hl) (p_part hh)).imp fun σ H Q h => by
    refine (tX_bind h).mono fun v H1 ⟨η, F, α, s, r, sr, rr, a⟩ => ?_
    obtain ⟨F1, sub1, sr1, rr1⟩ := sr.keepR rr
    obtain ⟨η', F', α', s', sr', a'⟩ := tP_bind sr1 (a.up sub1 List.prefix_rfl)
    refine ⟨η', F', α', s', sr', ?_⟩
    have key : ∀ (o : Option Int) (H2 : Hp), (∃ F2 α2 s2, SR Γ B η σ H2 F2 α2 s2 ∧ Sub F1 F2 ∧ α <+: α2 ∧ Aft Γ B W η σ F2 α2 Q ((gPart gh s2).bind fun hi s3 => match look s3 r.keep with | some a => emit (slD a o hi) s3 | none => .bad)) →
        tP Γ B W (gPart gh) σ H2 fun hi H3 => rSlD Γ B v o hi H3 Q := fun o H2 ⟨F2, α2, s2, sr2, sub2, pr2, a2⟩ => by
      obtain ⟨η3, F3, α3, s3, sr3, a3⟩ := tP_bind sr2 a2
      refine ⟨η3, F3, α3, s3, sr3, ?_⟩
      have mono : ∀ (x : R (Option Int)), AftP Γ B W η3 σ F3 α3 (fun o' H1 => ∃ F1 α1 s1, SR Γ B η σ H1 F1 α1 s1 ∧ Sub F2 F1 ∧ α2 <+: α1 ∧ Aft Γ B W η σ F1 α1 Q (match look s1 r.keep with | some a => emit (slD a o o') s1 | none => .bad)) x →
          AftP Γ B W η3 σ F3 α3 (fun hi H3 => rSlD Γ B v o hi H3 Q) x := fun x hx => by
        cases x with
        | bad => exact hx
        | ex x s => exact hx
        | ok b s =>
          intro H5 F5 α5 sr5 sub5 pr5
          obtain ⟨F6, α6, s6, sr6, sub6, pr6, a6⟩ := hx H5 F5 α5 sr5 sub5 pr5
          cases e2 : look s6 r.keep with
          | none => simp only [e2] at a6; exact a6.elim
          | some d =>
            simp only [e2] at a6
            exact ⟨F6, α6, d, sr6.view (rr1.held (keep_keep r) (sub2.trans sub6) (pr2.trans pr6)) e2, η, σ, W, s6, sr6, a6⟩
      exact mono _ a3
    cases e : gPart gl s' with
    | bad => rw [e] at a'; exact a'
    | ex x s1 => rw [e] at a'; exact a'
    | ok o s1 =>
      rw [e] at a'
      intro H5 F5 α5 sr5 sub5 pr5
      obtain ⟨F6, α6, s6, sr6, sub6, pr6, a6⟩ := a' H5 F5 α5 sr5 sub5 pr5
      exact key o H5 ⟨F6, α6, s6, sr6, sub6, pr6, a6⟩
end
end Fw

set_option Elab.async false
set_option linter.all false
set_option maxRecDepth 100000
set_option maxHeartbeats 1000000
/-! Fw5: names, constants, calls of defs, what changes the state. -/
namespace Fw
open PySem PySem.Spec PyProof.Rows L2

/-! ### the state, changed -/
section
variable {Γ : Ct} {B : Bs} {H H' F F' : Hp} {α α' : List Addr} {st st' : List Cell} {s : S} {ρ : L2.St} {η : List (Addr × D)} {a p : Addr} {o o' : HO} {d d' : D} {v : V}
theorem tabs_upd (t : LamX.Tabs Γ.T H) (ha : H a = some o) (nt : NoTbl o) (ne : ∀ c q, o ≠ LamX.CodeO c q) : LamX.Tabs Γ.T (upd H a o') := fun p hp => by
  obtain ⟨ps, h1, h2, h3⟩ := t p hp
  have n1 : p.1 ≠ a := fun z => by rw [z, ha] at h1; cases h1; exact nt
  refine ⟨ps, by rw [upd_ne n1]; exact h1, h2, fun pos cv h => ?_⟩
  obtain ⟨c, e1, e2⟩ := h3 pos cv h
  refine ⟨c, e1, ?_⟩
  have n2 : c ≠ a := fun z => by rw [z, ha] at e2; exact ne _ _ (Option.some.inj e2)
  rw [upd_ne n2]; exact e2
def IsMut : HO → Prop
  | .lst _ => True
  | .dK _ => True
  | .dT _ => True
  | .ins _ _ _ => True
  | _ => False
theorem IsMut.tbl {o : HO} (h : IsMut o) : NoTbl o := by cases o <;> first | trivial | exact h.elim
theorem IsMut.code {o : HO} (h : IsMut o) (c : Addr) (q : Str) : o ≠ LamX.CodeO c q := fun z => by rw [z] at h; exact h.elim
theorem OwnR.mut (h : OwnR Γ H F α a d) : ∃ o, H a = some o ∧ IsMut o := by
  cases d with
  | lst ds => obtain ⟨vs, q, r⟩ := h; exact ⟨_, q, trivial⟩
  | dic es => obtain ⟨kvs, q, r, r'⟩ := h; exact ⟨_, q, trivial⟩
  | _ => exact h.elim
theorem CellR.mut {c : Cell} (h : CellR Γ H F α a c) : ∃ o, H a = some o ∧ IsMut o := by
  cases c with
  | lst ds => obtain ⟨vs, q, r⟩ := h; exact ⟨_, q, trivial⟩
  | ins c fs => obtain ⟨dx, vfs, q, r⟩ := h; exact ⟨_, q, trivial⟩
  | dct es => obtain ⟨kvs, q, n, r⟩ := h; exact ⟨_, q, trivial⟩
theorem CellR.other {c : Cell} {b : Addr} (hb : b ≠ a) (h : CellR Γ H F α b c) : CellR Γ (upd H a o') F α b c := h.hp fun o q _ => by rw [upd_ne hb]; exact q
/-- a slot's own thing is changed -/
theorem SR.mutSlot {i : Nat} (h : SR Γ B η ρ H F α s) (e : s.sl[i]? = some (.ow d)) (hv : ρ[i]? = some (some (.ref a))) (n' : OwnR Γ (upd H a o') F α a d') : SR Γ B η ρ (upd H a o') F α { s with sl := s.sl.set i (.ow d') } := by
  obtain ⟨ov, q, a', e1, n⟩ := h.at e
  rw [hv] at q; cases q; cases e1
  obtain ⟨o, ho, hm⟩ := n.own.mut
  have hi := (List.getElem?_eq_some_iff.mp e).1
  have k1 : ∀ {m : Nat} {dd : D}, (s.sl.set i (.ow d'))[m]? = some (.ow dd) → ∃ dd, s.sl[m]? = some (.ow dd) := fun {m dd} hm => by
    by_cases z : m = i
    · subst z; exact ⟨d, e⟩
    · rw [List.getElem?_set_ne (Ne.symm z)] at hm; exact ⟨dd, hm⟩
  have nh := h.hds i a ⟨⟨d, e⟩, hv⟩
  refine ⟨⟨fun b u q => ?_, h.g.nd, h.g.len, fun m b c h1 h2 => ?_, h.g.afz, h.g.ext, h.g.pre, h.g.new, fun b u h1 h2 h3 => ?_, fun b ps h1 => ?_, h.g.nofz, tabs_upd h.g.tabs ho hm.tbl hm.code, h.g.nt, h.g.btin⟩, by simpa using h.len, fun j x ej => ?_, fun j k b ⟨⟨d1, h1⟩, h2⟩ ⟨⟨d2, h3⟩, h4⟩ => h.dis j k b ⟨k1 h1, h2⟩ ⟨k1 h3, h4⟩,
    fun q hq => (h.hid q hq).hp fun u w _ => by rw [upd_ne (show q.1 ≠ a from fun z => nh (z ▸ List.mem_map_of_mem hq))]; exact w, h.hnd, fun j b ⟨⟨d1, h1⟩, h2⟩ => h.hds j b ⟨k1 h1, h2⟩⟩
  · have : b ≠ a := fun z => by rw [z, n.fz] at q; cases q
    rw [upd_ne this]; exact h.g.sub b u q
  · have : b ≠ a := fun z => n.na (z ▸ List.mem_of_getElem? h1)
    exact (h.g.cell _ b c h1 h2).other this
  · have : b ≠ a := fun z => by rw [z, n.bs] at h1; cases h1
    rw [upd_ne this]; exact h.g.keep b u h1 h2 h3
  · by_cases z : b = a
    · obtain ⟨o2, q2, m2⟩ := n'.mut
      rw [z, q2] at h1; cases h1; exact m2.elim
    · rw [upd_ne z] at h1; exact h.g.tin b ps h1
  · by_cases z : j = i
    · subst z
      rw [List.getElem?_set_self hi] at ej; cases ej
      rw [hv]; exact ⟨a, rfl, n.fz, n.bs, n.na, n'⟩
    · rw [List.getElem?_set_ne (Ne.symm z)] at ej
      have w := h.sl j x ej
      cases x with
      | no => trivial
      | fz d => exact w
      | ow d2 =>
        obtain ⟨a2, e2, n2⟩ := w
        have hne : a2 ≠ a := fun zz => z (h.dis j i a ⟨⟨d2, ej⟩, by
          cases hq : ρ[j]? with
          | none => rw [hq] at e2; cases e2
          | some y => rw [hq] at e2; rw [← zz]; exact congrArg some e2⟩ ⟨⟨d, e⟩, hv⟩)
        exact ⟨a2, e2, n2.hp fun u q _ => by rw [upd_ne hne]; exact q⟩
/-- a known object is changed -/
theorem SR.mutCell {n : Nat} {c c' : Cell} (h : SR Γ B η ρ H F α s) (e : s.st[n]? = some c) (hv : α[n]? = some a) (n' : CellR Γ (upd H a o') F α a c') : SR Γ B η ρ (upd H a o') F α { s with st := s.st.set n c' } := by
  obtain ⟨o, ho, hm⟩ := (h.g.cell n a c hv e).mut
  have hi := (List.getElem?_eq_some_iff.mp e).1
  have ha : a ∈ α := List.mem_of_getElem? hv
  have hf := h.g.afz a ha
  refine ⟨⟨fun b u q => ?_, h.g.nd, by simpa using h.g.len, fun m b c2 h1 h2 => ?_, h.g.afz, h.g.ext, h.g.pre, h.g.new, fun b u h1 h2 h3 => ?_, fun b ps h1 => ?_, h.g.nofz, tabs_upd h.g.tabs ho hm.tbl hm.code, h.g.nt, h.g.btin⟩, h.len, fun j x ej => ?_, h.dis, fun q hq => (h.hid q hq).hp fun u w _ => by rw [upd_ne (show q.1 ≠ a from fun z => (h.hid q hq).na (by rw [z]; exact ha))]; exact w, h.hnd, h.hds⟩
  · have : b ≠ a := fun z => by rw [z, hf] at q; cases q
    rw [upd_ne this]; exact h.g.sub b u q
  · by_cases z : m = n
    · subst z
      have h2' : (s.st.set m c')[m]? = some c2 := h2
      rw [List.getElem?_set_self hi] at h2'; cases h2'
      rw [hv] at h1; cases h1
      exact n'
    · have h2' : (s.st.set n c')[m]? = some c2 := h2
      rw [List.getElem?_set_ne (Ne.symm z)] at h2'
      have : b ≠ a := fun zz => by
        subst zz
        obtain ⟨l1, g1⟩ := List.getElem?_eq_some_iff.mp h1
        obtain ⟨l2, g2⟩ := List.getElem?_eq_some_iff.mp hv
        exact z ((List.getElem_inj h.g.nd).mp (g1.trans g2.symm))
      exact (h.g.cell m b c2 h1 h2').other this
  · have : b ≠ a := fun z => by
      subst z
      rcases h.g.new b ha with q | q
      · exact h2 q
      · rw [q] at h1; cases h1
    rw [upd_ne this]; exact h.g.keep b u h1 h2 h3
  · by_cases z : b = a
    · obtain ⟨o2, q2, m2⟩ := n'.mut
      rw [z, q2] at h1; cases h1; exact m2.elim
    · rw [upd_ne z] at h1; exact h.g.tin b ps h1
  · have w := h.sl j x ej
    cases x with
    | no => trivial
    | fz d => exact w
    | ow d2 =>
      obtain ⟨a2, e2, n2⟩ := w
      exact ⟨a2, e2, n2.hp fun u q _ => by
        rw [upd_ne (show a2 ≠ a from fun z => n2.na (by rw [z]; exact ha))]
        exact q⟩
/-- behind a call -/
theorem GR.base (g : GR Γ B H F α st) : GR Γ ⟨H, F, α⟩ H F α st := ⟨g.sub, g.nd, g.len, g.cell, g.afz, Sub.refl F, List.prefix_rfl, fun a h => .inl h, fun a o h _ _ => h, g.tin, fun a o _ h => h, g.tabs, g.nt, g.tin⟩
theorem SR.call (h : SR Γ B η ρ H F α s) (g : GR Γ ⟨H, F, α⟩ H' F' α' st') : SR Γ B η ρ H' F' α' { s with st := st' } := by
  have nin : ∀ a o, B.H a = some o → a ∉ B.al → a ∉ α := fun a o h1 h2 h3 => by
    rcases h.g.new a h3 with q | q
    · exact h2 q
    · rw [q] at h1; cases h1
  have there : ∀ a o, B.H a = some o → ∃ u, H a = some u := fun a o h1 => by
    by_cases h2 : a ∈ B.al
    · obtain ⟨u, q, _⟩ := h.g.there (h.g.pre.subset h2); exact ⟨u, q⟩
    · by_cases t : NoTbl o
      · exact ⟨o, h.g.keep a o h1 h2 t⟩
      · cases o with
        | tbl ps => obtain ⟨q, hq⟩ := h.g.btin a ps h1; obtain ⟨ps', q1, _⟩ := h.g.tabs _ hq; exact ⟨_, q1⟩
        | _ => exact absurd trivial t
  have nw : ∀ {a : Addr} {d : D}, NewR Γ B H F α a d → NewR Γ B H' F' α' a d := fun {a d} n => by
    obtain ⟨o, ho, hm⟩ := n.own.mut
    refine ⟨g.nofz a o ho n.fz, n.bs, fun z => ?_, (n.own.up g.ext g.pre).hp fun u q t => g.keep a u q n.na t⟩
    rcases g.new a z with q | q
    · exact n.na q
    · have q' : H a = none := q
      rw [ho] at q'; cases q'
  refine ⟨⟨g.sub, g.nd, g.len, g.cell, g.afz, h.g.ext.trans g.ext, h.g.pre.trans g.pre, fun a ha => ?_, fun a o h1 h2 h3 => ?_, g.tin, fun a o h1 h2 => ?_, g.tabs, g.nt, h.g.btin⟩, h.len, fun i x e => ?_, h.dis, fun q hq => nw (h.hid q hq), h.hnd, h.hds⟩
  · rcases g.new a ha with q | q
    · exact h.g.new a q
    · exact .inr (h.g.fresh q).1
  · exact g.keep a o (h.g.keep a o h1 h2 h3) (nin a o h1 h2) h3
  · obtain ⟨u, q⟩ := there a o h1
    exact g.nofz a u q (h.g.nofz a o h1 h2)
  · have w := h.sl i x e
    cases x with
    | no => trivial
    | fz d => obtain ⟨v, e1, r⟩ := w; exact ⟨v, e1, r.up g.ext g.pre⟩
    | ow d =>
      obtain ⟨a, e1, n⟩ := w
      exact ⟨a, e1, nw n⟩
theorem SR.notNone {i : Nat} (h : SR Γ B η ρ H F α s) (e : OwAt s ρ i a) : H a ≠ none := fun z => (h.fresh z).2.1 i e

/-- a name gets a value -/
def store (i : Nat) (r : RV) (s : S) : Option S := match r with
  | .fz d => some { s with sl := s.sl.set i (.fz d) }
  | .ow d => some { s with sl := s.sl.set i (.ow d) }
  | .ln j => match settle (.ln j) s with
    | some (d, s1) => some { s1 with sl := s1.sl.set i (.fz d) }
    | none => none
theorem SR.setF {i : Nat} (h : SR Γ B η ρ H F α s) (r : Rep Γ.K F α v d) (hi : i < ρ.length) : SR Γ B η (ρ.set i (some v)) H F α { s with sl := s.sl.set i (.fz d) } := by
  have hi' : i < s.sl.length := by rw [h.len]; exact hi
  have k1 : ∀ {m : Nat} {b : Addr}, OwAt { s with sl := s.sl.set i (.fz d) } (ρ.set i (some v)) m b → OwAt s ρ m b := fun {m b} ⟨⟨dd, hm⟩, hb⟩ => by
    have hm' : (s.sl.set i (.fz d))[m]? = some (.ow dd) := hm
    by_cases z : m = i
    · subst z; rw [List.getElem?_set_self hi'] at hm'; cases hm'
    · rw [List.getElem?_set_ne (Ne.symm z)] at hm' hb; exact ⟨⟨dd, hm'⟩, hb⟩
  refine ⟨h.g, by simpa using h.len, fun j x ej => ?_, fun j k b h1 h2 => h.dis j k b (k1 h1) (k1 h2), h.hid, h.hnd, fun j b h1 => h.hds j b (k1 h1)⟩
  by_cases z : j = i
  · subst z
    rw [List.getElem?_set_self hi'] at ej; cases ej
    rw [List.getElem?_set_self hi]; exact ⟨v, rfl, r⟩
  · rw [List.getElem?_set_ne (Ne.symm z)] at ej ⊢
    exact h.sl j x ej
theorem SR.setO {i : Nat} (h : SR Γ B η ρ H F α s) (r : RR Γ B η ρ H F α s v (.ow d)) (hi : i < ρ.length) : SR Γ B η (ρ.set i (some v)) H F α { s with sl := s.sl.set i (.ow d) } := by
  have hi' : i < s.sl.length := by rw [h.len]; exact hi
  obtain ⟨a, rfl, n, no, nh⟩ := r
  have k1 : ∀ {m : Nat} {b : Addr}, OwAt { s with sl := s.sl.set i (.ow d) } (ρ.set i (some (.ref a))) m b → OwAt s ρ m b ∨ (m = i ∧ b = a) := fun {m b} ⟨⟨dd, hm⟩, hb⟩ => by
    have hm' : (s.sl.set i (.ow d))[m]? = some (.ow dd) := hm
    by_cases z : m = i
    · subst z; rw [List.getElem?_set_self hi] at hb; cases hb; exact .inr ⟨rfl, rfl⟩
    · rw [List.getElem?_set_ne (Ne.symm z)] at hm' hb; exact .inl ⟨⟨dd, hm'⟩, hb⟩
  refine ⟨h.g, by simpa using h.len, fun j x ej => ?_, fun j k b h1 h2 => ?_, h.hid, h.hnd, fun j b h1 => ?_⟩
  · by_cases z : j = i
    · subst z
      rw [List.getElem?_set_self hi'] at ej; cases ej
      rw [List.getElem?_set_self hi]; exact ⟨a, rfl, n⟩
    · rw [List.getElem?_set_ne (Ne.symm z)] at ej ⊢
      exact h.sl j x ej
  · rcases k1 h1 with q1 | ⟨e1, e1'⟩
    · rcases k1 h2 with q2 | ⟨e2, e2'⟩
      · exact h.dis j k b q1 q2
      · subst e2'; exact (no j q1).elim
    · rcases k1 h2 with q2 | ⟨e2, e2'⟩
      · subst e1'; exact (no k q2).elim
      · rw [e1, e2]
  · rcases k1 h1 with q1 | ⟨e1, e1'⟩
    · exact h.hds j b q1
    · subst e1'; exact nh
theorem SR.store {i : Nat} {r : RV} {s' : S} (h : SR Γ B η ρ H F α s) (rr : RR Γ B η ρ H F α s v r) (hi : i < ρ.length) (e : store i r s = some s') : ∃ F', Sub F F' ∧ SR Γ B η (ρ.set i (some v)) H F' α s' := by
  cases r with
  | fz d => cases e; exact ⟨F, Sub.refl F, h.setF rr hi⟩
  | ow d => cases e; exact ⟨F, Sub.refl F, h.setO rr hi⟩
  | ln j =>
    unfold Fw.store at e
    cases q : settle (.ln j) s with
    | none => simp [q] at e
    | some p =>
      obtain ⟨d, s1⟩ := p
      simp only [q, Option.some.injEq] at e
      subst e
      obtain ⟨F', sub, sr', r', _, _⟩ := settle_ok h rr q
      exact ⟨F', sub, sr'.setF r' hi⟩
/-- nobody's thing is held -/
theorem SR.hold (h : SR Γ B η ρ H F α s) (r : RR Γ B η ρ H F α s v (.ow d)) : ∃ a, v = .ref a ∧ SR Γ B ((a, d) :: η) ρ H F α s := by
  obtain ⟨a, rfl, n, no, nh⟩ := r
  refine ⟨a, rfl, h.g, h.len, h.sl, h.dis, fun p hp => ?_, ?_, fun i b hb => ?_⟩
  · rcases List.mem_cons.mp hp with rfl | hp
    · exact n
    · exact h.hid p hp
  · rw [List.map_cons]; exact List.nodup_cons.mpr ⟨nh, h.hnd⟩
  · rw [List.map_cons]
    intro z
    rcases List.mem_cons.mp z with z | z
    · have z' : b = a := z
      subst z'; exact no i hb
    · exact h.hds i b hb z
theorem SR.unhold (h : SR Γ B ((a, d) :: η) ρ H F α s) : SR Γ B η ρ H F α s ∧ RR Γ B η ρ H F α s (.ref a) (.ow d) := by
  have hn := List.nodup_cons.mp (show (a :: η.map (·.1)).Nodup from h.hnd)
  exact ⟨⟨h.g, h.len, h.sl, h.dis, fun p hp => h.hid p (List.mem_cons_of_mem _ hp), hn.2, fun i b hb z => h.hds i b hb (List.mem_cons_of_mem _ z)⟩,
    a, rfl, h.hid (a, d) List.mem_cons_self, fun i hi => h.hds i a hi List.mem_cons_self, hn.1⟩
/-- what is held is changed -/
theorem SR.mutHid (h : SR Γ B ((a, d) :: η) ρ H F α s) (n' : OwnR Γ (upd H a o') F α a d') : SR Γ B ((a, d') :: η) ρ (upd H a o') F α s := by
  have n := h.hid (a, d) List.mem_cons_self
  obtain ⟨o, ho, hm⟩ := n.own.mut
  have hn := List.nodup_cons.mp (show (a :: η.map (·.1)).Nodup from h.hnd)
  refine ⟨⟨fun b u q => ?_, h.g.nd, h.g.len, fun m b c h1 h2 => ?_, h.g.afz, h.g.ext, h.g.pre, h.g.new, fun b u h1 h2 h3 => ?_, fun b ps h1 => ?_, h.g.nofz, tabs_upd h.g.tabs ho hm.tbl hm.code, h.g.nt, h.g.btin⟩, h.len, fun j x ej => ?_, h.dis, fun p hp => ?_, h.hnd, h.hds⟩
  · have : b ≠ a := fun z => by rw [z, n.fz] at q; cases q
    rw [upd_ne this]; exact h.g.sub b u q
  · have : b ≠ a := fun z => n.na (z ▸ List.mem_of_getElem? h1)
    exact (h.g.cell _ b c h1 h2).other this
  · have : b ≠ a := fun z => by rw [z, n.bs] at h1; cases h1
    rw [upd_ne this]; exact h.g.keep b u h1 h2 h3
  · by_cases z : b = a
    · obtain ⟨o2, q2, m2⟩ := n'.mut
      rw [z, q2] at h1; cases h1; exact m2.elim
    · rw [upd_ne z] at h1; exact h.g.tin b ps h1
  · have w := h.sl j x ej
    cases x with
    | no => trivial
    | fz d => exact w
    | ow d2 =>
      obtain ⟨a2, e2, n2⟩ := w
      have hne : a2 ≠ a := fun zz => h.hds j a ⟨⟨d2, ej⟩, by
        cases hq : ρ[j]? with
        | none => rw [hq] at e2; cases e2
        | some y => rw [hq] at e2; rw [← zz]; exact congrArg some e2⟩ List.mem_cons_self
      exact ⟨a2, e2, n2.hp fun u q _ => by rw [upd_ne hne]; exact q⟩
  · rcases List.mem_cons.mp hp with rfl | hp
    · exact ⟨n.fz, n.bs, n.na, n'⟩
    · have hne : p.1 ≠ a := fun z => hn.1 (z ▸ List.mem_map_of_mem hp)
      exact (h.hid p (List.mem_cons_of_mem _ hp)).hp fun u q _ => by rw [upd_ne hne]; exact q
end

/-! ### names and constants -/
def gVar (i : Nat) : EX := fun s => match s.sl[i]? with
  | some (.fz d) => .ok (.fz d) s
  | some (.ow _) => .ok (.ln i) s
  | _ => .bad
def gLit (d : D) : EX := fun s => .ok (.fz d) s
section
variable {X : Cx} {Γ : Ct} {B : Bs} {W : WX} {pos : Pos}
theorem x_var {i : Nat} {x : Str} (hN : X.N[i]? = some x) (hv : Vis X.env.scope x) (hd : (x == ("__debug__" : Str)) = false) (hcd : (x == ("__classdict__" : Str)) = false) : PE X (.Name x pos) (tX Γ B W (gVar i)) := by
  refine ⟨fun pins s σ H Q I h => (pe_var (pos := pos) hN hv hd hcd).run pins s σ H Q I ?_⟩
  obtain ⟨η, F, α, s1, sr, a⟩ := h
  have hi : i < σ.length := by rw [I.len]; exact (List.getElem?_eq_some_iff.mp hN).1
  unfold gVar at a
  cases e : s1.sl[i]? with
  | none => simp only [e] at a; exact a.elim
  | some x =>
    cases x with
    | no => simp only [e] at a; exact a.elim
    | fz d =>
      simp only [e] at a
      obtain ⟨ov, q, v, rfl, r⟩ := sr.at e
      exact ⟨v, q, a H F α v sr (Sub.refl F) List.prefix_rfl r⟩
    | ow d =>
      simp only [e] at a
      obtain ⟨ov, q, b, rfl, n⟩ := sr.at e
      exact ⟨.ref b, q, a H F α (.ref b) sr (Sub.refl F) List.prefix_rfl q⟩
theorem lit_of {v : V} {d : D} (r : ∀ F α, Rep Γ.K F α v d) : ∀ σ H Q, tX Γ B W (gLit d) σ H Q → tC v σ H Q := fun σ H Q ⟨η, F, α, s, sr, a⟩ => a H F α v sr (Sub.refl F) List.prefix_rfl (r F α)
theorem x_int {i : Int} {j} : PE X (.Constant (.int i) j pos) (tX Γ B W (gLit (.int i))) := pe_int.imp (lit_of fun _ _ => .int i)
theorem x_bl {i : Bool} {j} : PE X (.Constant (.bool i) j pos) (tX Γ B W (gLit (.bl i))) := pe_bl.imp (lit_of fun _ _ => .bl i)
theorem x_non {j} : PE X (.Constant .none j pos) (tX Γ B W (gLit .non)) := pe_non.imp (lit_of fun _ _ => .non)
theorem x_str {x : Str} {j} : PE X (.Constant (.str x) j pos) (tX Γ B W (gLit (.str x))) := pe_str.imp (lit_of fun _ _ => .str x)
/-- what stands in the written part at u is d -/
def KRep (K : PySem.W.Frag) (u : Value) (d : D) : Prop := ∃ v, RelV v u ∧ ∀ F α, Rep K F α v d
theorem x_glob {x : Str} {u : Value} {d : D} (hg : Gl X x) (hm : X.mg x = some u) (r : KRep Γ.K u d) (hd : (x == ("__debug__" : Str)) = false) : PE X (.Name x pos) (tX Γ B W (gLit d)) := by
  obtain ⟨v, rv, r⟩ := r
  exact (pe_glob hg hm rv hd).imp (lit_of r)
theorem x_bltn {x : Str} {T : String} (hg : Gl X x) (hm : X.mg x = none) (hv : bootBuiltins x = some (.type T)) (hn : x ≠ "__name__") (hd : (x == ("__debug__" : Str)) = false) : PE X (.Name x pos) (tX Γ B W (gLit (.ty T))) :=
  (pe_bltn hg hm hv (v := .ty T) rfl hn hd).imp (lit_of fun _ _ => .ty T)
end
mutual
/-- a thing of the written part, read out -/
def kD : Nat → PySem.W.Frag → Value → Option D
  | _, _, .none => some .non
  | _, _, .bool b => some (.bl b)
  | _, _, .int i _ => some (.int i)
  | _, _, .str x _ => some (.str x)
  | n + 1, K, .ref a => match K.lookup a with
    | some o => match o.data with
      | .seq its _ => if o.cls == .type "tuple" && sz its.size then (match kDs n K its.toList with | some ds => some (.tup ds) | none => none) else none
      | _ => none
    | none => none
  | _, _, _ => none
def kDs : Nat → PySem.W.Frag → List Value → Option (List D)
  | _, _, [] => some []
  | 0, _, _ => none
  | n + 1, K, u :: us => match kD n K u, kDs n K us with
    | some d, some ds => some (d :: ds)
    | _, _ => none
end
section
variable {K : PySem.W.Frag}
mutual
theorem kD_ok : ∀ (n : Nat) {u : Value} {d : D}, kD n K u = some d → KRep K u d
  | 0, u, d, e => by
    cases u with
    | none => simp only [kD] at e; cases e; exact ⟨.non, rfl, fun _ _ => .non⟩
    | bool b => simp only [kD] at e; cases e; exact ⟨.bl b, rfl, fun _ _ => .bl b⟩
    | int i t => simp only [kD] at e; cases e; exact ⟨.int i, ⟨t, rfl⟩, fun _ _ => .int i⟩
    | str x t => simp only [kD] at e; cases e; exact ⟨.str x, ⟨t, rfl⟩, fun _ _ => .str x⟩
    | _ => simp only [kD] at e; cases e
  | n + 1, u, d, e => by
    cases u with
    | none => simp only [kD] at e; cases e; exact ⟨.non, rfl, fun _ _ => .non⟩
    | bool b => simp only [kD] at e; cases e; exact ⟨.bl b, rfl, fun _ _ => .bl b⟩
    | int i t => simp only [kD] at e; cases e; exact ⟨.int i, ⟨t, rfl⟩, fun _ _ => .int i⟩
    | str x t => simp only [kD] at e; cases e; exact ⟨.str x, ⟨t, rfl⟩, fun _ _ => .str x⟩
    | ref a =>
      simp only [kD] at e
      cases q : K.lookup a with
      | none => simp only [q] at e; cases e
      | some o =>
        simp only [q] at e
        cases q2 : o.data with
        | seq its m =>
          simp only [q2] at e
          by_cases c : (o.cls == .type "tuple" && sz its.size) = true
          · rw [if_pos c] at e
            rw [Bool.and_eq_true] at c
            cases q3 : kDs n K its.toList with
            | none => simp only [q3] at e; cases e
            | some ds =>
              simp only [q3, Option.some.injEq] at e
              subst e
              obtain ⟨vs, rv, r⟩ := kDs_ok n q3
              exact ⟨.ref a, rfl, fun F α => .tup (.inr ⟨o, its, m, q, beq_iff_eq.mp c.1, q2, szE.mp c.2, rv⟩) (r F α)⟩
          · rw [if_neg c] at e; cases e
        | _ => simp only [q2] at e; cases e
    | _ => simp only [kD] at e; cases e
theorem kDs_ok : ∀ (n : Nat) {us : List Value} {ds : List D}, kDs n K us = some ds → ∃ vs, Vals vs us ∧ ∀ F α, Reps K F α vs ds
  | n, [], ds, e => by simp only [kDs] at e; cases e; exact ⟨[], .nil, fun _ _ => .nil⟩
  | 0, u :: us, ds, e => by simp only [kDs] at e; cases e
  | n + 1, u :: us, ds, e => by
    simp only [kDs] at e
    cases q : kD n K u with
    | none => simp only [q] at e; cases e
    | some d =>
      cases q2 : kDs n K us with
      | none => simp only [q, q2] at e; cases e
      | some ds2 =>
        simp only [q, q2, Option.some.injEq] at e
        subst e
        obtain ⟨v, rv, r⟩ := kD_ok n q
        obtain ⟨vs, rvs, rs⟩ := kDs_ok n q2
        exact ⟨v :: vs, .cons rv rvs, fun F α => .cons (r F α) (rs F α)⟩
end
end

/-! ### a def's promise; calls -/
inductive FR where
  | ok (r : RV) (st : List Cell) | ex (x : Ex) (st : List Cell) | bad
abbrev Fn := List D → List Cell → FR
def RetR (Γ : Ct) (B : Bs) (H F : Hp) (α : List Addr) (v : V) : RV → Prop
  | .fz d => Rep Γ.K F α v d
  | .ow d => ∃ a, v = .ref a ∧ NewR Γ B H F α a d
  | .ln _ => False
def AftF (Γ : Ct) (B : Bs) (Q : VK) (E : XK) : FR → Prop
  | .bad => False
  | .ok r st' => ∀ H' F' α' v, GR Γ B H' F' α' st' → RetR Γ B H' F' α' v r → Q v H'
  | .ex x st' => ∀ H' F' α' cls d, GR Γ B H' F' α' st' → XR Γ B H' F' α' x cls d → E cls d H'
def spD (Γ : Ct) (n : Nat) (fn : Fn) : Sp := fun vs H Q E => vs.length = n ∧ ∃ F α st ds, GR Γ ⟨H, F, α⟩ H F α st ∧ Reps Γ.K F α vs ds ∧ AftF Γ ⟨H, F, α⟩ Q E (fn ds st)
def callK (fn : Fn) (ds : List D) (s : S) : R RV := match fn ds s.st with
  | .ok (.fz d) st' => .ok (.fz d) { s with st := st' }
  | .ok (.ow d) st' => .ok (.ow d) { s with st := st' }
  | .ok (.ln _) _ => .bad
  | .ex x st' => .ex x { s with st := st' }
  | .bad => .bad
section
variable {X : Cx} {Γ : Ct} {B : Bs} {W : WX} {σ : L2.St} {H : Hp} {vs : List V} {Q : VK} {fn : Fn} {n : Nat}
theorem XR.out {H H' F' : Hp} {F : Hp} {α α' : List Addr} {x : Ex} {cls : Value} {d : Option Addr} {st : List Cell} (g : GR Γ B H F α st) (xr : XR Γ ⟨H, F, α⟩ H' F' α' x cls d) : XR Γ B H' F' α' x cls d :=
  ⟨xr.1, xr.2.imp id fun ⟨h1, dd, vfs, h2, h3, h4, h5⟩ => ⟨h1, dd, vfs, h2, h3, (g.fresh h4).1, h5⟩⟩
theorem call_sp (h : KnD Γ B W σ H vs (callK fn) Q) (hl : vs.length = n) : spD Γ n fn vs H Q (WE W σ) := by
  obtain ⟨η, F, α, s, ds, sr, r, a⟩ := h
  refine ⟨hl, F, α, s.st, ds, sr.g.base, r, ?_⟩
  unfold callK at a
  cases e : fn ds s.st with
  | bad => simp only [e] at a; exact a
  | ex x st' =>
    simp only [e] at a
    exact fun H' F' α' cls d g xr => a H' F' α' cls d (sr.call g) (xr.out sr.g)
  | ok r st' =>
    cases r with
    | fz d =>
      simp only [e] at a
      exact fun H' F' α' v g rr => a H' F' α' v (sr.call g) g.ext g.pre rr
    | ow d =>
      simp only [e] at a
      intro H' F' α' v g ⟨b, ev, nr⟩
      have hb : H b = none := nr.bs
      exact a H' F' α' v (sr.call g) g.ext g.pre ⟨b, ev, ⟨nr.fz, (sr.fresh hb).1.1, nr.na, nr.own⟩, (sr.fresh hb).2⟩
    | ln i => simp only [e] at a; exact a.elim
end
end Fw

set_option Elab.async false
set_option linter.all false
set_option maxRecDepth 100000
set_option maxHeartbeats 1000000
/-! Fw6: temporaries, targets, statements. -/
namespace Fw
open PySem PySem.Spec PyProof.Rows L2

/-! ### targets: the value is in the hand -/
abbrev GX := RV → S → R Unit
/-- alike but for some slots -/
def EqOff (ts : List Nat) (σ σ' : L2.St) : Prop := σ'.length = σ.length ∧ ∀ j, j ∉ ts → σ'[j]? = σ[j]?
def AftG (Γ : Ct) (B : Bs) (W : WX) (η : List (Addr × D)) (σ : L2.St) (F : Hp) (α : List Addr) (ts : List Nat) (Q : L2.St → Hp → Prop) : R Unit → Prop
  | .bad => False
  | .ok _ s' => ∀ σ' H' F' α', SR Γ B η σ' H' F' α' s' → EqOff ts σ σ' → Sub F F' → α <+: α' → Q σ' H'
  | .ex _ _ => False
def tG (Γ : Ct) (B : Bs) (W : WX) (ts : List Nat) (p : GX) : TG := fun v σ H Q => ∃ η F α s r, SR Γ B η σ H F α s ∧ RR Γ B η σ H F α s v r ∧ AftG Γ B W η σ F α ts Q (p r s)
/-- a name -/
def pName (i : Nat) : GX := fun r s => match store i r s with
  | some s' => .ok () s'
  | none => .bad
section
variable {X : Cx} {Γ : Ct} {B : Bs} {W : WX} {pos : Pos}
theorem AftG.up {η : List (Addr × Fw.D)} {σ : L2.St} {F F' : Hp} {α α' : List Addr} {Q : L2.St → Hp → Prop} {ts : List Nat} {x : R Unit} (e : Sub F F') (p : α <+: α') (h : AftG Γ B W η σ F α ts Q x) : AftG Γ B W η σ F' α' ts Q x := by
  cases x with
  | bad => exact h
  | ok r s' => exact fun σ' H' G β h1 h2 h3 h4 => h σ' H' G β h1 h2 (e.trans h3) (p.trans h4)
  | ex x s' => exact h
theorem name_ok {η : List (Addr × Fw.D)} {σ : L2.St} {H F : Hp} {α : List Addr} {s : S} {r : RV} {v : V} {i : Nat} {Q : L2.St → Hp → Prop} (hi : i < σ.length) (sr : SR Γ B η σ H F α s) (rr : RR Γ B η σ H F α s v r) (a : AftG Γ B W η σ F α [i] Q (pName i r s)) : Q (σ.set i (some v)) H := by
  unfold pName at a
  cases e : store i r s with
  | none => simp only [e] at a; exact a.elim
  | some s2 =>
    simp only [e] at a
    obtain ⟨F2, sub2, sr2⟩ := sr.store rr hi e
    exact a (σ.set i (some v)) H F2 α sr2 ⟨by simp, fun j hj => List.getElem?_set_ne (fun z => hj (by simp [z]))⟩ sub2 List.prefix_rfl
theorem g_name {i : Nat} {x : Str} (hN : X.N.Nodup) (hi : X.N[i]? = some x) (hx : Loc X.env.scope x) (hf : X.fn x = true ∨ X.env.scope.names.lookup x = some .local) : PG X (.Name x pos) (tG Γ B W [i] (pName i)) := by
  refine ⟨fun pins s σ H v u Q I r h => (pg_name (pos := pos) hN hi hx hf).run pins s σ H v u Q I r ?_⟩
  obtain ⟨η, F, α, s1, k, sr, hv, a⟩ := h
  have hi' : i < σ.length := by rw [I.len]; exact (List.getElem?_eq_some_iff.mp hi).1
  exact name_ok hi' sr hv a
end

/-! ### statements -/
inductive RS where
  | nx (s : S) | rt (r : RV) (s : S) | bk (s : S) | ct (s : S) | ex (x : Ex) (s : S) | bad
abbrev SX := S → RS
def AftS (Γ : Ct) (B : Bs) (W : WX) (η : List (Addr × Fw.D)) (F : Hp) (α : List Addr) (n : Nat) (D : Ends) : RS → Prop
  | .bad => False
  | .nx s' => ∀ σ' H' F' α', SR Γ B η σ' H' F' α' s' → σ'.length = n → Sub F F' → α <+: α' → D.nx σ' H'
  | .bk s' => ∀ σ' H' F' α', SR Γ B η σ' H' F' α' s' → σ'.length = n → Sub F F' → α <+: α' → D.bk σ' H'
  | .ct s' => ∀ σ' H' F' α', SR Γ B η σ' H' F' α' s' → σ'.length = n → Sub F F' → α <+: α' → D.ct σ' H'
  | .rt r s' => ∀ σ' H' F' α' v, SR Γ B η σ' H' F' α' s' → σ'.length = n → Sub F F' → α <+: α' → RetR Γ B H' F' α' v r → D.rt v H'
  | .ex x s' => ∀ σ' H' F' α' cls d, SR Γ B η σ' H' F' α' s' → σ'.length = n → XR Γ B H' F' α' x cls d → W cls d σ' H'
def tS (Γ : Ct) (B : Bs) (W : WX) (g : SX) : TS := fun D σ H => ∃ η F α s, SR Γ B η σ H F α s ∧ AftS Γ B W η F α σ.length D (g s)
def R.toS {β : Type} (r : R β) (k : β → S → RS) : RS := match r with
  | .ok b s => k b s
  | .ex x s => .ex x s
  | .bad => .bad
def gNext : SX := fun s => .nx s
def gSeq (g h : SX) : SX := fun s => match g s with
  | .nx s1 => h s1
  | r => r
section
variable {X : Cx} {Γ : Ct} {B : Bs} {W : WX} {pos : Pos} {st : Stmt} {sts : List Stmt} {g h : SX} {D : Ends} {σ : L2.St} {η : List (Addr × Fw.D)} {H F F' : Hp} {α α' : List Addr} {n : Nat}
theorem AftS.up {x : RS} (e : Sub F F') (p : α <+: α') (h : AftS Γ B W η F α n D x) : AftS Γ B W η F' α' n D x := by
  cases x with
  | bad => exact h
  | nx s' => exact fun σ' H' G β h1 h2 h3 h4 => h σ' H' G β h1 h2 (e.trans h3) (p.trans h4)
  | bk s' => exact fun σ' H' G β h1 h2 h3 h4 => h σ' H' G β h1 h2 (e.trans h3) (p.trans h4)
  | ct s' => exact fun σ' H' G β h1 h2 h3 h4 => h σ' H' G β h1 h2 (e.trans h3) (p.trans h4)
  | rt r s' => exact fun σ' H' G β v h1 h2 h3 h4 h5 => h σ' H' G β v h1 h2 (e.trans h3) (p.trans h4) h5
  | ex x s' => exact h
theorem _root_.L2.PS.imp {t t' : TS} (h : PS X st t) (k : ∀ D σ H, t' D σ H → t D σ H) : PS X st t' := ⟨fun pins s σ H D I q => h.run pins s σ H D I (k D σ H q)⟩
theorem _root_.L2.PS.impI {t t' : TS} (h : PS X st t) (k : ∀ pins s D σ H, Inv X pins σ H s → t' D σ H → t D σ H) : PS X st t' := ⟨fun pins s σ H D I q => h.run pins s σ H D I (k pins s D σ H I q)⟩
theorem _root_.L2.PSs.imp {t t' : TS} (h : PSs X sts t) (k : ∀ D σ H, t' D σ H → t D σ H) : PSs X sts t' := ⟨fun pins s σ H D I q => h.run pins s σ H D I (k D σ H q)⟩
theorem tS_seq (q : tS Γ B W (gSeq g h) D σ H) : tSeq (tS Γ B W g) (tS Γ B W h) D σ H := by
  obtain ⟨η, F, α, s, sr, a⟩ := q
  refine ⟨η, F, α, s, sr, ?_⟩
  unfold gSeq at a
  cases e : g s with
  | nx s1 =>
    simp only [e] at a
    exact fun σ' H' F' α' sr' hl sub pr => ⟨η, F', α', s1, sr', by rw [hl]; exact a.up sub pr⟩
  | bad => simp only [e] at a; exact a
  | bk s1 => simp only [e] at a; exact a
  | ct s1 => simp only [e] at a; exact a
  | rt r s1 => simp only [e] at a; exact a
  | ex x s1 => simp only [e] at a; exact a
theorem b_nil : PSs X [] (tS Γ B W gNext) := pss_nil.imp fun D σ H ⟨η, F, α, s, sr, a⟩ => a σ H F α sr rfl (Sub.refl F) List.prefix_rfl
theorem b_cons (h1 : PS X st (tS Γ B W g)) (h2 : PSs X sts (tS Γ B W h)) : PSs X (st :: sts) (tS Γ B W (gSeq g h)) := (pss_cons h1 h2).imp fun D σ H q => tS_seq q
theorem s_pass : PS X (.Pass pos) (tS Γ B W gNext) := ps_pass.imp fun D σ H ⟨η, F, α, s, sr, a⟩ => a σ H F α sr rfl (Sub.refl F) List.prefix_rfl
theorem s_doc {x j pos'} : PS X (.Expr (.Constant (.str x) j pos) pos') (tS Γ B W gNext) := ps_doc.imp fun D σ H ⟨η, F, α, s, sr, a⟩ => a σ H F α sr rfl (Sub.refl F) List.prefix_rfl
def gCont : SX := fun s => .ct s
theorem s_cont : PS X (.Continue pos) (tS Γ B W gCont) := ps_continue.imp fun D σ H ⟨η, F, α, s, sr, a⟩ => a σ H F α sr rfl (Sub.refl F) List.prefix_rfl
/-- an expression, its value dropped -/
def gDrop (g : EX) : SX := fun s => (g s).toS fun _ s1 => .nx s1
theorem s_expr {e : Expr} {g : EX} (he : PE X e (tX Γ B W g)) (hs : swapsWith e none pos.line X.env = pure false) : PS X (.Expr e pos) (tS Γ B W (gDrop g)) :=
  (ps_expr he hs).imp fun D σ H ⟨η, F, α, s, sr, a⟩ => by
    refine ⟨η, F, α, s, sr, ?_⟩
    unfold gDrop at a
    cases e : g s with
    | bad => rw [e] at a; exact a
    | ex x s1 => rw [e] at a; exact fun H' F' α' cls d sr' => a σ H' F' α' cls d sr' rfl
    | ok r s1 => rw [e] at a; exact fun H' F' α' v sr' sub pr _ => a σ H' F' α' sr' rfl sub pr
/-- return -/
def retV (r : RV) (s : S) : RS := match r with
  | .ln i => match s.sl[i]? with
    | some (.ow d) => .rt (.ow d) s
    | some (.fz d) => .rt (.fz d) s
    | _ => .bad
  | r => .rt r s
def gRet (g : EX) : SX := fun s => (g s).toS retV
theorem ret_ok {r : RV} {s : S} {v : V} (sr : SR Γ B η σ H F α s) (rr : RR Γ B η σ H F α s v r) (a : AftS Γ B W η F α σ.length D (retV r s)) : D.rt v H := by
  cases r with
  | fz d => exact a σ H F α v sr rfl (Sub.refl F) List.prefix_rfl rr
  | ow d => obtain ⟨b, e, n, _⟩ := rr; exact a σ H F α v sr rfl (Sub.refl F) List.prefix_rfl ⟨b, e, n⟩
  | ln i =>
    simp only [retV] at a
    cases q : s.sl[i]? with
    | none => simp only [q] at a; exact a.elim
    | some x =>
      have hv : σ[i]? = some (some v) := rr
      cases x with
      | no => simp only [q] at a; exact a.elim
      | fz d =>
        simp only [q] at a
        obtain ⟨ov, q', w, e1, n⟩ := sr.at q
        rw [hv] at q'; cases q'; cases e1
        exact a σ H F α v sr rfl (Sub.refl F) List.prefix_rfl n
      | ow d =>
        simp only [q] at a
        obtain ⟨ov, q', w, e1, n⟩ := sr.at q
        rw [hv] at q'; cases q'; cases e1
        exact a σ H F α _ sr rfl (Sub.refl F) List.prefix_rfl ⟨w, rfl, n⟩
theorem s_ret {e : Expr} {g : EX} (he : PE X e (tX Γ B W g)) : PS X (.Return (some e) pos) (tS Γ B W (gRet g)) :=
  (ps_ret he).imp fun D σ H ⟨η, F, α, s, sr, a⟩ => by
    refine ⟨η, F, α, s, sr, ?_⟩
    unfold gRet at a
    cases e : g s with
    | bad => rw [e] at a; exact a
    | ex x s1 => rw [e] at a; exact fun H' F' α' cls d sr' => a σ H' F' α' cls d sr' rfl
    | ok r s1 => rw [e] at a; exact fun H' F' α' v sr' sub pr rr => ret_ok sr' rr (AftS.up sub pr a)
def gRetN : SX := fun s => .rt (.fz .non) s
theorem s_retN : PS X (.Return none pos) (tS Γ B W gRetN) := ps_retN.imp fun D σ H ⟨η, F, α, s, sr, a⟩ => a σ H F α .non sr rfl (Sub.refl F) List.prefix_rfl .non
/-- if -/
def gIfS (gc : EX) (g h : SX) : SX := fun s => (toT gc s).toS fun b s1 => if b = true then g s1 else h s1
theorem s_if {c : Expr} {a b : List Stmt} {gc : EX} (hc : PT X c (tT Γ B W (toT gc))) (ha : PSs X a (tS Γ B W g)) (hb : PSs X b (tS Γ B W h)) : PS X (.If c a b pos) (tS Γ B W (gIfS gc g h)) :=
  (ps_if hc ha hb).imp fun D σ H ⟨η, F, α, s, sr, a⟩ => by
    refine ⟨η, F, α, s, sr, ?_⟩
    unfold gIfS at a
    cases e : toT gc s with
    | bad => rw [e] at a; exact a
    | ex x s1 => rw [e] at a; exact fun H' F' α' cls d sr' => a σ H' F' α' cls d sr' rfl
    | ok r s1 =>
      rw [e] at a
      intro H' F' α' sr' sub pr
      cases r with
      | true => exact ⟨η, F', α', s1, sr', AftS.up sub pr a⟩
      | false => exact ⟨η, F', α', s1, sr', AftS.up sub pr a⟩
/-- x = e -/
def gSet (i : Nat) (g : EX) : SX := fun s => (g s).toS fun r s1 => match store i r s1 with
  | some s2 => .nx s2
  | none => .bad
theorem set_ok {e : Expr} {g : EX} {i : Nat} {pins : List (Addr × Obj)} {sh : Shared} (I : Inv X pins σ H sh) (hi : i < X.N.length) (q : tS Γ B W (gSet i g) D σ H) : tAsg (tX Γ B W g) (gName i) D σ H := by
  obtain ⟨η, F, α, s, sr, a⟩ := q
  refine ⟨η, F, α, s, sr, ?_⟩
  have hi' : i < σ.length := by rw [I.len]; exact hi
  unfold gSet at a
  cases e : g s with
  | bad => rw [e] at a; exact a
  | ex x s1 => rw [e] at a; exact fun H' F' α' cls d sr' => a σ H' F' α' cls d sr' rfl
  | ok r s1 =>
    rw [e] at a
    intro H' F' α' v sr' sub pr rr
    simp only [R.toS] at a
    cases e2 : store i r s1 with
    | none => simp only [e2] at a; exact a.elim
    | some s2 =>
      simp only [e2] at a
      obtain ⟨F2, sub2, sr2⟩ := sr'.store rr hi' e2
      exact a (σ.set i (some v)) H' F2 α' sr2 (by simp) (sub.trans sub2) pr
theorem s_set {i : Nat} {x : Str} {e : Expr} {g : EX} {pos' : Pos} (hN : X.N.Nodup) (hi : X.N[i]? = some x) (hx : Loc X.env.scope x) (he : PE X e (tX Γ B W g)) (hs : swapsWith e (some (.Name x pos')) pos.line X.env = pure false)
    (hf : X.fn x = true ∨ X.env.scope.names.lookup x = some .local) : PS X (.Assign [.Name x pos'] e pos) (tS Γ B W (gSet i g)) :=
  (ps_set hN hi hx he hs hf).impI fun pins s D σ H I q => set_ok (e := e) I (List.getElem?_eq_some_iff.mp hi).1 q
end

/-! ### a def's body -/
def runB (N : Nat) (g : SX) : Fn := fun ds st => match g { sl := ds.map .fz ++ List.replicate (N - ds.length) .no, st := st } with
  | .nx s => .ok (.fz .non) s.st
  | .rt r s => .ok r s.st
  | .ex x s => .ex x s.st
  | _ => .bad
section
variable {Γ : Ct} {B : Bs} {H F : Hp} {α : List Addr} {st : List Cell} {vs : List V} {ds : List D} {N : List Str}
theorem SR.start (g : GR Γ B H F α st) (r : Reps Γ.K F α vs ds) (hl : vs.length ≤ N.length) : SR Γ B [] (L2.start N vs) H F α { sl := ds.map .fz ++ List.replicate (N.length - ds.length) .no, st := st } := by
  have e := r.len
  have noO : ∀ {i : Nat} {d : D}, (ds.map Sl.fz ++ List.replicate (N.length - ds.length) Sl.no)[i]? = some (.ow d) → False := fun {i d} q' => by
    by_cases c : i < ds.length
    · rw [List.getElem?_append_left (by simpa using c), List.getElem?_map, List.getElem?_eq_getElem c] at q'
      cases q'
    · rw [List.getElem?_append_right (by simpa using c), List.getElem?_replicate] at q'
      split at q' <;> cases q'
  refine ⟨g, ?_, fun i x q => ?_, fun i j a ⟨⟨d, h1⟩, h2⟩ => (noO h1).elim, fun p hp => absurd hp List.not_mem_nil, List.nodup_nil, fun i a ⟨⟨d, h1⟩, h2⟩ => (noO h1).elim⟩
  · rw [List.length_append, List.length_map, List.length_replicate]
    unfold L2.start
    rw [List.length_append, List.length_map, List.length_replicate, e]
  · have q' : (ds.map Sl.fz ++ List.replicate (N.length - ds.length) Sl.no)[i]? = some x := q
    by_cases c : i < ds.length
    · rw [List.getElem?_append_left (by simpa using c), List.getElem?_map] at q'
      rw [List.getElem?_eq_getElem c] at q'
      cases q'
      obtain ⟨v, h1, h2⟩ := r.at (List.getElem?_eq_getElem c)
      refine ⟨v, ?_, h2⟩
      unfold L2.start
      rw [List.getElem?_append_left (by rw [List.length_map, e]; exact c), List.getElem?_map, h1]; rfl
    · rw [List.getElem?_append_right (by simpa using c), List.getElem?_replicate] at q'
      split at q'
      · cases q'; trivial
      · cases q'
end
theorem fn_ok {P : Program} {w : World} {mg : Str → Option Value} {base : Heap} {Γ : Ct} {k : Nat} {f : Addr} {x qual : Str} {st : Stmt} {fd : FuncData} {N ps : List Str} {g : SX} (FF : L2.Fun Γ.K x qual st f fd) (hS : FnScope N ps (defScope st)) (hl : ps.length ≤ N.length)
    (hb : ∀ (cdv : Value) (A : Around) (outer : List Env) (s : Shared) (H : Hp) (E : XK) (B : Bs), Room k (A.deeper (envOfC qual (defScope st) s.heap.objs.size f cdv)) →
      PSs (cxOf (L2N.CX P w) P w Γ.K mg base N qual (defScope st) f cdv A outer s H E) (defBody st) (tS Γ B (fun cls d _ H => E cls d H) g)) :
    FnOk P w Γ.K mg base (L2N.CX P w) (k + 1) f fd ps (spD Γ ps.length (runB N.length g)) := by
  obtain ⟨oc, od, kV, doc, pm, an, cdv, ct, osl, rfl, lk, hcd⟩ := FF.ex
  refine fn_of lk hcd hS (fun vs H Q E h => h.1) fun A outer s H vs Q E hr hsp => ?_
  obtain ⟨hv, F, α, st1, ds, g0, r, a⟩ := hsp
  refine ⟨_, hb cdv A outer s H E ⟨H, F, α⟩ hr, [], F, α, _, SR.start g0 r (by rw [hv]; exact hl), ?_⟩
  unfold runB at a
  cases e : g { sl := ds.map .fz ++ List.replicate (N.length - ds.length) .no, st := st1 } with
  | bad => rw [e] at a; exact a
  | bk s1 => rw [e] at a; exact a.elim
  | ct s1 => rw [e] at a; exact a.elim
  | nx s1 => rw [e] at a; exact fun σ' H' F' α' sr _ _ _ => a H' F' α' .non sr.g .non
  | rt r s1 => rw [e] at a; exact fun σ' H' F' α' v sr _ _ _ rr => a H' F' α' v sr.g rr
  | ex x s1 => rw [e] at a; exact fun σ' H' F' α' cls d sr _ xr => a H' F' α' cls d sr.g xr
end Fw

set_option Elab.async false
set_option linter.all false
set_option maxRecDepth 100000
set_option maxHeartbeats 1000000
/-! Fw7: loops and comprehensions. -/
namespace Fw
open PySem PySem.Spec PyProof.Rows L2

abbrev IX := S → R (List D)
/-- an iterator gives the items -/
def Walks (Γ : Ct) (B : Bs) (J : It) (F : Hp) (α : List Addr) (items : List D) : Prop := ∀ η ρ s H' F' α', SR Γ B η ρ H' F' α' s → Sub F F' → α <+: α' → ∀ i,
  (i < items.length → J.go i H' ∧ ∀ x H2, J.yld i H' x H2 → ∃ F2, Sub F' F2 ∧ SR Γ B η ρ H2 F2 α' s ∧ ∃ d, items[i]? = some d ∧ Rep Γ.K F2 α' x d) ∧ (items.length ≤ i → J.stop i H')
def AftI (Γ : Ct) (B : Bs) (W : WX) (η : List (Addr × D)) (σ : L2.St) (F : Hp) (α : List Addr) (R' : It → Hp → Prop) : R (List D) → Prop
  | .bad => False
  | .ok items s' => ∀ H' F' α' J, SR Γ B η σ H' F' α' s' → Sub F F' → α <+: α' → Walks Γ B J F' α' items → R' J H'
  | .ex x s' => ∀ H' F' α' cls d, SR Γ B η σ H' F' α' s' → XR Γ B H' F' α' x cls d → W cls d σ H'
def tI (Γ : Ct) (B : Bs) (W : WX) (gi : IX) : TI := fun σ H R' => ∃ η F α s, SR Γ B η σ H F α s ∧ AftI Γ B W η σ F α R' (gi s)

section
variable {Γ : Ct} {B : Bs} {F : Hp} {α : List Addr} {a : Addr} {vs : List V} {ds : List D}
theorem walks_list (hF : F a = some (.lst vs)) (r : Reps Γ.K F α vs ds) : Walks Γ B (Itl Γ.K a) F α ds := fun η ρ s H' F' α' sr sub pr i => by
  have hs : SqL Γ.K H' a vs := .of (sr.g.sub _ _ (sub _ _ hF))
  refine ⟨fun hi => ?_, fun hi => ⟨vs, hs, by rw [r.len]; exact hi⟩⟩
  obtain ⟨v, h1, h2⟩ := r.at (List.getElem?_eq_getElem hi)
  refine ⟨⟨vs, v, hs, h1⟩, fun x H2 ⟨e, hx⟩ => ?_⟩
  subst e
  have := hx vs hs
  rw [h1] at this; cases this
  exact ⟨F', Sub.refl F', sr, _, List.getElem?_eq_getElem hi, h2.up sub pr⟩
theorem walks_tup (hF : SqT Γ.K F a vs) (r : Reps Γ.K F α vs ds) : Walks Γ B (Itt Γ.K a) F α ds := fun η ρ s H' F' α' sr sub pr i => by
  have hs : SqT Γ.K H' a vs := sr.g.sub.t (sub.t hF)
  refine ⟨fun hi => ?_, fun hi => ⟨vs, hs, by rw [r.len]; exact hi⟩⟩
  obtain ⟨v, h1, h2⟩ := r.at (List.getElem?_eq_getElem hi)
  refine ⟨⟨vs, v, hs, h1⟩, fun x H2 ⟨e, hx⟩ => ?_⟩
  subst e
  have := hx vs hs
  rw [h1] at this; cases this
  exact ⟨F', Sub.refl F', sr, _, List.getElem?_eq_getElem hi, h2.up sub pr⟩
def rangeD (lo : Int) (n : Nat) : List D := (List.range n).map fun (i : Nat) => D.int (lo + (i : Int))
theorem walks_range {lo : Int} {n : Nat} : Walks Γ B (Itr lo n) F α (rangeD lo n) := fun η ρ s H' F' α' sr sub pr i => by
  unfold rangeD
  refine ⟨fun hi => ?_, fun hi => show n ≤ i by simpa using hi⟩
  have hi' : i < n := by simpa using hi
  refine ⟨hi', fun x H2 ⟨e, hx⟩ => ?_⟩
  subst e hx
  exact ⟨F', Sub.refl F', sr, .int (lo + (i : Int)), by simp [hi'], .int _⟩
def signsD (x : Str) : List D := x.cps.toList.map fun c => D.str ⟨#[c]⟩
theorem walks_str {x : Str} : Walks Γ B (Its x) F α (signsD x) := fun η ρ s H' F' α' sr sub pr i => by
  have hl : (signsD x).length = x.cps.size := by simp [signsD]
  refine ⟨fun hi => ?_, fun hi => by rw [hl] at hi; exact hi⟩
  rw [hl] at hi
  refine ⟨hi, fun v H2 ⟨e, c, h1, h2⟩ => ?_⟩
  subst e h2
  refine ⟨F', Sub.refl F', sr, .str ⟨#[c]⟩, ?_, .str _⟩
  unfold signsD
  rw [List.getElem?_map, Array.getElem?_toList, h1]; rfl
end

/-! ### what a for walks -/
def itemsD : D → Option (List D)
  | .lst ds => some ds
  | .tup ds => some ds
  | .str x => some (signsD x)
  | _ => none
def gSeqI (g : EX) : IX := fun s => (g s).bind fun r s1 => match settle r.keep s1 with
  | some (d, s2) => match itemsD d with
    | some ds => .ok ds s2
    | none => .bad
  | none => .bad
def gRng1 (g : EX) : IX := fun s => (g s).bind fun r s1 => match look s1 r with
  | some (.int j) => if -(2 ^ 62) ≤ j ∧ j < 2 ^ 62 then .ok (rangeD 0 j.toNat) s1 else .bad
  | _ => .bad
def gRng2 (ga gb : EX) : IX := fun s => (ga s).bind fun ra s1 => (gb s1).bind fun rb s2 => match look s2 ra.keep, look s2 rb with
  | some (.int i), some (.int j) => if -(2 ^ 62) ≤ i ∧ i < 2 ^ 62 ∧ -(2 ^ 62) ≤ j ∧ j < 2 ^ 62 then .ok (rangeD i (j - i).toNat) s2 else .bad
  | _, _ => .bad
section
variable {X : Cx} {Γ : Ct} {B : Bs} {W : WX} {tg e a b : Expr} {g ga gb : EX} {p pos : Pos}
theorem _root_.L2.PI.imp {w w' : TI} (h : PI X tg e w) (k : ∀ σ H R, w' σ H R → w σ H R) : PI X tg e w' := ⟨fun pins s σ H R I q => h.run pins s σ H R I (k σ H R q)⟩
theorem _root_.L2.PI.or {w w' : TI} (h : PI X tg e w) (h' : PI X tg e w') : PI X tg e (fun σ H R => w σ H R ∨ w' σ H R) := ⟨fun pins s σ H R I q => q.elim (fun q => h.run pins s σ H R I q) fun q => h'.run pins s σ H R I q⟩
/-- one step of a reading: what an expression gives, for a kind of walk -/
theorem seqI_of {σ : L2.St} {H : Hp} {R' : It → Hp → Prop} (h : tI Γ B W (gSeqI g) σ H R') :
    (tX Γ B W g σ H fun x H1 => ∃ a, x = .ref a ∧ (∃ xs, SqL Γ.K H1 a xs) ∧ R' (Itl Γ.K a) H1) ∨ (tX Γ B W g σ H fun x H1 => ∃ a, x = .ref a ∧ (∃ xs, SqT Γ.K H1 a xs) ∧ R' (Itt Γ.K a) H1) ∨ tX Γ B W g σ H fun v H1 => ∃ x, v = .str x ∧ R' (Its x) H1 := by
  obtain ⟨η, F, α, s, sr, a⟩ := h
  unfold gSeqI at a
  cases e : g s with
  | bad => rw [e] at a; exact a.elim
  | ex x s1 => exact .inl ⟨η, F, α, s, sr, by rw [e] at a ⊢; exact a⟩
  | ok r s1 =>
    rw [e] at a
    simp only [R.bind] at a
    cases e2 : settle r.keep s1 with
    | none => simp only [e2] at a; exact a.elim
    | some q =>
      obtain ⟨d, s2⟩ := q
      simp only [e2] at a
      have key : ∀ {H' F' : Hp} {α' : List Addr} {v : V}, SR Γ B η σ H' F' α' s1 → Sub F F' → α <+: α' → RR Γ B η σ H' F' α' s1 v r → ∃ F2, Sub F F2 ∧ SR Γ B η σ H' F2 α' s2 ∧ Rep Γ.K F2 α' v d := fun {H' F' α' v} sr' sub pr rr => by
        obtain ⟨F1, sub1, sr1, rr1⟩ := sr'.keepR rr
        obtain ⟨F2, sub2, sr2, r2, _⟩ := settle_ok sr1 rr1 e2
        exact ⟨F2, (sub.trans sub1).trans sub2, sr2, r2⟩
      cases d with
      | lst ds =>
        refine .inl ⟨η, F, α, s, sr, ?_⟩
        rw [e]
        intro H' F' α' v sr' sub pr rr
        obtain ⟨F2, sub2, sr2, r2⟩ := key sr' sub pr rr
        cases r2 with
        | lst hf r3 => exact ⟨_, rfl, ⟨_, .of (sr2.g.sub _ _ hf)⟩, a H' F2 α' _ sr2 sub2 pr (walks_list hf r3)⟩
      | tup ds =>
        refine .inr (.inl ⟨η, F, α, s, sr, ?_⟩)
        rw [e]
        intro H' F' α' v sr' sub pr rr
        obtain ⟨F2, sub2, sr2, r2⟩ := key sr' sub pr rr
        cases r2 with
        | tup hf r3 => exact ⟨_, rfl, ⟨_, sr2.g.sub.t hf⟩, a H' F2 α' _ sr2 sub2 pr (walks_tup hf r3)⟩
      | str x =>
        refine .inr (.inr ⟨η, F, α, s, sr, ?_⟩)
        rw [e]
        intro H' F' α' v sr' sub pr rr
        obtain ⟨F2, sub2, sr2, r2⟩ := key sr' sub pr rr
        cases r2
        exact ⟨x, rfl, a H' F2 α' _ sr2 sub2 pr walks_str⟩
      | _ => exact a.elim
theorem i_seq (hK : Γ.K = X.K) (he : PE X e (tX Γ B W g)) : PI X tg e (tI Γ B W (gSeqI g)) :=
  ((pi_list he).or ((pi_tup he).or (pi_str he))).imp fun σ H R' h => by
    have q := seqI_of h
    rw [hK] at q
    exact q
theorem i_rng1 (hg : Gl X "range") (hm : X.mg "range" = none) (he : PE X a (tX Γ B W g)) (hs : starEach [a] X.env = [(false, eval a X.env)]) : PI X tg (.Call (.Name "range" p) [a] [] pos) (tI Γ B W (gRng1 g)) :=
  (pi_range1 hg hm (pa_cons he pa_nil hs) hs).imp fun σ H R' h => by
    obtain ⟨η, F, α, s, sr, a⟩ := h
    refine ⟨η, F, α, s, sr, ?_⟩
    unfold gRng1 at a
    cases e : g s with
    | bad => rw [e] at a; exact a.elim
    | ex x s1 => rw [e] at a; exact a
    | ok r s1 =>
      rw [e] at a
      intro H' F' α' v sr' sub pr rr
      simp only [R.bind] at a
      cases e2 : look s1 r with
      | none => simp only [e2] at a; exact a.elim
      | some d =>
        cases d with
        | int j =>
          simp only [e2] at a
          split at a
          · next c => exact ⟨j, by rw [(sr'.view rr e2).int], c.1, c.2, a H' F' α' _ sr' sub pr walks_range⟩
          · exact a.elim
        | _ => simp only [e2] at a; exact a.elim
theorem i_rng2 (hg : Gl X "range") (hm : X.mg "range" = none) (ha : PE X a (tX Γ B W ga)) (hb : PE X b (tX Γ B W gb)) (hs : starEach [a, b] X.env = [(false, eval a X.env), (false, eval b X.env)]) (hs2 : starEach [b] X.env = [(false, eval b X.env)]) :
    PI X tg (.Call (.Name "range" p) [a, b] [] pos) (tI Γ B W (gRng2 ga gb)) :=
  (pi_range2 hg hm (pa_cons ha (pa_cons hb pa_nil hs2) (by rw [hs, hs2])) hs hs2).imp fun σ H R' h => by
    obtain ⟨η, F, α, s, sr, q⟩ := h
    refine ⟨η, F, α, s, sr, ?_⟩
    unfold gRng2 at q
    cases e : ga s with
    | bad => rw [e] at q; exact q.elim
    | ex x s1 => rw [e] at q; exact q
    | ok ra s1 =>
      rw [e] at q
      intro H1 F1 α1 v sr1 sub1 pr1 rr1
      obtain ⟨F1', sub1', sr1', rr1'⟩ := sr1.keepR rr1
      refine ⟨η, F1', α1, s1, sr1', ?_⟩
      simp only [R.bind] at q
      cases e2 : gb s1 with
      | bad => rw [e2] at q; exact q.elim
      | ex x s2 => rw [e2] at q; exact q
      | ok rb s2 =>
        rw [e2] at q
        intro H2 F2 α2 w sr2 sub2 pr2 rr2
        simp only [R.bind] at q
        have rr1'' : RR Γ B η σ H2 F2 α2 s2 v ra.keep := rr1'.held (keep_keep ra) sub2 pr2
        cases e3 : look s2 ra.keep with
        | none => simp only [e3] at q; exact q.elim
        | some d =>
          cases e4 : look s2 rb with
          | none => simp only [e3, e4] at q; exact q.elim
          | some d2 =>
            simp only [e3, e4] at q
            cases d with
            | int i =>
              cases d2 with
              | int j =>
                have q : AftI Γ B W η σ F α R' (if -(2 ^ 62) ≤ i ∧ i < 2 ^ 62 ∧ -(2 ^ 62) ≤ j ∧ j < 2 ^ 62 then .ok (rangeD i (j - i).toNat) s2 else .bad) := q
                split at q
                · next c => exact ⟨i, j, by rw [(sr2.view rr1'' e3).int, (sr2.view rr2 e4).int], c, q H2 F2 α2 _ sr2 ((sub1.trans sub1').trans sub2) (pr1.trans pr2) walks_range⟩
                · exact q.elim
              | _ => exact q.elim
            | _ => exact q.elim
end

/-! ### for, while -/
def loopF (p : GX) (body : SX) : List D → SX
  | [], s => .nx s
  | d :: ds, s => match p (.fz d) s with
    | .ok _ s1 => match body s1 with
      | .nx s2 => loopF p body ds s2
      | .ct s2 => loopF p body ds s2
      | .bk s2 => .nx s2
      | .rt r s2 => .rt r s2
      | .ex x s2 => .ex x s2
      | .bad => .bad
    | _ => .bad
def gFor (gi : IX) (p : GX) (body : SX) : SX := fun s => (gi s).toS (loopF p body)
def whileF (gc : EX) (body : SX) : Nat → SX
  | 0, _ => .bad
  | n + 1, s => match toT gc s with
    | .ok true s1 => match body s1 with
      | .nx s2 => whileF gc body n s2
      | .ct s2 => whileF gc body n s2
      | .bk s2 => .nx s2
      | .rt r s2 => .rt r s2
      | .ex x s2 => .ex x s2
      | .bad => .bad
    | .ok false s1 => .nx s1
    | .ex x s1 => .ex x s1
    | .bad => .bad
section
variable {X : Cx} {Γ : Ct} {B : Bs} {W : WX} {tg iter c : Expr} {gi : IX} {gc : EX} {p : GX} {ts : List Nat} {body : List Stmt} {g : SX} {pos : Pos} {D : Ends} {σ : L2.St} {η : List (Addr × Fw.D)} {H1 F1 : Hp} {α1 : List Addr} {s1 : S} {items : List Fw.D} {J : It}
theorem for_ok (w : Walks Γ B J F1 α1 items) (sr : SR Γ B η σ H1 F1 α1 s1) (a : AftS Γ B W η F1 α1 σ.length D (loopF p g items s1)) :
    ∃ V : Nat → Nat → L2.St → Hp → Prop, (∃ m, V 0 m σ H1) ∧ ∀ i m σ H, V i m σ H →
      (J.stop i H ∧ D.nx σ H) ∨ (J.go i H ∧ ∃ N : L2.St → Hp → Prop, (∀ σ' H', N σ' H' → ∃ m', m' < m ∧ V (i + 1) m' σ' H') ∧ ∀ x H', J.yld i H x H' → tG Γ B W ts p x σ H' fun σ2 H2 => tS Γ B W g { D with nx := N, ct := N, bk := D.nx } σ2 H2) := by
  refine ⟨fun i m σ' H' => m = items.length - i ∧ i ≤ items.length ∧ σ'.length = σ.length ∧ ∃ F α s, SR Γ B η σ' H' F α s ∧ Sub F1 F ∧ α1 <+: α ∧ AftS Γ B W η F α σ.length D (loopF p g (items.drop i) s),
    ⟨items.length, by simp, Nat.zero_le _, rfl, F1, α1, s1, sr, Sub.refl _, List.prefix_rfl, a⟩, ?_⟩
  rintro i m σ' H' ⟨rfl, hi, hl, F, α, s, sr', sub, pr, a'⟩
  obtain ⟨w1, w2⟩ := w η σ' s H' F α sr' sub pr i
  by_cases c : i < items.length
  · obtain ⟨go, step⟩ := w1 c
    refine .inr ⟨go, fun σ2 H2 => σ2.length = σ.length ∧ ∃ F α s, SR Γ B η σ2 H2 F α s ∧ Sub F1 F ∧ α1 <+: α ∧ AftS Γ B W η F α σ.length D (loopF p g (items.drop (i + 1)) s), fun σ2 H2 ⟨q1, q2⟩ => ⟨items.length - (i + 1), by omega, rfl, by omega, q1, q2⟩, fun x H2 y => ?_⟩
    obtain ⟨F2, sub2, sr2, d, hd, rd⟩ := step x H2 y
    have ed : items.drop i = d :: items.drop (i + 1) := by
      rw [List.drop_eq_getElem_cons c]
      rw [List.getElem?_eq_getElem c] at hd
      rw [Option.some.inj hd]
    rw [ed] at a'
    refine ⟨η, F2, α, s, .fz d, sr2, rd, ?_⟩
    unfold loopF at a'
    cases e : p (.fz d) s with
    | bad => simp only [e] at a'; exact a'
    | ex x s3 => simp only [e] at a'; exact a'
    | ok u s3 =>
      simp only [e] at a'
      intro σ3 H3 F3 α3 sr3 hl3 sub3 pr3
      have hl3' : σ3.length = σ.length := hl3.1.trans hl
      refine ⟨η, F3, α3, s3, sr3, ?_⟩
      rw [hl3']
      have a' := a'.up (sub2.trans sub3) pr3
      have sub13 : Sub F1 F3 := (sub.trans sub2).trans sub3
      have pr13 : α1 <+: α3 := pr.trans pr3
      cases e2 : g s3 with
      | bad => simp only [e2] at a'; exact a'
      | ex x s4 => simp only [e2] at a'; exact a'
      | rt r s4 => simp only [e2] at a'; exact a'
      | bk s4 => simp only [e2] at a'; exact a'
      | nx s4 => simp only [e2] at a'; exact fun σ4 H4 F4 α4 sr4 hl4 sub4 pr4 => ⟨hl4, F4, α4, s4, sr4, sub13.trans sub4, pr13.trans pr4, a'.up sub4 pr4⟩
      | ct s4 => simp only [e2] at a'; exact fun σ4 H4 F4 α4 sr4 hl4 sub4 pr4 => ⟨hl4, F4, α4, s4, sr4, sub13.trans sub4, pr13.trans pr4, a'.up sub4 pr4⟩
  · have ei : items.drop i = [] := List.drop_eq_nil_of_le (by omega)
    rw [ei] at a'
    exact .inl ⟨w2 (by omega), a' σ' H' F α sr' hl (Sub.refl _) List.prefix_rfl⟩
theorem s_for (hp : PassesOwn (model X.prog X.w) X.A X.env X.xe) (hc : X.calm = true) (hi : PI X tg iter (tI Γ B W gi)) (hg : PG X tg (tG Γ B W ts p)) (hb : PSs X body (tS Γ B W g)) (hs : ∀ x, foldedSetIterable iter X.env x = pure x) :
    PS X (.For tg iter body [] pos) (tS Γ B W (gFor gi p g)) :=
  (ps_for hp hc hi hg hb hs).imp fun D σ H ⟨η, F, α, s, sr, a⟩ => by
    refine ⟨η, F, α, s, sr, ?_⟩
    unfold gFor at a
    cases e : gi s with
    | bad => rw [e] at a; exact a
    | ex x s1 => rw [e] at a; exact fun H' F' α' cls d sr' => a σ H' F' α' cls d sr' rfl
    | ok items s1 => rw [e] at a; exact fun H1 F1 α1 J sr1 sub pr w => for_ok w sr1 (AftS.up sub pr a)
def gWhile (n : Nat) (gc : EX) (body : SX) : SX := whileF gc body n
theorem s_while {n : Nat} (hp : PassesOwn (model X.prog X.w) X.A X.env X.xe) (hc : PT X c (tT Γ B W (toT gc))) (hb : PSs X body (tS Γ B W g)) : PS X (.While c body [] pos) (tS Γ B W (gWhile n gc g)) :=
  (ps_while hp hc hb).imp fun D σ H ⟨η, F, α, s, sr, a⟩ => by
    refine ⟨fun m σ' H' => ∃ F α s, SR Γ B η σ' H' F α s ∧ σ'.length = σ.length ∧ AftS Γ B W η F α σ.length D (whileF gc g m s), ⟨n, F, α, s, sr, rfl, a⟩, ?_⟩
    rintro m σ' H' ⟨F, α, s, sr, hl, a⟩
    refine ⟨η, F, α, s, sr, ?_⟩
    cases m with
    | zero => exact a.elim
    | succ m =>
      unfold whileF at a
      cases e : toT gc s with
      | bad => simp only [e] at a; exact a
      | ex x s1 => simp only [e] at a; exact fun H1 F1 α1 cls dd sr1 xr => a σ' H1 F1 α1 cls dd sr1 hl xr
      | ok b s1 =>
        intro H1 F1 α1 sr1 sub pr
        cases b with
        | false => simp only [e] at a; exact a σ' H1 F1 α1 sr1 hl sub pr
        | true =>
          simp only [e] at a
          have a := a.up sub pr
          refine ⟨fun σ2 H2 => ∃ F α s, SR Γ B η σ2 H2 F α s ∧ σ2.length = σ.length ∧ AftS Γ B W η F α σ.length D (whileF gc g m s), fun σ2 H2 q => ⟨m, Nat.lt_succ_self m, q⟩, η, F1, α1, s1, sr1, ?_⟩
          rw [hl]
          cases e2 : g s1 with
          | bad => simp only [e2] at a; exact a
          | ex x s4 => simp only [e2] at a; exact a
          | rt r s4 => simp only [e2] at a; exact a
          | bk s4 => simp only [e2] at a; exact a
          | nx s4 => simp only [e2] at a; exact fun σ4 H4 F4 α4 sr4 hl4 sub4 pr4 => ⟨F4, α4, s4, sr4, hl4, a.up sub4 pr4⟩
          | ct s4 => simp only [e2] at a; exact fun σ4 H4 F4 α4 sr4 hl4 sub4 pr4 => ⟨F4, α4, s4, sr4, hl4, a.up sub4 pr4⟩
end
end Fw

set_option Elab.async false
set_option linter.all false
set_option maxRecDepth 100000
set_option maxHeartbeats 1000000
/-! Fw8: list comprehensions; calls of defs; raise; targets of several parts. -/
namespace Fw
open PySem PySem.Spec PyProof.Rows L2

/-! ### slots forgotten and given back -/
def wipeL (l : List Sl) : List Nat → List Sl
  | [] => l
  | v :: vs => (wipeL l vs).set v .no
def wipeS (vs : List Nat) (s : S) : S := { s with sl := wipeL s.sl vs }
def backL (l0 l : List Sl) : List Nat → List Sl
  | [] => l
  | v :: vs => (backL l0 l vs).set v (l0[v]?.getD .no)
def isOw : Sl → Bool
  | .ow _ => true
  | _ => false
def noOwn (vs : List Nat) (l : List Sl) : Bool := vs.all fun v => !isOw (l[v]?.getD .no)
theorem wipeL_length (l : List Sl) : ∀ vs, (wipeL l vs).length = l.length
  | [] => rfl
  | v :: vs => by unfold wipeL; rw [List.length_set, wipeL_length l vs]
theorem backL_length (l0 l : List Sl) : ∀ vs, (backL l0 l vs).length = l.length
  | [] => rfl
  | v :: vs => by unfold backL; rw [List.length_set, backL_length l0 l vs]
theorem wipeL_get {l : List Sl} {i : Nat} {x : Sl} : ∀ {vs : List Nat}, (wipeL l vs)[i]? = some x → (i ∈ vs ∧ x = .no) ∨ (i ∉ vs ∧ l[i]? = some x)
  | [], h => .inr ⟨by simp, h⟩
  | v :: vs, h => by
    unfold wipeL at h
    by_cases e : i = v
    · subst e
      have hi := (List.getElem?_eq_some_iff.mp h).1
      rw [List.length_set] at hi
      rw [List.getElem?_set_self hi] at h
      exact .inl ⟨by simp, (Option.some.inj h).symm⟩
    · rw [List.getElem?_set_ne (Ne.symm e)] at h
      rcases wipeL_get h with ⟨h1, h2⟩ | ⟨h1, h2⟩
      · exact .inl ⟨List.mem_cons_of_mem _ h1, h2⟩
      · exact .inr ⟨fun z => (List.mem_cons.mp z).elim e h1, h2⟩
theorem backL_get {l0 l : List Sl} {i : Nat} {x : Sl} : ∀ {vs : List Nat}, (backL l0 l vs)[i]? = some x → (i ∈ vs ∧ x = l0[i]?.getD .no) ∨ (i ∉ vs ∧ l[i]? = some x)
  | [], h => .inr ⟨by simp, h⟩
  | v :: vs, h => by
    unfold backL at h
    by_cases e : i = v
    · subst e
      have hi := (List.getElem?_eq_some_iff.mp h).1
      rw [List.length_set] at hi
      rw [List.getElem?_set_self hi] at h
      exact .inl ⟨by simp, (Option.some.inj h).symm⟩
    · rw [List.getElem?_set_ne (Ne.symm e)] at h
      rcases backL_get h with ⟨h1, h2⟩ | ⟨h1, h2⟩
      · exact .inl ⟨List.mem_cons_of_mem _ h1, h2⟩
      · exact .inr ⟨fun z => (List.mem_cons.mp z).elim e h1, h2⟩
theorem wipe_get {σ : L2.St} {i : Nat} : ∀ {vs : List Nat}, i ∉ vs → (wipe σ vs)[i]? = σ[i]?
  | [], _ => rfl
  | v :: vs, h => by
    unfold wipe
    rw [List.getElem?_set_ne (fun z => h (by simp [z]))]
    exact wipe_get fun z => h (List.mem_cons_of_mem _ z)
theorem wipe_in {σ : L2.St} {i : Nat} : ∀ {vs : List Nat}, i ∈ vs → (wipe σ vs)[i]?.getD none = none
  | [], h => by simp at h
  | v :: vs, h => by
    unfold wipe
    by_cases e : i = v
    · subst e
      by_cases hi : i < (wipe σ vs).length
      · rw [List.getElem?_set_self hi]; rfl
      · rw [List.getElem?_eq_none (by simpa using hi)]; rfl
    · rw [List.getElem?_set_ne (Ne.symm e)]
      rcases List.mem_cons.mp h with z | z
      · exact absurd z e
      · exact wipe_in z
theorem wipe_eq {σ σ' : L2.St} : ∀ {ts vs : List Nat}, EqOff ts σ σ' → (∀ t ∈ ts, t ∈ vs) → wipe σ' vs = wipe σ vs := fun {ts vs} h hs => by
  apply List.ext_getElem?
  intro i
  by_cases hi : i ∈ vs
  · have l1 := wipe_length σ vs
    have l2 := wipe_length σ' vs
    have e1 := wipe_in (σ := σ) hi
    have e2 := wipe_in (σ := σ') hi
    by_cases c : i < σ.length
    · have c1 : i < (wipe σ vs).length := by omega
      have c2 : i < (wipe σ' vs).length := by rw [l2, h.1]; exact c
      rw [List.getElem?_eq_getElem c1] at e1 ⊢
      rw [List.getElem?_eq_getElem c2] at e2 ⊢
      exact congrArg some ((show _ = none from e2).trans (show _ = none from e1).symm)
    · have h1 := h.1
      rw [List.getElem?_eq_none (show (wipe σ' vs).length ≤ i by omega), List.getElem?_eq_none (show (wipe σ vs).length ≤ i by omega)]
  · rw [wipe_get hi, wipe_get hi]
    exact h.2 i fun z => hi (hs i z)
section
variable {Γ : Ct} {B : Bs} {H H' F F' : Hp} {α α' : List Addr} {s s' : S} {σ ρ : L2.St} {η : List (Addr × D)} {vs : List Nat}
theorem SR.wipe (h : SR Γ B η ρ H F α s) (vs : List Nat) : SR Γ B η (L2.wipe ρ vs) H F α (wipeS vs s) := by
  have k1 : ∀ {m : Nat} {b : Addr}, OwAt (wipeS vs s) (L2.wipe ρ vs) m b → OwAt s ρ m b := fun {m b} ⟨⟨d, h1⟩, h2⟩ => by
    rcases wipeL_get (show (wipeL s.sl vs)[m]? = _ from h1) with ⟨_, q⟩ | ⟨q1, q2⟩
    · cases q
    · rw [wipe_get q1] at h2; exact ⟨⟨d, q2⟩, h2⟩
  refine ⟨h.g, ?_, fun i x e => ?_, fun i j b h1 h2 => h.dis i j b (k1 h1) (k1 h2), h.hid, h.hnd, fun i b h1 => h.hds i b (k1 h1)⟩
  · show (wipeL s.sl vs).length = _
    rw [wipeL_length, wipe_length]; exact h.len
  · rcases wipeL_get (show (wipeL s.sl vs)[i]? = _ from e) with ⟨_, q⟩ | ⟨q1, q2⟩
    · subst q; trivial
    · rw [wipe_get q1]; exact h.sl i x q2
/-- the slots are as they were -/
theorem SR.back (h0 : SR Γ B η σ H F α s) (no : noOwn vs s.sl = true) (h : SR Γ B η (L2.wipe σ vs) H' F' α' s') (sub : Sub F F') (pr : α <+: α') : SR Γ B η σ H' F' α' { s' with sl := backL s.sl s'.sl vs } := by
  have hn : ∀ v ∈ vs, isOw (s.sl[v]?.getD .no) = false := fun v hv => by
    have := List.all_eq_true.mp no v hv
    simpa using this
  have k1 : ∀ {m : Nat} {b : Addr}, OwAt { s' with sl := backL s.sl s'.sl vs } σ m b → OwAt s' (L2.wipe σ vs) m b := fun {m b} ⟨⟨d, h1⟩, h2⟩ => by
    rcases backL_get (show (backL s.sl s'.sl vs)[m]? = _ from h1) with ⟨q0, q⟩ | ⟨q1, q2⟩
    · have := hn m q0; rw [← q] at this; cases this
    · exact ⟨⟨d, q2⟩, by rw [wipe_get q1]; exact h2⟩
  refine ⟨h.g, ?_, fun i x e => ?_, fun i j b h1 h2 => h.dis i j b (k1 h1) (k1 h2), h.hid, h.hnd, fun i b h1 => h.hds i b (k1 h1)⟩
  · show (backL s.sl s'.sl vs).length = _
    rw [backL_length, h.len, wipe_length]
  · rcases backL_get (show (backL s.sl s'.sl vs)[i]? = _ from e) with ⟨q0, q⟩ | ⟨q1, q2⟩
    · have w := hn i q0
      cases c : s.sl[i]? with
      | none => rw [c] at q; subst q; trivial
      | some y =>
        rw [c] at q w
        have q : x = y := q
        subst q
        have z := h0.sl i x c
        cases x with
        | no => trivial
        | fz d => obtain ⟨v, e1, r⟩ := z; exact ⟨v, e1, r.up sub pr⟩
        | ow d => cases w
    · have z := h.sl i x q2
      rw [wipe_get q1] at z; exact z
end

/-! ### [e for x in xs if t] -/
def compF (p : GX) (gt : TX) (ge : EX) (vs : List Nat) : List D → List D → S → R (List D)
  | [], acc, s => .ok acc s
  | d :: ds, acc, s => match p (.fz d) s with
    | .ok _ s1 => match gt s1 with
      | .ok true s2 => match ge s2 with
        | .ok r s3 => match settle r.keep s3 with
          | some (d', s4) => if acc.length < sizeLine then compF p gt ge vs ds (acc ++ [d']) (wipeS vs s4) else .bad
          | none => .bad
        | _ => .bad
      | .ok false s2 => compF p gt ge vs ds acc (wipeS vs s2)
      | _ => .bad
    | _ => .bad
def gComp (vs : List Nat) (gi : IX) (p : GX) (gt : TX) (ge : EX) : EX := fun s => (gi s).bind fun items s1 =>
  if noOwn vs s1.sl = true then match compF p gt ge vs items [] (wipeS vs s1) with
    | .ok acc s2 => .ok (.ow (.lst acc)) { s2 with sl := backL s1.sl s2.sl vs }
    | _ => .bad
  else .bad
def tstYes : TX := fun s => .ok true s
section
variable {X : Cx} {Γ : Ct} {B : Bs} {W : WX} {gi : IX} {gt : TX} {ge : EX} {p : GX} {ts vs : List Nat} {pos : Pos} {σ : L2.St} {η : List (Addr × D)} {H F : Hp} {α : List Addr} {s : S} {items : List D} {J : It} {Q : VK}
abbrev W0 : WX := fun _ _ _ _ => False
theorem lc_ok (hts : ∀ t ∈ ts, t ∈ vs) (h : tX Γ B W (gComp vs gi p gt ge) σ H Q) : tLc (tI Γ B W gi) (tG Γ B W0 ts p) (tT Γ B W0 gt) (tX Γ B W0 ge) vs σ H Q := by
  obtain ⟨η, F, α, s, sr, a⟩ := h
  refine ⟨η, F, α, s, sr, ?_⟩
  unfold gComp at a
  cases e : gi s with
  | bad => rw [e] at a; exact a.elim
  | ex x s1 => rw [e] at a; exact a
  | ok items s1 =>
    rw [e] at a
    intro H1 F1 α1 J sr1 sub pr w
    have a : Aft Γ B W η σ F1 α1 Q (if noOwn vs s1.sl = true then match compF p gt ge vs items [] (wipeS vs s1) with
      | .ok acc s2 => .ok (.ow (.lst acc)) { s2 with sl := backL s1.sl s2.sl vs }
      | _ => .bad
      else .bad) := Aft.up sub pr a
    by_cases no : noOwn vs s1.sl = true
    · rw [if_pos no] at a
      intro D hD
      have sr2 := (sr1.newO (o := .lst []) hD)
      have rn : RR Γ B η σ (upd H1 D (.lst [])) F1 α1 s1 (.ref D) (.ow (.lst [])) := sr1.newN hD ⟨[], upd_same, .nil⟩
      obtain ⟨D', eD, sr3⟩ := sr2.hold rn
      cases eD
      have fin : ∀ {acc : List Fw.D} {s2 : S}, compF p gt ge vs items [] (wipeS vs s1) = .ok acc s2 → ∀ H' F' α', SR Γ B ((D, .lst acc) :: η) (wipe σ vs) H' F' α' s2 → Sub F1 F' → α1 <+: α' → Q (.ref D) H' := fun {acc s2} ec H' F' α' sr' sub' pr' => by
        rw [ec] at a
        obtain ⟨u1, u2⟩ := sr'.unhold
        have sb := sr1.back no u1 sub' pr'
        refine a H' F' α' (.ref D) sb sub' pr' ?_
        obtain ⟨a', ea, n, n1, n2⟩ := u2
        cases ea
        refine ⟨D, rfl, n, fun i hi => ?_, n2⟩
        have k := hi
        obtain ⟨⟨d, h1⟩, h2⟩ := k
        rcases backL_get (show (backL s1.sl s2.sl vs)[i]? = _ from h1) with ⟨q0, q⟩ | ⟨q1, q2⟩
        · have hn := List.all_eq_true.mp no i q0
          rw [← q] at hn; cases hn
        · exact n1 i ⟨⟨d, q2⟩, by rw [wipe_get q1]; exact h2⟩
      refine ⟨fun i m H' => m = items.length - i ∧ i ≤ items.length ∧ ∃ F α s acc, SR Γ B ((D, .lst acc) :: η) (wipe σ vs) H' F α s ∧ Sub F1 F ∧ α1 <+: α ∧ compF p gt ge vs (items.drop i) acc s = compF p gt ge vs items [] (wipeS vs s1),
        ⟨items.length, by simp, Nat.zero_le _, F1, α1, wipeS vs s1, [], sr3.wipe vs, Sub.refl _, List.prefix_rfl, rfl⟩, ?_⟩
      rintro i m H' ⟨rfl, hi, F2, α2, s2, acc, sr4, sub4, pr4, ec⟩
      obtain ⟨w1, w2⟩ := w _ _ s2 H' F2 α2 sr4 sub4 pr4 i
      by_cases c : i < items.length
      · obtain ⟨go, step⟩ := w1 c
        refine .inr ⟨go, fun H' => ∃ F α s acc, SR Γ B ((D, .lst acc) :: η) (wipe σ vs) H' F α s ∧ Sub F1 F ∧ α1 <+: α ∧ compF p gt ge vs (items.drop (i + 1)) acc s = compF p gt ge vs items [] (wipeS vs s1), fun H' q => ⟨items.length - (i + 1), by omega, rfl, by omega, q⟩, fun x H2 y => ?_⟩
        obtain ⟨F5, sub5, sr5, d, hd, rd⟩ := step x H2 y
        have ed : items.drop i = d :: items.drop (i + 1) := by
          rw [List.drop_eq_getElem_cons c]
          rw [List.getElem?_eq_getElem c] at hd
          rw [Option.some.inj hd]
        rw [ed] at ec
        have good : ∃ acc s2, compF p gt ge vs items [] (wipeS vs s1) = .ok acc s2 := by
          cases q : compF p gt ge vs items [] (wipeS vs s1) with
          | ok acc s2 => exact ⟨acc, s2, rfl⟩
          | ex x s2 => rw [q] at a; exact a.elim
          | bad => rw [q] at a; exact a.elim
        obtain ⟨accf, sf, eg⟩ := good
        refine ⟨_, F5, α2, s2, .fz d, sr5, rd, ?_⟩
        rw [eg] at ec
        unfold compF at ec
        cases e1 : p (.fz d) s2 with
        | bad => simp only [e1] at ec; cases ec
        | ex x s3 => simp only [e1] at ec; cases ec
        | ok u s3 =>
          simp only [e1] at ec
          intro σ3 H3 F3 α3 sr6 hl6 sub6 pr6
          have ew : wipe σ3 vs = wipe σ vs := by
            rw [wipe_eq hl6 hts]
            have : EqOff vs σ (wipe σ vs) := ⟨wipe_length σ vs, fun j hj => wipe_get hj⟩
            exact wipe_eq this fun t ht => ht
          refine ⟨ew, _, F3, α3, s3, sr6, ?_⟩
          cases e2 : gt s3 with
          | bad => simp only [e2] at ec; cases ec
          | ex x s4 => simp only [e2] at ec; cases ec
          | ok b s4 =>
            intro H4 F4 α4 sr7 sub7 pr7
            have sub17 : Sub F1 F4 := ((sub4.trans sub5).trans sub6).trans sub7
            have pr17 : α1 <+: α4 := (pr4.trans pr6).trans pr7
            cases b with
            | false =>
              simp only [e2] at ec
              show ∃ F α s acc, _
              have z := sr7.wipe vs
              rw [ew] at z
              exact ⟨F4, α4, _, acc, z, sub17, pr17, by rw [eg]; exact ec⟩
            | true =>
              simp only [e2] at ec
              show tX Γ B W0 ge σ3 H4 _
              refine ⟨_, F4, α4, s4, sr7, ?_⟩
              cases e3 : ge s4 with
              | bad => simp only [e3] at ec; cases ec
              | ex x s5 => simp only [e3] at ec; cases ec
              | ok r s5 =>
                simp only [e3] at ec
                intro H5 F8 α5 v sr8 sub8 pr8 rr8
                cases e4 : settle r.keep s5 with
                | none => simp only [e4] at ec; cases ec
                | some q =>
                  obtain ⟨d', s6⟩ := q
                  simp only [e4] at ec
                  split at ec
                  · next hz =>
                    obtain ⟨F9, sub9, sr9, rr9⟩ := sr8.keepR rr8
                    obtain ⟨F10, sub10, sr10, rd10, _⟩ := settle_ok sr9 rr9 e4
                    obtain ⟨acv, q1, q2⟩ := (sr10.hid (D, .lst acc) List.mem_cons_self).own
                    refine ⟨acv, q1, by rw [q2.len]; exact hz, F10, α5, wipeS vs s6, acc ++ [d'], ?_, ((sub17.trans sub8).trans sub9).trans sub10, pr17.trans pr8, by rw [eg]; exact ec⟩
                    have z := (sr10.mutHid (o' := .lst (acv ++ [v])) (d' := .lst (acc ++ [d'])) ⟨_, upd_same, q2.app (.cons rd10 .nil)⟩).wipe vs
                    rw [ew] at z
                    exact z
                  · cases ec
      · have ei : items.drop i = [] := List.drop_eq_nil_of_le (by omega)
        rw [ei] at ec
        refine .inl ⟨w2 (by omega), fin ec.symm H' F2 α2 sr4 sub4 pr4⟩
    · rw [if_neg no] at a; exact a.elim
end
section
variable {X : Cx} {Γ : Ct} {B : Bs} {W : WX} {gi : IX} {gt : TX} {ge : EX} {p : GX} {ts : List Nat} {pos : Pos} {elt tg iter : Expr} {ifs : List Expr} {scope : Scope} {own : List (Str × Nat)}
theorem x_lc (hc : X.calm = true) (hN : X.N.Nodup) (hi : PI X tg iter (tI Γ B W gi)) (ok : BlkOk X.N X.env.scope scope own) (hts : ∀ t ∈ ts, t ∈ own.map (·.2))
    (hg : ∀ (s : Shared) (H : Hp) (C : Addr) (cl : List (Str × Addr)) (fp : List Addr), PG (X.blk s H scope (compEnvC scope cl C X.env) fp) tg (tG Γ B W0 ts p))
    (ht : ∀ (s : Shared) (H : Hp) (C : Addr) (cl : List (Str × Addr)) (fp : List Addr), PTs (X.blk s H scope (compEnvC scope cl C X.env) fp) ifs (tT Γ B W0 gt))
    (he : ∀ (s : Shared) (H : Hp) (C : Addr) (cl : List (Str × Addr)) (fp : List Addr), PE (X.blk s H scope (compEnvC scope cl C X.env) fp) elt (tX Γ B W0 ge)) (hs : ∀ x, foldedSetIterable iter X.env x = pure x) :
    PE X (.ListComp elt [⟨tg, iter, ifs, 0⟩] scope pos) (tX Γ B W (gComp (own.map (·.2)) gi p gt ge)) :=
  (pe_lc hc hN hi ok hg ht he hs).imp fun σ H Q h => lc_ok hts h
theorem s_setLc {i : Nat} {y : Str} {py spos : Pos} (hc : X.calm = true) (hN : X.N.Nodup) (hy : X.N[i]? = some y) (hyl : X.env.scope.names.lookup y = some .local)
    (hsw : swapsWith (.ListComp elt [⟨tg, iter, ifs, 0⟩] scope pos) (some (.Name y py)) spos.line X.env = pure true) (hi : PI X tg iter (tI Γ B W gi)) (ok : BlkOk X.N X.env.scope scope own) (hts : ∀ t ∈ ts, t ∈ own.map (·.2))
    (hg : ∀ (s : Shared) (H : Hp) (C : Addr) (cl : List (Str × Addr)) (fp : List Addr), PG (X.blk s H scope (compEnvC scope cl C X.env) fp) tg (tG Γ B W0 ts p))
    (ht : ∀ (s : Shared) (H : Hp) (C : Addr) (cl : List (Str × Addr)) (fp : List Addr), PTs (X.blk s H scope (compEnvC scope cl C X.env) fp) ifs (tT Γ B W0 gt))
    (he : ∀ (s : Shared) (H : Hp) (C : Addr) (cl : List (Str × Addr)) (fp : List Addr), PE (X.blk s H scope (compEnvC scope cl C X.env) fp) elt (tX Γ B W0 ge)) (hs : ∀ x, foldedSetIterable iter X.env x = pure x) :
    PS X (.Assign [.Name y py] (.ListComp elt [⟨tg, iter, ifs, 0⟩] scope pos) spos) (tS Γ B W (gSet i (gComp (own.map (·.2)) gi p gt ge))) :=
  (ps_setLc hc hN hy hyl hsw hi ok hg ht he hs).impI fun pins s D σ H I q => by
    have z := set_ok (e := elt) I (List.getElem?_eq_some_iff.mp hy).1 q
    exact lc_ok hts z
theorem ts_nil : PTs X [] (tT Γ B W tstYes) := ⟨fun pins s σ H Q I ⟨η, F, α, s1, sr, a⟩ => pts_nil.run pins s σ H Q I (a H F α sr (Sub.refl F) List.prefix_rfl)⟩
theorem ts_one {c : Expr} (h : PT X c (tT Γ B W gt)) : PTs X [c] (tT Γ B W gt) := pts_one h
/-- nothing is let out of a comprehension's block -/
theorem takes00 {X : Cx} : L2N.Takes X (fun _ _ _ _ => False) := fun u s' ⟨_, _, _, _, _, _, _, _, _, _, _, _, _, _, _, _, w⟩ => w.elim
end

/-! ### a call of a def of the text -/
def gCall (fn : Fn) (gs : List EX) : EX := gWith gs (callK fn)
section
variable {X : Cx} {Γ : Ct} {B : Bs} {W : WX} {k : Nat} {f : Addr} {fd : FuncData} {ps : List Str} {fn : Fn} {x : Str} {p pos : Pos} {e : Expr} {es : List Expr} {g : EX} {gs : List EX}
theorem tV_len {σ : L2.St} {H : Hp} {Q : List V → Hp → Prop} : ∀ {gs : List EX}, tV Γ B W (gArgs gs) σ H Q → tV Γ B W (gArgs gs) σ H fun vs H' => vs.length = gs.length ∧ Q vs H' := by
  intro gs h
  obtain ⟨η, F, α, s, sr, a⟩ := h
  refine ⟨η, F, α, s, sr, ?_⟩
  have key : ∀ (gs : List EX) (s : S) (rs : List RV) (s' : S), gArgs gs s = .ok rs s' → rs.length = gs.length := by
    intro gs
    induction gs with
    | nil => intro s rs s' e; cases e; rfl
    | cons g gs ih =>
      intro s rs s' e
      unfold gArgs at e
      cases e1 : g s with
      | bad => rw [e1] at e; cases e
      | ex x s1 => rw [e1] at e; cases e
      | ok r s1 =>
        rw [e1] at e
        simp only [R.bind] at e
        cases e2 : gArgs gs s1 with
        | bad => rw [e2] at e; cases e
        | ex x s2 => rw [e2] at e; cases e
        | ok rs2 s2 =>
          rw [e2] at e
          cases e
          simp [ih s1 rs2 _ e2]
  have rl : ∀ {vs : List V} {rs : List RV} {η ρ H F α s}, RRs Γ B η ρ H F α s vs rs → vs.length = rs.length := by
    intro vs rs η ρ H F α s h
    induction h with
    | nil => rfl
    | cons _ _ _ ih => simp [ih]
  cases e : gArgs gs s with
  | bad => rw [e] at a; exact a
  | ex x s1 => rw [e] at a; exact a
  | ok rs s1 =>
    rw [e] at a
    exact fun H1 F1 α1 vs h1 h2 h3 h4 => ⟨by rw [rl h4, key gs s rs s1 e], a H1 F1 α1 vs h1 h2 h3 h4⟩
theorem x_call (tk : L2N.Takes X W) (hl : (g :: gs).length = ps.length) (F : FnOk X.prog X.w X.K X.mg X.base (L2N.CX X.prog X.w) k f fd ps (spD Γ ps.length fn)) (hr : Room k X.A) (hg : Gl X x) (hm : X.mg x = some (.ref f)) (hk : PySem.W.keepIn X.K (.ref f) = true)
    (hb : Binds X.K fd ps []) (ha : PA X (e :: es) (tV Γ B W (gArgs (g :: gs)))) (hdb : (x == ("__debug__" : Str)) = false) (he : starEach (e :: es) X.env = (false, eval e X.env) :: starEach es X.env) (hpl : (backTo pos (starEach es X.env)).any (·.1) = false) :
    PE X (.Call (.Name x p) (e :: es) [] pos) (tX Γ B W (gCall fn (g :: gs))) :=
  (pe_callS F hr hg hm hk hb (fun σ => L2N.passAt tk σ) ha hdb he hpl).imp fun σ H Q h => (tV_len (tV_with h)).mono fun vs H1 ⟨h1, h2⟩ => call_sp h2 (h1.trans hl)
end
end Fw

set_option Elab.async false
set_option linter.all false
set_option maxRecDepth 100000
set_option maxHeartbeats 1000000
/-! Fw9: several targets, items stored, lists that grow, raise. -/
namespace Fw
open PySem PySem.Spec PyProof.Rows L2

/-! ### values held side by side -/
def hold (r : RV) (s : S) : Option (Sl × S) := match r with
  | .fz d => some (.fz d, s)
  | .ow d => some (.ow d, s)
  | .ln i => match settle (.ln i) s with
    | some (d, s1) => some (.fz d, s1)
    | none => none
def gHeld : List EX → S → R (List Sl)
  | [], s => .ok [] s
  | g :: gs, s => match g s with
    | .ok r s1 => match hold r s1 with
      | some (x, s2) => match gHeld gs s2 with
        | .ok xs s3 => .ok (x :: xs) s3
        | .ex x s3 => .ex x s3
        | .bad => .bad
      | none => .bad
    | .ex x s1 => .ex x s1
    | .bad => .bad
/-- the held things' own addresses, the first one first -/
def ents : List V → List Sl → List (Addr × D)
  | .ref a :: vs, .ow d :: xs => (a, d) :: ents vs xs
  | _ :: vs, _ :: xs => ents vs xs
  | _, _ => []
inductive HR (Γ : Ct) (F : Hp) (α : List Addr) : List V → List Sl → Prop
  | nil : HR Γ F α [] []
  | fz {v : V} {d : D} {vs : List V} {xs : List Sl} : Rep Γ.K F α v d → HR Γ F α vs xs → HR Γ F α (v :: vs) (.fz d :: xs)
  | ow {a : Addr} {d : D} {vs : List V} {xs : List Sl} : HR Γ F α vs xs → HR Γ F α (.ref a :: vs) (.ow d :: xs)
section
variable {Γ : Ct} {B : Bs} {W : WX} {H H' F F' : Hp} {α α' : List Addr} {s s' : S} {σ ρ : L2.St} {η η' : List (Addr × D)} {v : V} {vs : List V} {xs : List Sl}
theorem HR.up (h : HR Γ F α vs xs) (e : Sub F F') (p : α <+: α') : HR Γ F' α' vs xs := by
  induction h with
  | nil => exact .nil
  | fz r _ ih => exact .fz (r.up e p) ih
  | ow _ ih => exact .ow ih
theorem HR.len (h : HR Γ F α vs xs) : vs.length = xs.length := by
  induction h with
  | nil => rfl
  | fz r _ ih => simp [ih]
  | ow _ ih => simp [ih]
theorem ents_fz {d : D} : ents (v :: vs) (.fz d :: xs) = ents vs xs := by cases v <;> rfl
theorem SR.perm (h : SR Γ B η ρ H F α s) (p : η.Perm η') : SR Γ B η' ρ H F α s :=
  ⟨h.g, h.len, h.sl, h.dis, fun q hq => h.hid q (p.mem_iff.mpr hq), (p.map _).nodup_iff.mp h.hnd, fun i a o z => h.hds i a o ((p.map _).mem_iff.mpr z)⟩
theorem SR.weak {e : List (Addr × D)} (h : SR Γ B (e ++ η) ρ H F α s) : SR Γ B η ρ H F α s :=
  ⟨h.g, h.len, h.sl, h.dis, fun q hq => h.hid q (List.mem_append_right _ hq), by
    have := h.hnd
    rw [List.map_append] at this
    exact (List.nodup_append.mp this).2.1, fun i a o z => h.hds i a o (by rw [List.map_append]; exact List.mem_append_right _ z)⟩
theorem hold_ok {r : RV} {x : Sl} (sr : SR Γ B η ρ H F α s) (rr : RR Γ B η ρ H F α s v r) (e : hold r s = some (x, s')) : ∃ F', Sub F F' ∧ SR Γ B (ents [v] [x] ++ η) ρ H F' α s' ∧ HR Γ F' α [v] [x] := by
  cases r with
  | fz d => cases e; exact ⟨F, Sub.refl F, by rw [ents_fz]; exact sr, .fz rr .nil⟩
  | ow d =>
    cases e
    obtain ⟨a, rfl, sr'⟩ := sr.hold rr
    exact ⟨F, Sub.refl F, sr', .ow .nil⟩
  | ln i =>
    unfold hold at e
    cases q : settle (.ln i) s with
    | none => simp only [q] at e; cases e
    | some p =>
      obtain ⟨d, s1⟩ := p
      simp only [q] at e; cases e
      obtain ⟨F', sub, sr', r', _⟩ := settle_ok sr rr q
      exact ⟨F', sub, by rw [ents_fz]; exact sr', .fz r' .nil⟩
theorem ents_cons {x : Sl} : ents (v :: vs) (x :: xs) = ents [v] [x] ++ ents vs xs := by
  cases v <;> cases x <;> rfl
def AftH (Γ : Ct) (B : Bs) (W : WX) (η : List (Addr × D)) (σ : L2.St) (F : Hp) (α : List Addr) (Q : List V → Hp → Prop) : R (List Sl) → Prop
  | .bad => False
  | .ok xs s' => ∀ H' F' α' vs, SR Γ B (ents vs xs ++ η) σ H' F' α' s' → Sub F F' → α <+: α' → HR Γ F' α' vs xs → Q vs H'
  | .ex x s' => ∀ H' F' α' cls d, SR Γ B η σ H' F' α' s' → XR Γ B H' F' α' x cls d → W cls d σ H'
def tH (Γ : Ct) (B : Bs) (W : WX) (g : S → R (List Sl)) : TA := fun σ H Q => ∃ η F α s, SR Γ B η σ H F α s ∧ AftH Γ B W η σ F α Q (g s)
theorem tH_cons {g : EX} {gs : List EX} {Q : List V → Hp → Prop} (h : tH Γ B W (gHeld (g :: gs)) σ H Q) : tX Γ B W g σ H fun x H1 => tH Γ B W (gHeld gs) σ H1 fun xs H2 => Q (x :: xs) H2 := by
  obtain ⟨η, F, α, s, sr, a⟩ := h
  refine ⟨η, F, α, s, sr, ?_⟩
  unfold gHeld at a
  cases e : g s with
  | bad => simp only [e] at a; exact a
  | ex x s1 => simp only [e] at a; exact a
  | ok r s1 =>
    simp only [e] at a
    intro H1 F1 α1 v sr1 sub pr rr
    cases e2 : hold r s1 with
    | none => simp only [e2] at a; exact a.elim
    | some q =>
      obtain ⟨x, s2⟩ := q
      simp only [e2] at a
      obtain ⟨F2, sub2, sr2, hr2⟩ := hold_ok sr1 rr e2
      refine ⟨_, F2, α1, s2, sr2, ?_⟩
      cases e3 : gHeld gs s2 with
      | bad => simp only [e3] at a; exact a
      | ex x s3 => simp only [e3] at a; exact fun H' F' α' cls d sr' => a H' F' α' cls d sr'.weak
      | ok xs s3 =>
        simp only [e3] at a
        intro H3 F3 α3 vs sr3 sub3 pr3 hr3
        refine a H3 F3 α3 (v :: vs) ?_ ((sub.trans sub2).trans sub3) (pr.trans pr3) ?_
        · rw [ents_cons]
          refine sr3.perm ?_
          rw [← List.append_assoc]
          exact List.perm_append_comm.append_right η
        · have h4 := hr2.up sub3 pr3
          cases h4 with
          | fz r _ => exact .fz r hr3
          | ow _ => exact .ow hr3
variable {X : Cx} {e : Expr} {es : List Expr} {g : EX} {gs : List EX}
theorem h_nil : PA X [] (tH Γ B W (gHeld [])) := pa_nil.imp fun σ H Q ⟨η, F, α, s, sr, a⟩ => a H F α [] sr (Sub.refl F) List.prefix_rfl .nil
theorem h_cons (hs : starEach (e :: es) X.env = (false, eval e X.env) :: starEach es X.env) (ha : PE X e (tX Γ B W g)) (hr : PA X es (tH Γ B W (gHeld gs))) : PA X (e :: es) (tH Γ B W (gHeld (g :: gs))) :=
  (pa_cons ha hr hs).imp fun σ H Q h => tH_cons h
/-- the first one of what is held is in the hand -/
theorem HR.take {x : Sl} (sr : SR Γ B (ents (v :: vs) (x :: xs) ++ η) ρ H F α s) (h : HR Γ F α (v :: vs) (x :: xs)) : ∃ r, (match x with | .no => none | .fz d => some (RV.fz d) | .ow d => some (RV.ow d)) = some r ∧ SR Γ B (ents vs xs ++ η) ρ H F α s ∧ RR Γ B (ents vs xs ++ η) ρ H F α s v r ∧ HR Γ F α vs xs := by
  cases h with
  | fz r t => exact ⟨_, rfl, by rw [ents_fz] at sr; exact sr, r, t⟩
  | ow t => obtain ⟨h1, h2⟩ := SR.unhold sr; exact ⟨_, rfl, h1, h2, t⟩
end

section
variable {Γ : Ct} {F : Hp} {α : List Addr} {v : V} {vs : List V} {x : Sl} {xs : List Sl}
theorem HR.tail (h : HR Γ F α (v :: vs) (x :: xs)) : HR Γ F α vs xs := by cases h <;> assumption
theorem HR.one (h : HR Γ F α (v :: vs) (x :: xs)) : HR Γ F α [v] [x] := by
  cases h with
  | fz r _ => exact .fz r .nil
  | ow _ => exact .ow .nil
theorem len2 {β : Type} : ∀ {l : List β}, l.length = 2 → ∃ a b, l = [a, b]
  | [], h => by cases h
  | [_], h => by cases h
  | [a, b], _ => ⟨a, b, rfl⟩
  | _ :: _ :: _ :: _, h => by simp at h
theorem len3 {β : Type} : ∀ {l : List β}, l.length = 3 → ∃ a b c, l = [a, b, c]
  | [], h => by cases h
  | [_], h => by cases h
  | [_, _], h => by cases h
  | [a, b, c], _ => ⟨a, b, c, rfl⟩
  | _ :: _ :: _ :: _ :: _, h => by simp at h
theorem two_of {vs : List V} {xs : List Sl} (h : xs.length = 2) (h2 : vs.length = xs.length) : ∃ v1 v2 x1 x2, vs = [v1, v2] ∧ xs = [x1, x2] := by
  rw [h] at h2
  obtain ⟨a, b, e1⟩ := len2 h
  obtain ⟨c, d, e2⟩ := len2 h2
  exact ⟨c, d, a, b, e2, e1⟩
theorem three_of {vs : List V} {xs : List Sl} (h : xs.length = 3) (h2 : vs.length = xs.length) : ∃ v1 v2 v3 x1 x2 x3, vs = [v1, v2, v3] ∧ xs = [x1, x2, x3] := by
  rw [h] at h2
  obtain ⟨a, b, x, e1⟩ := len3 h
  obtain ⟨c, d, y, e2⟩ := len3 h2
  exact ⟨c, d, y, a, b, x, e2, e1⟩
theorem held_len : ∀ {gs : List EX} {s s' : S} {xs : List Sl}, gHeld gs s = .ok xs s' → xs.length = gs.length
  | [], _, _, _, e => by cases e; rfl
  | g :: gs, s, s', xs, e => by
    unfold gHeld at e
    cases e1 : g s with
    | bad => simp only [e1] at e; cases e
    | ex x s1 => simp only [e1] at e; cases e
    | ok r s1 =>
      simp only [e1] at e
      cases e2 : hold r s1 with
      | none => simp only [e2] at e; cases e
      | some q =>
        obtain ⟨x, s2⟩ := q
        simp only [e2] at e
        cases e3 : gHeld gs s2 with
        | bad => simp only [e3] at e; cases e
        | ex x s1 => simp only [e3] at e; cases e
        | ok ys s3 => simp only [e3] at e; cases e; simp [held_len e3]
end

/-! ### a, b = x, y; a, b, c = x, y, z: plain local names, stored from the right -/
def setAll : List Nat → List Sl → S → S
  | i :: is, x :: xs, s => let s' := setAll is xs s; { s' with sl := s'.sl.set i x }
  | _, _, s => s
def gPar (is : List Nat) (gs : List EX) : SX := fun s => (gHeld gs s).toS fun xs s1 => .nx (setAll is xs s1)
def slRV : Sl → RV
  | .no => .fz .non
  | .fz d => .fz d
  | .ow d => .ow d
def tgtAll : List GX → List Sl → S → R Unit
  | [], [], s => .ok () s
  | p :: ps, x :: xs, s => match p (slRV x) s with
    | .ok _ s1 => tgtAll ps xs s1
    | r => r
  | _, _, _ => .bad
section
variable {X : Cx} {Γ : Ct} {B : Bs} {W : WX} {pos : Pos} {D : Ends} {σ : L2.St} {H : Hp} {g1 g2 g3 : EX}
theorem SR.setX {η : List (Addr × Fw.D)} {F : Hp} {α : List Addr} {s : S} {v : V} {vs : List V} {x : Sl} {xs : List Sl} {i : Nat} (sr : SR Γ B (ents (v :: vs) (x :: xs) ++ η) σ H F α s) (h : HR Γ F α (v :: vs) (x :: xs)) (hi : i < σ.length) :
    SR Γ B (ents vs xs ++ η) (σ.set i (some v)) H F α { s with sl := s.sl.set i x } ∧ HR Γ F α vs xs := by
  obtain ⟨r, er, sr', rr, t⟩ := HR.take sr h
  cases x with
  | no => cases er
  | fz d => cases er; exact ⟨sr'.setF rr hi, t⟩
  | ow d => cases er; exact ⟨sr'.setO rr hi, t⟩
theorem rot {η : List (Addr × Fw.D)} {F : Hp} {α : List Addr} {s : S} {v : V} {vs : List V} {x : Sl} {xs : List Sl} (sr : SR Γ B (ents (v :: vs) (x :: xs) ++ η) σ H F α s) : SR Γ B (ents vs xs ++ (ents [v] [x] ++ η)) σ H F α s := by
  rw [ents_cons] at sr
  refine sr.perm ?_
  rw [← List.append_assoc]
  exact List.perm_append_comm.append_right η
theorem s_par {i j : Nat} {x y : Str} {a b : Expr} {px py pt : Pos} {kt k2 pt2} (hc : X.calm = true) (hN : X.N.Nodup) (hi : X.N[i]? = some x) (hj : X.N[j]? = some y) (hij : i ≠ j)
    (hx : X.env.scope.names.lookup x = some .local) (hy : X.env.scope.names.lookup y = some .local) (ha : PA X [a, b] (tH Γ B W (gHeld [g1, g2])))
    (hw : swappedStores [.Tuple [.Name x px, .Name y py] kt pt] (.Tuple [a, b] k2 pt2) X.env = pure (some [x, y]))
    (hs : swapsWithSole [.Tuple [.Name x px, .Name y py] kt pt] (.Tuple [a, b] k2 pt2) pos.line X.env = pure false) :
    PS X (.Assign [.Tuple [.Name x px, .Name y py] kt pt] (.Tuple [a, b] k2 pt2) pos) (tS Γ B W (gPar [i, j] [g1, g2])) :=
  (ps_par hc hN hi hj hij hx hy ha hw hs).impI fun pins sh D σ H I h => by
    obtain ⟨η, F, α, s, sr, q⟩ := h
    have hi' : i < σ.length := by rw [I.len]; exact (List.getElem?_eq_some_iff.mp hi).1
    have hj' : j < σ.length := by rw [I.len]; exact (List.getElem?_eq_some_iff.mp hj).1
    refine ⟨η, F, α, s, sr, ?_⟩
    unfold gPar at q
    cases e : gHeld [g1, g2] s with
    | bad => rw [e] at q; exact q
    | ex x s1 => rw [e] at q; exact fun H' F' α' cls d sr' => q σ H' F' α' cls d sr' rfl
    | ok xs s1 =>
      rw [e] at q
      intro H' F' α' vs sr' sub pr hr
      obtain ⟨v1, v2, x1, x2, rfl, rfl⟩ : ∃ v1 v2 x1 x2, vs = [v1, v2] ∧ xs = [x1, x2] := by
        exact two_of (held_len e) hr.len
      refine ⟨v1, v2, rfl, ?_⟩
      have hr' := hr
      have sr2 := rot sr'
      have h2 : HR Γ F' α' [v2] [x2] := hr.tail
      obtain ⟨sr3, _⟩ := SR.setX sr2 h2 hj'
      obtain ⟨sr4, _⟩ := SR.setX (vs := []) (xs := []) (v := v1) (x := x1) sr3 (hr.one) (by simpa using hi')
      have q := q _ H' F' α' sr4 (by simp) sub pr
      rw [List.set_comm _ _ hij.symm] at q
      exact q
theorem s_par3 {i j l : Nat} {x y z : Str} {a b c : Expr} {px py pz pt : Pos} {kt k2 pt2} (hc : X.calm = true) (hN : X.N.Nodup) (hi : X.N[i]? = some x) (hj : X.N[j]? = some y) (hl : X.N[l]? = some z) (hij : i ≠ j) (hil : i ≠ l) (hjl : j ≠ l)
    (hx : X.env.scope.names.lookup x = some .local) (hy : X.env.scope.names.lookup y = some .local) (hz : X.env.scope.names.lookup z = some .local) (ha : PA X [a, b, c] (tH Γ B W (gHeld [g1, g2, g3])))
    (hw : swappedStores [.Tuple [.Name x px, .Name y py, .Name z pz] kt pt] (.Tuple [a, b, c] k2 pt2) X.env = pure (some [x, y, z]))
    (hs : swapsWithSole [.Tuple [.Name x px, .Name y py, .Name z pz] kt pt] (.Tuple [a, b, c] k2 pt2) pos.line X.env = pure false) :
    PS X (.Assign [.Tuple [.Name x px, .Name y py, .Name z pz] kt pt] (.Tuple [a, b, c] k2 pt2) pos) (tS Γ B W (gPar [i, j, l] [g1, g2, g3])) :=
  (ps_par3 hc hN hi hj hl hij hil hjl hx hy hz ha hw hs).impI fun pins sh D σ H I h => by
    obtain ⟨η, F, α, s, sr, q⟩ := h
    have hi' : i < σ.length := by rw [I.len]; exact (List.getElem?_eq_some_iff.mp hi).1
    have hj' : j < σ.length := by rw [I.len]; exact (List.getElem?_eq_some_iff.mp hj).1
    have hl' : l < σ.length := by rw [I.len]; exact (List.getElem?_eq_some_iff.mp hl).1
    refine ⟨η, F, α, s, sr, ?_⟩
    unfold gPar at q
    cases e : gHeld [g1, g2, g3] s with
    | bad => rw [e] at q; exact q
    | ex x s1 => rw [e] at q; exact fun H' F' α' cls d sr' => q σ H' F' α' cls d sr' rfl
    | ok xs s1 =>
      rw [e] at q
      intro H' F' α' vs sr' sub pr hr
      obtain ⟨v1, v2, v3, x1, x2, x3, rfl, rfl⟩ : ∃ v1 v2 v3 x1 x2 x3, vs = [v1, v2, v3] ∧ xs = [x1, x2, x3] := by
        exact three_of (held_len e) hr.len
      refine ⟨v1, v2, v3, rfl, ?_⟩
      have sr2 := rot (rot sr')
      have h2 : HR Γ F' α' [v2, v3] [x2, x3] := hr.tail
      obtain ⟨sr3, _⟩ := SR.setX sr2 h2.tail hl'
      obtain ⟨sr4, _⟩ := SR.setX (vs := []) (xs := []) (v := v2) (x := x2) sr3 h2.one (by simpa using hj')
      obtain ⟨sr5, _⟩ := SR.setX (vs := []) (xs := []) (v := v1) (x := x1) sr4 hr.one (by simpa using hi')
      have q := q _ H' F' α' sr5 (by simp) sub pr
      have e1 : ((σ.set l (some v3)).set j (some v2)).set i (some v1) = ((σ.set i (some v1)).set j (some v2)).set l (some v3) := by
        rw [List.set_comm (some v2) (some v1) hij.symm, List.set_comm (some v3) (some v1) hil.symm, List.set_comm (some v3) (some v2) hjl.symm]
      rw [e1] at q
      exact q

/-! ### targets of parts -/
def tGs (Γ : Ct) (B : Bs) (W : WX) (ts : List Nat) (ps : List GX) : TGs := fun vs σ H Q => ∃ η F α s xs, SR Γ B (ents vs xs ++ η) σ H F α s ∧ HR Γ F α vs xs ∧ AftG Γ B W η σ F α ts Q (tgtAll ps xs s)
theorem EqOff.trans {ts ts' : List Nat} {σ σ' σ2 : L2.St} (a : EqOff ts σ σ') (b : EqOff ts' σ' σ2) : EqOff (ts ++ ts') σ σ2 :=
  ⟨b.1.trans a.1, fun j hj => (b.2 j fun z => hj (List.mem_append_right _ z)).trans (a.2 j fun z => hj (List.mem_append_left _ z))⟩
theorem gs_nil : PGs X [] (tGs Γ B W [] []) := by
  refine ⟨fun pins s σ H vs us Q I r ⟨η, F, α, s1, xs, sr, hr, a⟩ => pgs_nil.run pins s σ H vs us Q I r ?_⟩
  cases xs with
  | cons x xs => exact a.elim
  | nil =>
    cases hr
    exact ⟨rfl, a σ H F α sr ⟨rfl, fun _ _ => rfl⟩ (Sub.refl F) List.prefix_rfl⟩
theorem gs_cons {e : Expr} {es : List Expr} {ts ts' : List Nat} {p : GX} {ps : List GX} (h1 : PG X e (tG Γ B W ts p)) (h2 : PGs X es (tGs Γ B W ts' ps)) (hs : (assignEach (e :: es) X.env).map (·.2) = assign e X.env :: (assignEach es X.env).map (·.2)) :
    PGs X (e :: es) (tGs Γ B W (ts ++ ts') (p :: ps)) := by
  refine ⟨fun pins s σ H vs us Q I r ⟨η, F, α, s1, xs, sr, hr, a⟩ => (pgs_cons h1 h2 hs).run pins s σ H vs us Q I r ?_⟩
  cases xs with
  | nil => exact a.elim
  | cons x xs =>
    obtain ⟨v, vr, rfl⟩ : ∃ v vr, vs = v :: vr := by
      cases vs with
      | nil => cases hr
      | cons v vr => exact ⟨v, vr, rfl⟩
    refine ⟨v, vr, rfl, ?_⟩
    obtain ⟨r1, er, sr', rr, t⟩ := HR.take sr hr
    have e1 : slRV x = r1 := by cases x <;> cases er <;> rfl
    refine ⟨ents vr xs ++ η, F, α, s1, r1, sr', rr, ?_⟩
    unfold tgtAll at a
    rw [e1] at a
    cases e2 : p r1 s1 with
    | bad => simp only [e2] at a; exact a
    | ex x s2 => simp only [e2] at a; exact a
    | ok u s2 =>
      simp only [e2] at a
      intro σ2 H2 F2 α2 sr2 eq2 sub2 pr2
      refine ⟨η, F2, α2, s2, xs, sr2, t.up sub2 pr2, ?_⟩
      cases e3 : tgtAll ps xs s2 with
      | bad => rw [e3] at a; exact a
      | ex x s3 =>
        rw [e3] at a; exact a
      | ok u s3 =>
        rw [e3] at a
        exact fun σ3 H3 F3 α3 sr3 eq3 sub3 pr3 => a σ3 H3 F3 α3 sr3 (eq2.trans eq3) (sub2.trans sub3) (pr2.trans pr3)
/-- (a, b, ..) = a tuple -/
def pTup (ps : List GX) : GX := fun r s => match settle r.keep s with
  | some (.tup ds, s1) => tgtAll ps (ds.map .fz) s1
  | _ => .bad
theorem ents_map {vs : List V} {ds : List Fw.D} : ents vs (ds.map .fz) = [] := by
  induction vs generalizing ds with
  | nil => cases ds <;> rfl
  | cons v vs ih =>
    cases ds with
    | nil => cases v <;> rfl
    | cons d ds => rw [List.map_cons, ents_fz]; exact ih
theorem hr_map {F : Hp} {α : List Addr} : ∀ {vs : List V} {ds : List Fw.D}, Reps Γ.K F α vs ds → HR Γ F α vs (ds.map .fz)
  | _, _, .nil => .nil
  | _, _, .cons r t => .fz r (hr_map t)
theorem tgt_len : ∀ {ps : List GX} {xs : List Sl} {s s' : S} {u : Unit}, tgtAll ps xs s = .ok u s' → ps.length = xs.length
  | [], [], _, _, _, _ => rfl
  | [], _ :: _, _, _, _, e => by cases e
  | _ :: _, [], _, _, _, e => by cases e
  | p :: ps, x :: xs, s, s', u, e => by
    unfold tgtAll at e
    cases e1 : p (slRV x) s with
    | bad => simp only [e1] at e; cases e
    | ex y s1 => simp only [e1] at e; cases e
    | ok u s1 => simp only [e1] at e; simp [tgt_len e]
theorem g_tup {es : List Expr} {k : Nat} {ts : List Nat} {ps : List GX} {n : Nat} (hK : Γ.K = X.K) (hc : X.calm = true) (h : PGs X es (tGs Γ B W ts ps)) (hpn : ps.length = n) (hn : (assignEach es X.env).length = n) (hst : (assignEach es X.env).findIdx? (·.1) = none) :
    PG X (.Tuple es k pos) (tG Γ B W ts (pTup ps)) := by
  refine ⟨fun pins s σ H v u Q I rv ⟨η, F, α, s1, r, sr, rr, a⟩ => (pg_tup (pos := pos) (k := k) hc h hn hst).run pins s σ H v u Q I rv ?_⟩
  unfold pTup at a
  obtain ⟨F1, sub1, sr1, rr1⟩ := sr.keepR rr
  cases e : settle r.keep s1 with
  | none => simp only [e] at a; exact a.elim
  | some q =>
    obtain ⟨d, s2⟩ := q
    simp only [e] at a
    obtain ⟨F2, sub2, sr2, r2, _⟩ := settle_ok sr1 rr1 e
    cases d with
    | tup ds =>
      have a : AftG Γ B W η σ F α ts Q (tgtAll ps (ds.map .fz) s2) := a
      cases r2 with
      | @tup b vs _ hq r3 =>
        have hl : ds.length = n := by
          cases e2 : tgtAll ps (ds.map .fz) s2 with
          | bad => rw [e2] at a; exact a.elim
          | ex x s3 => rw [e2] at a; exact a.elim
          | ok u s3 => rw [← hpn, tgt_len e2, List.length_map]
        refine ⟨b, vs, rfl, hK ▸ sr2.g.sub.t hq, by rw [r3.len]; exact hl, η, F2, α, s2, ds.map .fz, by rw [ents_map]; exact sr2, hr_map r3, a.up (sub1.trans sub2) List.prefix_rfl⟩
    | _ => exact a.elim
/-- target = value -/
def gAsg (p : GX) (g : EX) : SX := fun s => (g s).toS fun r s1 => match p r s1 with
  | .ok _ s2 => .nx s2
  | _ => .bad
theorem s_asg {tg e : Expr} {g : EX} {p : GX} {ts : List Nat} (he : PE X e (tX Γ B W g)) (hg : PG X tg (tG Γ B W ts p)) (hs : swapsWithSole [tg] e pos.line X.env = pure false) (hw : swappedStores [tg] e X.env = pure none)
    (h1 : (assignEach [tg] X.env).map (·.2) = [assign tg X.env]) : PS X (.Assign [tg] e pos) (tS Γ B W (gAsg p g)) :=
  (ps_asg he hg hs hw h1).imp fun D σ H ⟨η, F, α, s, sr, a⟩ => by
    refine ⟨η, F, α, s, sr, ?_⟩
    unfold gAsg at a
    cases e : g s with
    | bad => rw [e] at a; exact a
    | ex x s1 => rw [e] at a; exact fun H' F' α' cls d sr' => a σ H' F' α' cls d sr' rfl
    | ok r s1 =>
      rw [e] at a
      intro H' F' α' v sr' sub pr rr
      refine ⟨η, F', α', s1, r, sr', rr, ?_⟩
      simp only [R.toS] at a
      cases e2 : p r s1 with
      | bad => simp only [e2] at a; exact a
      | ex x s2 => simp only [e2] at a; exact a
      | ok u s2 => simp only [e2] at a; exact fun σ2 H2 F2 α2 sr2 eq2 sub2 pr2 => a σ2 H2 F2 α2 sr2 eq2.1 (sub.trans sub2) (pr.trans pr2)
/-- a, b, .. = x, y, ..: the tuple is laid, then taken apart -/
def gParG (ps : List GX) (gs : List EX) : SX := fun s => (gHeld gs s).toS fun xs s1 => match tgtAll ps xs s1 with
  | .ok _ s2 => .nx s2
  | _ => .bad
theorem s_parG {es vals : List Expr} {k k2 : Nat} {p1 p2 : Pos} {gs : List EX} {ps : List GX} {ts : List Nat} {n : Nat} (hK : Γ.K = X.K) (hc : X.calm = true) (ha : PA X vals (tH Γ B W (gHeld gs))) (h : PGs X es (tGs Γ B W ts ps)) (hpn : ps.length = n) (hz : n ≤ sizeLine)
    (hn : (assignEach es X.env).length = n) (hst : (assignEach es X.env).findIdx? (·.1) = none) (hs : swapsWithSole [.Tuple es k p1] (.Tuple vals k2 p2) pos.line X.env = pure false) (hw : swappedStores [.Tuple es k p1] (.Tuple vals k2 p2) X.env = pure none)
    (h1 : (assignEach [.Tuple es k p1] X.env).map (·.2) = [assign (.Tuple es k p1) X.env]) : PS X (.Assign [.Tuple es k p1] (.Tuple vals k2 p2) pos) (tS Γ B W (gParG ps gs)) :=
  (ps_asg (pe_tup ha) (pg_tup (pos := p1) (k := k) hc h hn hst) hs hw h1).imp fun D σ H ⟨η, F, α, s, sr, a⟩ => by
    refine ⟨η, F, α, s, sr, ?_⟩
    unfold gParG at a
    cases e : gHeld gs s with
    | bad => rw [e] at a; exact a
    | ex x s1 => rw [e] at a; exact fun H' F' α' cls d sr' => a σ H' F' α' cls d sr' rfl
    | ok xs s1 =>
      rw [e] at a
      intro H' F' α' vs sr' sub pr hr
      simp only [R.toS] at a
      cases e2 : tgtAll ps xs s1 with
      | bad => simp only [e2] at a; exact a.elim
      | ex x s2 => simp only [e2] at a; exact a.elim
      | ok u s2 =>
        simp only [e2] at a
        have hl : vs.length = n := by rw [hr.len, ← tgt_len e2, hpn]
        refine ⟨by rw [hl]; exact hz, fun p hp => ⟨p, vs, rfl, hK ▸ .of upd_same, hl, η, F', α', s1, xs, sr'.newO hp, hr, ?_⟩⟩
        rw [e2]
        exact fun σ2 H2 F2 α2 sr2 eq2 sub2 pr2 => a σ2 H2 F2 α2 sr2 eq2.1 (sub.trans sub2) (pr.trans pr2)

/-! ### o[i] = v, o.append(v) -/
def updAt (d : Fw.D) (i : Fw.D) (x : Fw.D) : Option Fw.D := match d, i with
  | .lst ds, .int k => match ixN ds.length k with
    | some j => some (.lst (ds.set j x))
    | none => none
  | _, _ => none
/-- a mutable thing, by a slot or by its number, is changed -/
def change (f : Fw.D → Option Fw.D) (r : RV) (s : S) : Option S := match r with
  | .ln i => match s.sl[i]? with
    | some (.ow d) => match f d with
      | some d' => some { s with sl := s.sl.set i (.ow d') }
      | none => none
    | _ => none
  | .fz (.obj n) => match s.st[n]? with
    | some (.lst ds) => match f (.lst ds) with
      | some (.lst ds') => some { s with st := s.st.set n (.lst ds') }
      | _ => none
    | _ => none
  | _ => none
theorem change_ok {η : List (Addr × Fw.D)} {ρ : L2.St} {F : Hp} {α : List Addr} {s s' : S} {f : Fw.D → Option Fw.D} {r : RV} {v : V} {mk : List V → List V} (sr : SR Γ B η ρ H F α s) (rr : RR Γ B η ρ H F α s v r) (e : change f r s = some s')
    (hf : ∀ ds d', f (.lst ds) = some d' → ∃ ds', d' = .lst ds' ∧ ∀ vs, Reps Γ.K F α vs ds → Reps Γ.K F α (mk vs) ds') (hn : ∀ d d', f d = some d' → ∃ ds, d = .lst ds) :
    ∃ a vs ds ds', v = .ref a ∧ H a = some (.lst vs) ∧ Reps Γ.K F α vs ds ∧ f (.lst ds) = some (.lst ds') ∧ SR Γ B η ρ (upd H a (.lst (mk vs))) F α s' := by
  cases r with
  | ow d => cases e
  | ln i =>
    unfold change at e
    cases q : s.sl[i]? with
    | none => simp only [q] at e; cases e
    | some x =>
      cases x with
      | no => simp only [q] at e; cases e
      | fz d => simp only [q] at e; cases e
      | ow d =>
        simp only [q] at e
        cases q2 : f d with
        | none => simp only [q2] at e; cases e
        | some d' =>
          simp only [q2, Option.some.injEq] at e
          subst e
          obtain ⟨ds, rfl⟩ := hn d d' q2
          obtain ⟨ds', rfl, hm⟩ := hf ds d' q2
          obtain ⟨ov, e1, a, e2, n⟩ := sr.at q
          have hv : ρ[i]? = some (some v) := rr
          rw [hv] at e1; cases e1; cases e2
          obtain ⟨vs, h1, h2⟩ := n.own
          exact ⟨a, vs, ds, ds', rfl, h1, h2, q2, sr.mutSlot q hv ⟨mk vs, upd_same, hm vs h2⟩⟩
  | fz d =>
    cases d with
    | obj n =>
      unfold change at e
      cases q : s.st[n]? with
      | none => simp only [q] at e; cases e
      | some c =>
        cases c with
        | lst ds =>
          simp only [q] at e
          cases q2 : f (.lst ds) with
          | none => simp only [q2] at e; cases e
          | some d' =>
            obtain ⟨ds', rfl, hm⟩ := hf ds d' q2
            simp only [q2, Option.some.injEq] at e
            subst e
            cases rr with
            | obj ha =>
              obtain ⟨vs, h1, h2⟩ := sr.g.cell n _ _ ha q
              exact ⟨_, vs, ds, ds', rfl, h1, h2, q2, sr.mutCell q ha ⟨mk vs, upd_same, hm vs h2⟩⟩
        | _ => simp only [q] at e; cases e
    | _ => cases e
end
end Fw

set_option Elab.async false
set_option linter.all false
set_option maxRecDepth 100000
set_option maxHeartbeats 1000000
/-! Fw10: built-in calls, methods, chains, f-strings. -/
namespace Fw
open PySem PySem.Spec PyProof.Rows L2

/-! ### built-ins over data -/
def lenD : List D → Out
  | [.lst xs] => .val (.int (xs.length : Int))
  | [.tup xs] => .val (.int (xs.length : Int))
  | [.scr ns] => .val (.int (ns.length : Int))
  | [.str x] => if sz x.length then .val (.int (x.length : Int)) else .no
  | _ => .no
def absD : List D → Out
  | [.int i] => .val (.int (if i < 0 then -i else i))
  | _ => .no
def maxD : List D → Out
  | [.int i, .int j] => .val (.int (if j > i then j else i))
  | _ => .no
def minD : List D → Out
  | [.int i, .int j] => .val (.int (if j < i then j else i))
  | _ => .no
def strLe (n : Nat) (x : Str) : Bool := decide (x.length ≤ n)
def intD : List D → Out
  | [.int i] => .val (.int i)
  | [.bl k] => .val (.int (if k then 1 else 0))
  | [.str x] => match PySem.intText? x with
    | some n => if strLe 640 x then .val (.int n) else .no
    | none => .no
  | _ => .no
def strD : List D → Out
  | [.int i] => if i.natAbs.log2 < 1920 then .val (.str (toString i)) else .no
  | [.str x] => .val (.str x)
  | _ => .no
def tyD : D → String
  | .non => "NoneType"
  | .bl _ => "bool"
  | .int _ => "int"
  | .str _ => "str"
  | .tup _ => "tuple"
  | .lst _ => "list"
  | .scr _ => "list"
  | .dic _ => "dict"
  | _ => ""
def tyNs : List String := ["NoneType", "bool", "int", "str", "tuple", "list", "dict"]
def isTy (t n : String) : Bool := (t == n) || (t == "bool" && n == "int")
def isiD : List D → Out
  | [d, .ty n] => if tyNs.contains (tyD d) && tyNs.contains n && n != "NoneType" then .val (.bl (isTy (tyD d) n)) else .no
  | _ => .no
def listD : List D → Out
  | [.lst xs] => .nl xs
  | [.tup xs] => .nl xs
  | [.scr ns] => .nl (ns.map .int)
  | _ => .no
def tupleD : List D → Out
  | [.lst xs] => .nt xs
  | [.tup xs] => .val (.tup xs)
  | [.scr ns] => .nt (ns.map .int)
  | _ => .no
def blsD : List D → Option (List Bool)
  | [] => some []
  | .bl b :: ds => match blsD ds with
    | some bs => some (b :: bs)
    | none => none
  | _ => none
def allD : List D → Out
  | [.lst xs] => match blsD xs with
    | some bs => .val (.bl (bs.all id))
    | none => .no
  | _ => .no
def anyD : List D → Out
  | [.lst xs] => match blsD xs with
    | some bs => .val (.bl (bs.any id))
    | none => .no
  | _ => .no
section
variable {X : Cx} {Γ : Ct} {B : Bs} {H F : Hp} {α : List Addr} {ds xs : List D} {d d2 : D} {vs : List V} {v : V}
theorem VRs.one (h : VRs Γ H F α vs [d]) : ∃ v, vs = [v] ∧ VR Γ H F α v d := by
  cases h with
  | cons h t => cases t; exact ⟨_, rfl, h⟩
theorem VRs.two (h : VRs Γ H F α vs [d, d2]) : ∃ v w, vs = [v, w] ∧ VR Γ H F α v d ∧ VR Γ H F α w d2 := by
  cases h with
  | cons h t =>
    obtain ⟨w, rfl, h2⟩ := t.one
    exact ⟨_, w, rfl, h, h2⟩
theorem VR.any (hK : Γ.K = X.K) (g : Sub F H) (h : VR Γ H F α v (.lst xs) ∨ VR Γ H F α v (.tup xs)) : ∃ p ys, v = .ref p ∧ (SqL X.K H p ys ∨ SqT X.K H p ys) ∧ Reps Γ.K F α ys xs := VR.seq hK g h
theorem c_len (hK : Γ.K = X.K) : CallR X (.builtin "len") (rDN Γ B lenD) := fun pins s σ H vs us Q I r h => by
  obtain ⟨F, α, ds, vr, em⟩ := h
  refine call_len pins s σ H vs us Q I r ?_
  rcases ds with _ | ⟨a, _ | ⟨b, t⟩⟩
  · exact em.no.elim
  · obtain ⟨v, rfl, va⟩ := vr.one
    cases a with
    | lst xs => obtain ⟨p, ys, rfl, q, r⟩ := va.lst em.sub; exact ⟨_, ys.length, rfl, .inl ⟨ys, .of q, rfl⟩, em.val (by rw [r.len]; exact .int _)⟩
    | tup xs => obtain ⟨p, ys, rfl, q, r⟩ := va.tup em.sub; exact ⟨_, ys.length, rfl, .inr ⟨ys, hK ▸ q, rfl⟩, em.val (by rw [r.len]; exact .int _)⟩
    | scr ns => obtain ⟨p, rfl, q⟩ := va.scr em.sub; exact ⟨_, ns.length, rfl, .inl ⟨_, hK ▸ q, by simp⟩, em.val (.int _)⟩
    | str x =>
      simp only [lenD] at em
      by_cases c : sz x.length = true
      · rw [if_pos c] at em
        cases va.str
        exact ⟨_, x.length, rfl, ⟨szE.mp c, rfl⟩, em.val (.int _)⟩
      · rw [if_neg c] at em; exact em.no.elim
    | _ => exact em.no.elim
  · cases a <;> exact em.no.elim
theorem c_abs : CallR X (.builtin "abs") (rDN Γ B absD) := fun pins s σ H vs us Q I r h => by
  obtain ⟨F, α, ds, vr, em⟩ := h
  refine call_abs pins s σ H vs us Q I r ?_
  rcases ds with _ | ⟨a, _ | ⟨b, t⟩⟩
  · exact em.no.elim
  · obtain ⟨v, rfl, va⟩ := vr.one
    cases a with
    | int i => cases va.int; exact ⟨i, rfl, em.val (.int _)⟩
    | _ => exact em.no.elim
  · cases a <;> exact em.no.elim
theorem two_ints {vs : List V} {ds : List D} {f : Int → Int → Int} {g : List D → Out} {Q : VK} (hg : ∀ i j, g [.int i, .int j] = .val (.int (f i j))) (hn : ∀ ds, (∀ i j, ds ≠ [.int i, .int j]) → g ds = .no)
    (vr : VRs Γ H F α vs ds) (em : Em Γ B H F α Q (g ds)) : ∃ i j, vs = [.int i, .int j] ∧ Q (.int (f i j)) H := by
  by_cases c : ∃ i j, ds = [.int i, .int j]
  · obtain ⟨i, j, rfl⟩ := c
    obtain ⟨v, w, rfl, va, vb⟩ := vr.two
    cases va.int
    cases vb.int
    rw [hg] at em
    exact ⟨i, j, rfl, em.val (.int _)⟩
  · rw [hn ds fun i j e => c ⟨i, j, e⟩] at em
    exact em.no.elim
theorem c_max (hc : X.calm = true) : CallR X (.builtin "max") (rDN Γ B maxD) := fun pins s σ H vs us Q I r h => by
  obtain ⟨F, α, ds, vr, em⟩ := h
  exact call_max2 hc pins s σ H vs us Q I r (two_ints (f := fun i j => if j > i then j else i) (g := maxD) (fun _ _ => rfl) (fun ds h => by unfold maxD; split <;> first | rfl | exact (h _ _ rfl).elim) vr em)
theorem c_min (hc : X.calm = true) : CallR X (.builtin "min") (rDN Γ B minD) := fun pins s σ H vs us Q I r h => by
  obtain ⟨F, α, ds, vr, em⟩ := h
  exact call_min2 hc pins s σ H vs us Q I r (two_ints (f := fun i j => if j < i then j else i) (g := minD) (fun _ _ => rfl) (fun ds h => by unfold minD; split <;> first | rfl | exact (h _ _ rfl).elim) vr em)
theorem c_int : CallR X (.type "int") (rDN Γ B intD) := fun pins s σ H vs us Q I r h => by
  obtain ⟨F, α, ds, vr, em⟩ := h
  rcases ds with _ | ⟨a, _ | ⟨b, t⟩⟩
  · exact em.no.elim
  · obtain ⟨v, rfl, va⟩ := vr.one
    cases a with
    | int i => cases va.int; exact call_int1 pins s σ H _ us Q I r (.inl ⟨i, rfl, em.val (.int _)⟩)
    | bl k => cases va.bl; exact call_int1 pins s σ H _ us Q I r (.inr ⟨k, rfl, em.val (.int _)⟩)
    | str x =>
      cases va.str
      simp only [intD] at em
      cases e : PySem.intText? x with
      | none => simp only [e] at em; exact em.no.elim
      | some n =>
        simp only [e] at em
        by_cases c : strLe 640 x = true
        · rw [if_pos c] at em
          exact call_int_str pins s σ H _ us Q I r ⟨x, n, rfl, e, of_decide_eq_true c, em.val (.int n)⟩
        · rw [if_neg c] at em; exact em.no.elim
    | _ => exact em.no.elim
  · cases a <;> exact em.no.elim
theorem c_str : CallR X (.type "str") (rDN Γ B strD) := fun pins s σ H vs us Q I r h => by
  obtain ⟨F, α, ds, vr, em⟩ := h
  rcases ds with _ | ⟨a, _ | ⟨b, t⟩⟩
  · exact em.no.elim
  · obtain ⟨v, rfl, va⟩ := vr.one
    cases a with
    | int i =>
      cases va.int
      simp only [strD] at em
      split at em
      · next c => exact call_str_int pins s σ H _ us Q I r ⟨i, rfl, c, em.val (.str _)⟩
      · exact em.no.elim
    | str x => cases va.str; exact SkE.call_str_str pins s σ H _ us Q I r ⟨x, rfl, em.val (.str _)⟩
    | _ => exact em.no.elim
  · cases a <;> exact em.no.elim
theorem tyX_of {K : PySem.W.Frag} (hK : Γ.K = K) (g : Sub F H) (h : VR Γ H F α v d) (e : tyNs.contains (tyD d) = true) : TyX K H v (.type (tyD d)) := by
  have sqL : ∀ {a : Addr} {xs : List V}, SqL K H a xs → TyX K H (.ref a) (.type "list") := fun {a xs} h => by
    rcases h with (h | ⟨o, h⟩) | ⟨o, its, n, h1, h2, _⟩
    · exact .base (.lst h)
    · exact .base (.frz h)
    · exact .kList h1 h2
  have sqT : ∀ {a : Addr} {xs : List V}, SqT K H a xs → TyX K H (.ref a) (.type "tuple") := fun {a xs} h => by
    rcases h with (h | ⟨o, h⟩) | ⟨o, its, n, h1, h2, _⟩
    · exact .base (.tup h)
    · exact .fTuple h
    · exact .kTuple h1 h2
  cases d with
  | non => cases h.non; exact .base .non
  | bl b => cases h.bl; exact .base (.bl b)
  | int b => cases h.int; exact .base (.int b)
  | str b => cases h.str; exact .base (.str b)
  | tup xs => obtain ⟨a, vs, rfl, q, _⟩ := h.tup g; exact sqT (hK ▸ q)
  | lst xs => obtain ⟨a, vs, rfl, q, _⟩ := h.lst g; exact sqL (xs := vs) (.inl (.inl q))
  | scr xs => obtain ⟨a, rfl, q⟩ := h.scr g; exact sqL (hK ▸ q)
  | dic xs =>
    obtain ⟨a, kvs, rfl, q, _⟩ := h.dic g
    rcases q with q | ⟨o, q⟩
    · exact .base (.dK q)
    · exact .fDict q
  | _ => exact absurd (show tyNs.contains "" = true from e) (by decide)
theorem kit_tab : tyNs.all (fun a => tyNs.all fun b => b == "NoneType" || decide (kitB a b = some (isTy a b))) = true := by decide +kernel
theorem kit_is {a b : String} (ha : tyNs.contains a = true) (hb : tyNs.contains b = true) (hn : (b != "NoneType") = true) : kitB a b = some (isTy a b) := by
  have h1 := List.all_eq_true.mp kit_tab a (List.contains_iff_mem.mp ha)
  have h2 := List.all_eq_true.mp h1 b (List.contains_iff_mem.mp hb)
  rcases Bool.or_eq_true _ _ ▸ h2 with h | h
  · rw [bne, h] at hn; cases hn
  · exact of_decide_eq_true h
theorem c_isi (hK : Γ.K = X.K) : CallR X (.builtin "isinstance") (rDN Γ B isiD) := fun pins s σ H vs us Q I r h => by
  obtain ⟨F, α, ds, vr, em⟩ := h
  rcases ds with _ | ⟨a, _ | ⟨b, _ | ⟨c, t⟩⟩⟩
  · exact em.no.elim
  · exact em.no.elim
  · obtain ⟨v, w, rfl, va, vb⟩ := vr.two
    cases b with
    | ty n =>
      simp only [isiD] at em
      split at em
      · next c =>
        simp only [Bool.and_eq_true] at c
        cases vb.ty
        exact call_isi pins s σ H _ us Q I r ⟨v, .ty n, _, _, _, rfl, .ty n, tyX_of hK em.sub va c.1.1, kit_ty (kit_is c.1.1 c.1.2 c.2), em.val (.bl _)⟩
      · exact em.no.elim
    | _ => exact em.no.elim
  · cases b <;> exact em.no.elim
theorem c_list (hK : Γ.K = X.K) : CallR X (.type "list") (rDN Γ B listD) := fun pins s σ H vs us Q I r h => by
  obtain ⟨F, α, ds, vr, em⟩ := h
  rcases ds with _ | ⟨a, _ | ⟨b, t⟩⟩
  · exact em.no.elim
  · obtain ⟨v, rfl, va⟩ := vr.one
    cases a with
    | lst xs => obtain ⟨p, ys, rfl, q, r2⟩ := va.lst em.sub; exact call_list_of pins s σ H _ us Q I r ⟨p, ys, rfl, .inl (.of q), em.nl r2⟩
    | tup xs => obtain ⟨p, ys, rfl, q, r2⟩ := va.tup em.sub; exact call_list_of pins s σ H _ us Q I r ⟨p, ys, rfl, .inr (hK ▸ q), em.nl r2⟩
    | scr ns => obtain ⟨p, rfl, q⟩ := va.scr em.sub; exact call_list_of pins s σ H _ us Q I r ⟨p, _, rfl, .inl (hK ▸ q), em.nl (Reps.ints ns)⟩
    | _ => exact em.no.elim
  · cases a <;> exact em.no.elim
theorem c_tuple (hK : Γ.K = X.K) : CallR X (.type "tuple") (rDN Γ B tupleD) := fun pins s σ H vs us Q I r h => by
  obtain ⟨F, α, ds, vr, em⟩ := h
  rcases ds with _ | ⟨a, _ | ⟨b, t⟩⟩
  · exact em.no.elim
  · obtain ⟨v, rfl, va⟩ := vr.one
    cases a with
    | lst xs => obtain ⟨p, ys, rfl, q, r2⟩ := va.lst em.sub; exact call_tuple_of pins s σ H _ us Q I r ⟨p, ys, rfl, .inl ⟨.of q, em.nt r2⟩⟩
    | tup xs =>
      obtain ⟨p, ys, rfl, q, r2⟩ := va.tup em.sub
      refine call_tuple_of pins s σ H _ us Q I r ⟨p, ys, rfl, .inr ⟨hK ▸ q, em.val ?_⟩⟩
      rcases va with va | ⟨_, _, z⟩
      · exact va
      · exact z.elim
    | scr ns => obtain ⟨p, rfl, q⟩ := va.scr em.sub; exact call_tuple_of pins s σ H _ us Q I r ⟨p, _, rfl, .inl ⟨hK ▸ q, em.nt (Reps.ints ns)⟩⟩
    | _ => exact em.no.elim
  · cases a <;> exact em.no.elim
theorem bls_of : ∀ {vs : List V} {ds : List D} {bs : List Bool}, Reps Γ.K F α vs ds → blsD ds = some bs → vs = bs.map V.bl
  | _, _, _, .nil, e => by cases e; rfl
  | _, _, _, .cons (d := d) (ds := ds) h r, e => by
    cases d with
    | bl b =>
      cases h
      simp only [blsD] at e
      cases q : blsD ds with
      | none => simp only [q] at e; cases e
      | some bs => simp only [q, Option.some.injEq] at e; subst e; rw [bls_of r q]; rfl
    | _ => cases e
theorem c_all (hK : Γ.K = X.K) (hc : X.calm = true) : CallR X (.builtin "all") (rDN Γ B allD) := fun pins s σ H vs us Q I r h => by
  obtain ⟨F, α, ds, vr, em⟩ := h
  rcases ds with _ | ⟨a, _ | ⟨b, t⟩⟩
  · exact em.no.elim
  · obtain ⟨v, rfl, va⟩ := vr.one
    cases a with
    | lst xs =>
      obtain ⟨p, ys, rfl, q, r2⟩ := va.lst em.sub
      simp only [allD] at em
      cases e : blsD xs with
      | none => simp only [e] at em; exact em.no.elim
      | some bs =>
        simp only [e] at em
        have := bls_of r2 e
        subst this
        exact cr_all hc pins s σ H _ us Q I r ⟨p, bs, rfl, .of q, em.val (.bl _)⟩
    | _ => exact em.no.elim
  · cases a <;> exact em.no.elim
theorem c_any (hK : Γ.K = X.K) (hc : X.calm = true) : CallR X (.builtin "any") (rDN Γ B anyD) := fun pins s σ H vs us Q I r h => by
  obtain ⟨F, α, ds, vr, em⟩ := h
  rcases ds with _ | ⟨a, _ | ⟨b, t⟩⟩
  · exact em.no.elim
  · obtain ⟨v, rfl, va⟩ := vr.one
    cases a with
    | lst xs =>
      obtain ⟨p, ys, rfl, q, r2⟩ := va.lst em.sub
      simp only [anyD] at em
      cases e : blsD xs with
      | none => simp only [e] at em; exact em.no.elim
      | some bs =>
        simp only [e] at em
        have := bls_of r2 e
        subst this
        exact cr_any hc pins s σ H _ us Q I r ⟨p, bs, rfl, .of q, em.val (.bl _)⟩
    | _ => exact em.no.elim
  · cases a <;> exact em.no.elim
end

/-! ### chains -/
section
variable {Γ : Ct} {B : Bs} {W : WX} {σ : L2.St} {η : List (Addr × D)} {H F : Hp} {α : List Addr} {s : S} {g : EX} {Q : VK}
/-- an expression, then more, all that is known kept -/
theorem aft_bind {k : RV → S → R RV} (sr : SR Γ B η σ H F α s) (a : Aft Γ B W η σ F α Q ((g s).bind k)) :
    tX Γ B W g σ H fun v H1 => ∃ F1 α1 s1 r, SR Γ B η σ H1 F1 α1 s1 ∧ Sub F F1 ∧ α <+: α1 ∧ RR Γ B η σ H1 F1 α1 s1 v r ∧ Aft Γ B W η σ F1 α1 Q (k r s1) := by
  refine ⟨η, F, α, s, sr, ?_⟩
  cases e : g s with
  | bad => rw [e] at a; exact a
  | ex x s1 => rw [e] at a; exact a
  | ok r s1 =>
    rw [e] at a
    exact fun H1 F1 α1 v sr1 sub pr rr => ⟨F1, α1, s1, r, sr1, sub, pr, rr, Aft.up sub pr a⟩
end
def gChain (f f' : D → D → Out) (ga gb gc : EX) : EX := fun s => (ga s).bind fun ra s1 => (gb s1).bind fun rb s2 => (lift2 f ra.keep rb.keep s2).bind fun z s3 => match z with
  | .fz (.bl true) => (gc s3).bind fun rc s4 => lift2 f' rb.keep rc s4
  | .fz (.bl false) => .ok (.fz (.bl false)) s3
  | _ => .bad
section
variable {X : Cx} {Γ : Ct} {B : Bs} {W : WX} {ga gb gc : EX} {a b c : Expr} {pos : Pos} {σ : L2.St} {H : Hp}
theorem tChain_of {f f' : D → D → Out} {Q : VK} (h : tX Γ B W (gChain f f' ga gb gc) σ H Q) : tChain (rD Γ B f) (rD Γ B f') (tX Γ B W ga) (tX Γ B W gb) (tX Γ B W gc) σ H Q := by
  obtain ⟨η, F, α, s, sr, a⟩ := h
  refine (aft_bind sr a).mono fun v H1 ⟨F1, α1, s1, ra, sr1, sub1, pr1, rr1, a1⟩ => ?_
  obtain ⟨F1', sub1', sr1', rr1'⟩ := sr1.keepR rr1
  refine (aft_bind sr1' (a1.up sub1' List.prefix_rfl)).mono fun w H2 ⟨F2, α2, s2, rb, sr2, sub2, pr2, rr2, a2⟩ => ?_
  obtain ⟨F2', sub2', sr2', rr2'⟩ := sr2.keepR rr2
  have rra : RR Γ B η σ H2 F2' α2 s2 v ra.keep := rr1'.held (keep_keep ra) (sub2.trans sub2') pr2
  have a2 := a2.up sub2' List.prefix_rfl
  unfold lift2 at a2
  cases e1 : look s2 ra.keep with
  | none => simp only [e1] at a2; exact a2.elim
  | some x =>
    cases e2 : look s2 rb.keep with
    | none => simp only [e1, e2] at a2; exact a2.elim
    | some y =>
      simp only [e1, e2] at a2
      refine ⟨F2', α2, x, y, sr2'.view rra e1, sr2'.view rr2' e2, η, σ, W, s2, sr2', ?_⟩
      cases ef : f x y with
      | no => rw [ef] at a2; exact a2
      | nt ds => rw [ef] at a2; exact a2.elim
      | nl ds => rw [ef] at a2; exact a2.elim
      | val d =>
        rw [ef] at a2
        cases d with
        | bl k =>
          intro H3 F3 α3 z sr3 sub3 pr3 rz
          cases rz
          refine ⟨k, rfl, ?_⟩
          cases k with
          | false => exact a2 H3 F3 α3 _ sr3 sub3 pr3 (.bl false)
          | true =>
            refine (aft_bind (k := fun rc s4 => lift2 f' rb.keep rc s4) sr3 (Aft.up sub3 pr3 a2)).mono fun w' H4 ⟨F4, α4, s4, rc, sr4, sub4, pr4, rr4, a4⟩ => ?_
            exact K2.rD ⟨η, F4, α4, s4, rb.keep, rc, sr4, rr2'.held (keep_keep rb) (sub3.trans sub4) (pr3.trans pr4), rr4, a4⟩
        | _ => exact a2.elim
theorem x_chain {op op' : CmpOp} {f f' : D → D → Out} (ho : OpR X (compareOp op) (rD Γ B f)) (ho' : OpR X (compareOp op') (rD Γ B f')) (ha : PE X a (tX Γ B W ga)) (hb : PE X b (tX Γ B W gb)) (hc : PE X c (tX Γ B W gc))
    (hm : lastMarks [op, op'] [b, c] = false) : PE X (.Compare a [op, op'] [b, c] pos) (tX Γ B W (gChain f f' ga gb gc)) :=
  (pe_chain ho ho' ha hb hc hm).imp fun σ H Q h => tChain_of h

/-! ### f-strings -/
def fmtD : D → Out
  | .str x => if sz x.length then .val (.str x) else .no
  | .int i => if i.natAbs.log2 < 1920 then .val (.str (toString i)) else .no
  | _ => .no
def gFmt (ga : EX) : EX := fun s => (ga s).bind (lift1 fmtD)
theorem x_fmt (ha : PE X a (tX Γ B W ga)) : PE X (.FormattedValue a (-1) none pos) (tX Γ B W (gFmt ga)) :=
  (pe_fmt ha).imp fun σ H Q h => (tX_bind h).mono fun v H1 h1 => by
    obtain ⟨F, α, d, va, em⟩ := h1.rD1
    cases d with
    | str x =>
      cases va.str
      simp only [fmtD] at em
      by_cases c : sz x.length = true
      · rw [if_pos c] at em; exact .inl ⟨x, rfl, szE.mp c, em.val (.str _)⟩
      · rw [if_neg c] at em; exact em.no.elim
    | int i =>
      cases va.int
      simp only [fmtD] at em
      split at em
      · next c => exact .inr ⟨i, rfl, c, em.val (.str _)⟩
      · exact em.no.elim
    | _ => exact em.no.elim
/-- the texts one behind the other -/
def gJs : List EX → Str → EX
  | [], acc => fun s => .ok (.fz (.str acc)) s
  | g :: gs, acc => fun s => (g s).bind fun r s1 => match look s1 r with
    | some (.str y) => if sz (acc ++ y).length then gJs gs (acc ++ y) s1 else .bad
    | _ => .bad
inductive JX (X : Cx) (Γ : Ct) (B : Bs) (W : WX) : List Expr → List EX → Prop
  | nil : JX X Γ B W [] []
  | cons {e : Expr} {g : EX} {es : List Expr} {gs : List EX} : PE X e (tX Γ B W g) → JX X Γ B W es gs → JX X Γ B W (e :: es) (g :: gs)
theorem JX.pj {es : List Expr} {gs : List EX} (h : JX X Γ B W es gs) : PJ X es (gs.map (tX Γ B W)) := by
  induction h with
  | nil => exact .nil
  | cons h _ ih => exact .cons h ih
theorem js_of : ∀ {gs : List EX} {acc : Str} {H : Hp} {Q : VK}, tX Γ B W (gJs gs acc) σ H Q → tJs (gs.map (tX Γ B W)) acc σ H fun out H1 => Q (.str out) H1
  | [], acc, H, Q, ⟨η, F, α, s, sr, a⟩ => a H F α _ sr (Sub.refl F) List.prefix_rfl (.str acc)
  | g :: gs, acc, H, Q, h => by
    refine (tX_bind (g := g) (k := fun r s1 => match look s1 r with
      | some (.str y) => if sz (acc ++ y).length then gJs gs (acc ++ y) s1 else .bad
      | _ => .bad) h).mono fun v H1 ⟨η, F, α, s, r, sr, rr, a⟩ => ?_
    cases e : look s r with
    | none => simp only [e] at a; exact a.elim
    | some d =>
      cases d with
      | str y =>
        simp only [e] at a
        by_cases c : sz (acc ++ y).length = true
        · rw [if_pos c] at a
          exact ⟨y, (sr.view rr e).str, szE.mp c, js_of ⟨η, F, α, s, sr, a⟩⟩
        · rw [if_neg c] at a; exact a.elim
      | _ => simp only [e] at a; exact a.elim
theorem x_joined {v1 v2 : Expr} {rest : List Expr} {gs : List EX} (h : JX X Γ B W (v1 :: v2 :: rest) gs) : PE X (.JoinedStr (v1 :: v2 :: rest) pos) (tX Γ B W (gJs gs Str.empty)) :=
  (pe_joined h.pj).imp fun σ H Q h => js_of h
end

/-! ### methods of built-in types -/
def isK (T : String) (d : D) : Bool := match d with
  | .str _ => T == "str"
  | .lst _ => T == "list"
  | _ => false
def gMeth (T : String) (f : D → List D → Out) (go : EX) (gs : List EX) : EX := fun s => (go s).bind fun ro s1 => match look s1 ro with
  | some d0 => if isK T d0 then (gArgs gs s1).bind fun rs s2 => match look s2 ro.keep, looks s2 rs with
    | some d, some ds => emit (f d ds) s2
    | _, _ => .bad
    else .bad
  | none => .bad
def rDM (Γ : Ct) (B : Bs) (f : D → List D → Out) : V → List V → Hp → VK → Prop := fun v vs H Q => ∃ F α d ds, VR Γ H F α v d ∧ VRs Γ H F α vs ds ∧ Em Γ B H F α Q (f d ds)
section
variable {X : Cx} {Γ : Ct} {B : Bs} {W : WX} {g go : EX} {gs : List EX} {o e : Expr} {es : List Expr} {apos cpos : Pos} {σ : L2.St} {H F : Hp} {α : List Addr} {v : V} {d : D} {name : Str} {T id : String} {f : D → List D → Out} {η : List (Addr × D)} {s : S} {Q : VK}
theorem tyV_of {K : PySem.W.Frag} (g : Sub F H) (h : VR Γ H F α v d) (k : isK T d = true) : tyV K T v H := by
  cases d with
  | str x => cases h.str; exact beq_iff_eq.mp k
  | lst xs => obtain ⟨a, vs, rfl, q, _⟩ := h.lst g; exact .inl ⟨beq_iff_eq.mp k, vs, .of q⟩
  | _ => cases k
theorem aft_bindV {g : VX} {k : List RV → S → R RV} (sr : SR Γ B η σ H F α s) (a : Aft Γ B W η σ F α Q ((g s).bind k)) :
    tV Γ B W g σ H fun vs H1 => ∃ F1 α1 s1 rs, SR Γ B η σ H1 F1 α1 s1 ∧ Sub F F1 ∧ α <+: α1 ∧ RRs Γ B η σ H1 F1 α1 s1 vs rs ∧ Aft Γ B W η σ F1 α1 Q (k rs s1) := by
  refine ⟨η, F, α, s, sr, ?_⟩
  cases e : g s with
  | bad => rw [e] at a; exact a
  | ex x s1 => rw [e] at a; exact a
  | ok r s1 =>
    rw [e] at a
    exact fun H1 F1 α1 v sr1 sub pr rr => ⟨F1, α1, s1, r, sr1, sub, pr, rr, Aft.up sub pr a⟩
theorem tBM_of {K : PySem.W.Frag} (h : tX Γ B W (gMeth T f go gs) σ H Q) : tBM K T (rDM Γ B f) (tX Γ B W go) (tV Γ B W (gArgs gs)) σ H Q := by
  obtain ⟨η, F, α, s, sr, a⟩ := h
  refine (aft_bind sr a).mono fun v H1 ⟨F1, α1, s1, ro, sr1, sub1, pr1, rr1, a1⟩ => ?_
  cases e1 : look s1 ro with
  | none => simp only [e1] at a1; exact a1.elim
  | some d0 =>
    simp only [e1] at a1
    by_cases c : isK T d0 = true
    · rw [if_pos c] at a1
      refine ⟨tyV_of sr1.g.sub (sr1.view rr1 e1) c, ?_⟩
      obtain ⟨F1', sub1', sr1', rr1'⟩ := sr1.keepR rr1
      refine (aft_bindV sr1' (a1.up sub1' List.prefix_rfl)).mono fun vs H2 ⟨F2, α2, s2, rs, sr2, sub2, pr2, rr2, a2⟩ => ?_
      cases e2 : look s2 ro.keep with
      | none => simp only [e2] at a2; exact a2.elim
      | some d =>
        cases e3 : looks s2 rs with
        | none => simp only [e2, e3] at a2; exact a2.elim
        | some ds =>
          simp only [e2, e3] at a2
          exact ⟨F2, α2, d, ds, sr2.view (rr1'.held (keep_keep ro) sub2 pr2) e2, sr2.views rr2 e3, η, σ, W, s2, sr2, a2⟩
    · rw [if_neg c] at a1; exact a1.elim
theorem x_meth (pa : PlainAttrs T) (slot : Slot T name id) (hty : typeOf (.builtin id) = pure (.type "method_descriptor")) (hm : MtR X id (rDM Γ B f)) (ho : PE X o (tX Γ B W go)) (ha : PA X (e :: es) (tV Γ B W (gArgs (g :: gs))))
    (hbase : attributeBase o name X.env (eval o X.env) = eval o X.env)
    (hfew : ((backTo cpos (starEach (e :: es) X.env)).all (fun x => !x.1) && (backToKw cpos (keywordEach [] X.env)).all (fun x => x.1.isSome)
      && decide ((e :: es).length + ([] : List Keyword).length + (if ([] : List Keyword).isEmpty then 0 else 1) < 30)) = true)
    (hline : (apos.endLine == cpos.line) = true) (hs : starEach (e :: es) X.env = (false, eval e X.env) :: starEach es X.env) (hplain : (backTo cpos (starEach es X.env)).any (·.1) = false) :
    PE X (.Call (.Attribute o name apos) (e :: es) [] cpos) (tX Γ B W (gMeth T f go (g :: gs))) :=
  (pe_bm pa slot hty hm ho ha hbase hfew hline hs hplain).imp fun σ H Q h => tBM_of h
end
def strsD : List D → Option (List Str)
  | [] => some []
  | .str x :: ds => match strsD ds with
    | some xs => some (x :: xs)
    | none => none
  | _ => none
def splitD (a : D) : List D → Out
  | [.str b] => match a with
    | .str a => if !(b.length == 0) && sz (a.length + 2) then .nl ((Txt.split a b).map .str) else .no
    | _ => .no
  | _ => .no
def partD (a : D) : List D → Out
  | [.str b] => match a with
    | .str a => if !(b.length == 0) && sz a.length then .nt [.str (Txt.partition a b).1, .str (Txt.partition a b).2.1, .str (Txt.partition a b).2.2] else .no
    | _ => .no
  | _ => .no
def joinS (a : Str) (xs : List D) : Out := match strsD xs with
  | some ys => if decide ((ys.map (·.length)).sum + ys.length * a.length ≤ 16777216) then .val (.str (Txt.join a ys)) else .no
  | none => .no
def joinD (a : D) : List D → Out
  | [.lst xs] => match a with
    | .str a => joinS a xs
    | _ => .no
  | [.tup xs] => match a with
    | .str a => joinS a xs
    | _ => .no
  | _ => .no
def countD (a : D) : List D → Out
  | [d] => match toP a, toP d with
    | some (.list ps), some p => if SeqAt.shaped (.list ps) && SeqAt.shaped p then .val (.int (ps.countP (fun q => PyData.eqv q p) : Nat)) else .no
    | _, _ => .no
  | _ => .no
def indexD (a : D) : List D → Out
  | [d] => match toP a, toP d with
    | some (.list ps), some p => if SeqAt.shaped (.list ps) && SeqAt.shaped p then (match ps.findIdx? (fun q => PyData.eqv q p) with
      | some j => .val (.int (j : Nat))
      | none => .no) else .no
    | _, _ => .no
  | _ => .no
section
variable {X : Cx} {Γ : Ct} {B : Bs} {H F : Hp} {α : List Addr} {ds : List D} {vs : List V} {v : V} {d : D}
theorem strs_of : ∀ {vs : List V} {ds : List D} {bs : List Str}, Reps Γ.K F α vs ds → strsD ds = some bs → vs = bs.map V.str
  | _, _, _, .nil, e => by cases e; rfl
  | _, _, _, .cons (d := d) (ds := ds) h r, e => by
    cases d with
    | str b =>
      cases h
      simp only [strsD] at e
      cases q : strsD ds with
      | none => simp only [q] at e; cases e
      | some bs => simp only [q, Option.some.injEq] at e; subst e; rw [strs_of r q]; rfl
    | _ => cases e
theorem reps_strs : ∀ (xs : List Str), Reps Γ.K F α (xs.map V.str) (xs.map D.str)
  | [] => .nil
  | n :: ns => .cons (.str n) (reps_strs ns)
theorem m_split : MtR X "str.split" (rDM Γ B splitD) := fun pins s σ H x vs v us Q I rx rs h => by
  obtain ⟨F, α, a, ds, va, vr, em⟩ := h
  refine mt_split pins s σ H x vs v us Q I rx rs ?_
  rcases ds with _ | ⟨b, _ | ⟨c, t⟩⟩
  · exact em.no.elim
  · obtain ⟨w, rfl, vb⟩ := vr.one
    cases b with
    | str b =>
      cases a with
      | str a =>
        simp only [splitD] at em
        split at em
        · next c =>
          rw [Bool.and_eq_true, Bool.not_eq_true'] at c
          cases va.str
          cases vb.str
          exact ⟨a, b, rfl, rfl, c.1, szE.mp c.2, em.nl (reps_strs _)⟩
        · exact em.no.elim
      | _ => exact em.no.elim
    | _ => exact em.no.elim
  · cases b <;> exact em.no.elim
theorem m_part : MtR X "str.partition" (rDM Γ B partD) := fun pins s σ H x vs v us Q I rx rs h => by
  obtain ⟨F, α, a, ds, va, vr, em⟩ := h
  refine mt_partition pins s σ H x vs v us Q I rx rs ?_
  rcases ds with _ | ⟨b, _ | ⟨c, t⟩⟩
  · exact em.no.elim
  · obtain ⟨w, rfl, vb⟩ := vr.one
    cases b with
    | str b =>
      cases a with
      | str a =>
        simp only [partD] at em
        split at em
        · next c =>
          rw [Bool.and_eq_true, Bool.not_eq_true'] at c
          cases va.str
          cases vb.str
          exact ⟨a, b, rfl, rfl, c.1, szE.mp c.2, em.nt (.cons (.str _) (.cons (.str _) (.cons (.str _) .nil)))⟩
        · exact em.no.elim
      | _ => exact em.no.elim
    | _ => exact em.no.elim
  · cases b <;> exact em.no.elim
theorem join_ok {a : Str} {xs : List D} {ys : List V} {Q : VK} {p : Addr} (em : Em Γ B H F α Q (joinS a xs)) (r : Reps Γ.K F α ys xs) (q : SqL X.K H p ys ∨ SqT X.K H p ys) :
    ∃ b p' zs, V.str a = .str b ∧ [V.ref p] = [.ref p'] ∧ (SqL X.K H p' (zs.map V.str) ∨ SqT X.K H p' (zs.map V.str)) ∧ (zs.map (·.length)).sum + zs.length * b.length ≤ 16777216 ∧ Q (.str (Txt.join b zs)) H := by
  unfold joinS at em
  cases e : strsD xs with
  | none => simp only [e] at em; exact em.no.elim
  | some zs =>
    simp only [e] at em
    split at em
    · next c =>
      cases strs_of r e
      exact ⟨a, p, zs, rfl, rfl, q, of_decide_eq_true c, em.val (.str _)⟩
    · exact em.no.elim
theorem m_join (hK : Γ.K = X.K) : MtR X "str.join" (rDM Γ B joinD) := fun pins s σ H x vs v us Q I rx rs h => by
  obtain ⟨F, α, a, ds, va, vr, em⟩ := h
  refine mt_join pins s σ H x vs v us Q I rx rs ?_
  rcases ds with _ | ⟨b, _ | ⟨c, t⟩⟩
  · exact em.no.elim
  · obtain ⟨w, rfl, vb⟩ := vr.one
    cases b with
    | lst b =>
      cases a with
      | str a =>
        cases va.str
        obtain ⟨p, ys, rfl, q, r2⟩ := vb.lst em.sub
        exact join_ok em r2 (.inl (.of q))
      | _ => exact em.no.elim
    | tup b =>
      cases a with
      | str a =>
        cases va.str
        obtain ⟨p, ys, rfl, q, r2⟩ := vb.tup em.sub
        exact join_ok em r2 (.inr (hK ▸ q))
      | _ => exact em.no.elim
    | _ => exact em.no.elim
  · cases b <;> exact em.no.elim
/-- l.count(x): of data -/
theorem mt_countD (hu : X.A.units + 65 < cLine) : MtR X "list.count" (fun x xs H Q => ∃ (a : Addr) (y : V) (d : PyData) (ds : List PyData), x = V.ref a ∧ xs = [y] ∧ Dp X.K H (V.ref a) (.list ds) ∧ Dp X.K H y d ∧
    SeqAt.shaped (.list ds) = true ∧ SeqAt.shaped d = true ∧ Q (.int (ds.countP (fun q => PyData.eqv q d) : Nat)) H) := by
  intro pins s σ H x xs v us Q I rx rxs h
  obtain ⟨a, y, d, ds, rfl, rfl, hl, hy, sl, sd, q⟩ := h
  cases rx
  cases rxs with
  | cons ry rt =>
    rename_i uy ut
    cases rt
    obtain ⟨bs, r1⟩ := Dp.reads I d y uy hy ry
    have hxs : PyData.canLayAll0 ds = true := SeqAt.canLay_of_shaped sl
    have hroom : X.A.units + 1 + min (PyData.depthAll ds) d.depth < cLine := room_in_shaped sd hu
    cases hl with
    | lst hs ha =>
      obtain ⟨its, rv, ⟨⟨cls, dd, data, sls⟩, n, ho, hc, hdn, hdt⟩, hlen⟩ := I.list hs
      simp only at hc hdt
      subst hc hdt
      obtain ⟨as, h4⟩ := Dp.readsAll I ds _ its ha rv
      have hmap : its.map (SeqAt.readOf s.heap) = ds := SeqAt.readsAll_map ds its as hxs h4
      refine call_meets PySem.F.slot_list_count ⟨_, ho, rfl⟩ PySem.F.entry_list_count (PySem.F.args_list_count_2 _ _)
        (SeqAt.list_countAt a its.toArray n dd sls uy (fun u => PyData.eqv (SeqAt.readOf s.heap u) d)) ⟨ho, SeqAt.items_eqAt (vs := its.toArray) (show ReadsAll s.heap its.toArray.toList ds as from h4) r1 hxs (SeqAt.canLay_of_shaped sd) hroom, ?_⟩
      refine ⟨.int (ds.countP (fun q => PyData.eqv q d) : Nat), H, I.tok _, ⟨s.toks, ?_⟩, q⟩
      rw [← hmap, List.countP_map]
      rfl
theorem m_count (hK : Γ.K = X.K) (hu : X.A.units + 65 < cLine) : MtR X "list.count" (rDM Γ B countD) := fun pins s σ H x vs v us Q I rx rs h => by
  obtain ⟨F, α, a, ds, va, vr, em⟩ := h
  refine mt_countD hu pins s σ H x vs v us Q I rx rs ?_
  rcases ds with _ | ⟨b, _ | ⟨c, t⟩⟩
  · exact em.no.elim
  · obtain ⟨w, rfl, vb⟩ := vr.one
    simp only [countD] at em
    cases ea : toP a with
    | none => simp only [ea] at em; exact em.no.elim
    | some pa =>
      cases eb : toP b with
      | none => simp only [ea, eb] at em; cases pa <;> exact em.no.elim
      | some pb =>
        cases pa with
        | list ps =>
          simp only [ea, eb] at em
          split at em
          · next c =>
            rw [Bool.and_eq_true] at c
            have dp : Dp X.K H x (.list ps) := hK ▸ va.dp em.sub ea
            cases dp with
            | lst hs ha => exact ⟨_, w, pb, ps, rfl, rfl, .lst hs ha, hK ▸ vb.dp em.sub eb, c.1, c.2, em.val (.int _)⟩
          · exact em.no.elim
        | _ => simp only [ea, eb] at em; exact em.no.elim
  · exact em.no.elim
theorem m_index (hK : Γ.K = X.K) (hu : X.A.units + 65 < cLine) : MtR X "list.index" (rDM Γ B indexD) := fun pins s σ H x vs v us Q I rx rs h => by
  obtain ⟨F, α, a, ds, va, vr, em⟩ := h
  refine mt_indexD hu pins s σ H x vs v us Q I rx rs ?_
  rcases ds with _ | ⟨b, _ | ⟨c, t⟩⟩
  · exact em.no.elim
  · obtain ⟨w, rfl, vb⟩ := vr.one
    simp only [indexD] at em
    cases ea : toP a with
    | none => simp only [ea] at em; exact em.no.elim
    | some pa =>
      cases eb : toP b with
      | none => simp only [ea, eb] at em; cases pa <;> exact em.no.elim
      | some pb =>
        cases pa with
        | list ps =>
          simp only [ea, eb] at em
          split at em
          · next c =>
            rw [Bool.and_eq_true] at c
            cases ej : ps.findIdx? (fun q => PyData.eqv q pb) with
            | none => simp only [ej] at em; exact em.no.elim
            | some j =>
              simp only [ej] at em
              obtain ⟨hj, e1, e2⟩ := List.findIdx?_eq_some_iff_getElem.mp ej
              have dp : Dp X.K H x (.list ps) := hK ▸ va.dp em.sub ea
              cases dp with
              | lst hs ha => exact ⟨_, w, pb, ps, j, ps[j], rfl, rfl, .lst hs ha, hK ▸ vb.dp em.sub eb, c.1, c.2, List.getElem?_eq_getElem hj, e1, fun m z hm hz => by
                  have hm' : m < ps.length := by omega
                  rw [List.getElem?_eq_getElem hm'] at hz
                  cases hz
                  have := e2 m hm
                  simpa using this, em.val (.int _)⟩
          · exact em.no.elim
        | _ => simp only [ea, eb] at em; exact em.no.elim
  · exact em.no.elim
end
end Fw

set_option Elab.async false
set_option linter.all false
set_option maxRecDepth 100000
set_option maxHeartbeats 1000000
/-! Fw11: handles, lists that change, loops without a bound, raise. -/
namespace Fw
open PySem PySem.Spec PyProof.Rows L2

/-! ### a list gets a number of its own -/
section
variable {X : Cx} {Γ : Ct} {B : Bs} {W : WX} {H F : Hp} {α : List Addr} {s : S} {σ : L2.St} {η : List (Addr × D)} {v : V} {ds : List D}
theorem SR.promote (h : SR Γ B η σ H F α s) (r : RR Γ B η σ H F α s v (.ow (.lst ds))) : ∃ a, v = .ref a ∧ SR Γ B η σ H F (α ++ [a]) { s with st := s.st ++ [.lst ds] } ∧ (α ++ [a])[s.st.length]? = some a := by
  obtain ⟨a, rfl, n, no, nh⟩ := r
  have pr : α <+: α ++ [a] := List.prefix_append _ _
  have hl := h.g.len
  have at_ : (α ++ [a])[s.st.length]? = some a := by rw [← hl]; simp
  have up : ∀ {b : Addr} {d : D}, b ≠ a → NewR Γ B H F α b d → NewR Γ B H F (α ++ [a]) b d := fun hb q => ⟨q.fz, q.bs, fun z => by
    rcases List.mem_append.mp z with z | z
    · exact q.na z
    · exact hb (by simpa using z), q.own.up (Sub.refl F) pr⟩
  refine ⟨a, rfl, ⟨⟨h.g.sub, ?_, by simp [hl], fun m b c h1 h2 => ?_, fun b hb => ?_, h.g.ext, h.g.pre.trans pr, fun b hb => ?_, h.g.keep, h.g.tin, h.g.nofz, h.g.tabs, h.g.nt, h.g.btin⟩, h.len, fun i x e => ?_, h.dis, fun p hp => ?_, h.hnd, h.hds⟩, at_⟩
  · rw [List.nodup_append]
    refine ⟨h.g.nd, by simp, fun x hx y hy => ?_⟩
    have : y = a := by simpa using hy
    subst this
    exact fun z => n.na (z ▸ hx)
  · by_cases c1 : m < α.length
    · rw [List.getElem?_append_left c1] at h1
      have h2' : (s.st ++ [.lst ds])[m]? = some c := h2
      rw [List.getElem?_append_left (by omega)] at h2'
      exact (h.g.cell m b c h1 h2').up (Sub.refl F) pr
    · have hm := (List.getElem?_eq_some_iff.mp h1).1
      rw [List.length_append, List.length_singleton] at hm
      have em : m = α.length := by omega
      subst em
      have h2' : (s.st ++ [.lst ds])[α.length]? = some c := h2
      rw [hl] at h1 h2'
      rw [at_] at h1
      cases h1
      have : (s.st ++ [Cell.lst ds])[s.st.length]? = some (.lst ds) := by simp
      rw [this] at h2'; cases h2'
      obtain ⟨vs, q, r⟩ := n.own
      exact ⟨vs, q, r.up (Sub.refl F) pr⟩
  · rcases List.mem_append.mp hb with z | z
    · exact h.g.afz b z
    · have : b = a := by simpa using z
      rw [this]; exact n.fz
  · rcases List.mem_append.mp hb with z | z
    · exact h.g.new b z
    · have : b = a := by simpa using z
      rw [this]; exact .inr n.bs
  · have q := h.sl i x e
    cases x with
    | no => trivial
    | fz d => obtain ⟨v, e1, r⟩ := q; exact ⟨v, e1, r.up (Sub.refl F) pr⟩
    | ow d =>
      obtain ⟨b, e1, nb⟩ := q
      refine ⟨b, e1, up (fun z => no i ⟨⟨d, e⟩, ?_⟩) nb⟩
      subst z
      cases hq : σ[i]? with
      | none => rw [hq] at e1; cases e1
      | some y => rw [hq] at e1; exact congrArg some e1
  · exact up (fun z => nh (z ▸ List.mem_map_of_mem hp)) (h.hid p hp)
/-- what is nobody's gets a number -/
def gPro (g : EX) : EX := fun s => (g s).bind fun r s1 => match r with
  | .ow (.lst ds) => .ok (.fz (.obj s1.st.length)) { s1 with st := s1.st ++ [.lst ds] }
  | _ => .bad
theorem tX_pro {g : EX} {Q : VK} (h : tX Γ B W (gPro g) σ H Q) : tX Γ B W g σ H Q := by
  obtain ⟨η, F, α, s, sr, a⟩ := h
  refine ⟨η, F, α, s, sr, ?_⟩
  unfold gPro at a
  cases e : g s with
  | bad => rw [e] at a; exact a
  | ex x s1 => rw [e] at a; exact a
  | ok r s1 =>
    rw [e] at a
    intro H1 F1 α1 v sr1 sub pr rr
    cases r with
    | ow d =>
      cases d with
      | lst ds =>
        obtain ⟨b, rfl, sr2, hb⟩ := sr1.promote rr
        exact a H1 F1 _ _ sr2 sub (pr.trans (List.prefix_append _ _)) (.obj hb)
      | _ => exact a.elim
    | _ => exact a.elim
theorem x_pro {e : Expr} {g : EX} (he : PE X e (tX Γ B W g)) : PE X e (tX Γ B W (gPro g)) := he.imp fun σ H Q h => tX_pro h
end

/-! ### o.append(x), o.extend(xs), o.pop() -/
def appD (x : D) : D → Option D
  | .lst ds => if decide (ds.length < sizeLine) then some (.lst (ds ++ [x])) else none
  | _ => none
def isLst : D → Bool
  | .lst _ => true
  | _ => false
def gApp (go g : EX) : EX := fun s => (go s).bind fun ro s1 => if (look s1 ro).any isLst then (g s1).bind fun r s2 => match settle r.keep s2 with
  | some (d, s3) => match change (appD d) ro s3 with
    | some s4 => .ok (.fz .non) s4
    | none => .bad
  | none => .bad
  else .bad
section
variable {X : Cx} {Γ : Ct} {B : Bs} {W : WX} {H F : Hp} {α : List Addr} {s s' : S} {σ : L2.St} {η : List (Addr × D)} {v : V} {d : D} {r ro : RV} {go g : EX} {Q : VK} {o e : Expr} {apos cpos : Pos}
theorem change_keep {f : D → Option D} (e : change f ro s = some s') : ro.keep = ro := by
  cases ro with
  | ow d => cases e
  | _ => rfl
theorem tyV_lst {K : PySem.W.Frag} (sr : SR Γ B η σ H F α s) (rr : RR Γ B η σ H F α s v ro) (c : (look s ro).any isLst = true) : tyV K "list" v H := by
  cases e : look s ro with
  | none => rw [e] at c; cases c
  | some d =>
    rw [e] at c
    cases d with
    | lst ds => obtain ⟨a, vs, rfl, q, _⟩ := (sr.view rr e).lst sr.g.sub; exact .inl ⟨rfl, vs, .of q⟩
    | _ => cases c
theorem appD_is {x d d' : D} (h : appD x d = some d') : ∃ ds, d = .lst ds := by
  cases d with
  | lst ds => exact ⟨ds, rfl⟩
  | _ => cases h
theorem app_of (h : tX Γ B W (gApp go g) σ H Q) : tBM X.K "list" rAppend (tX Γ B W go) (tCons (tX Γ B W g) tNil) σ H Q := by
  obtain ⟨η, F, α, s, sr, a⟩ := h
  refine (aft_bind (k := fun ro s1 => if (look s1 ro).any isLst then (g s1).bind fun r s2 => match settle r.keep s2 with
    | some (d, s3) => match change (appD d) ro s3 with
      | some s4 => .ok (.fz .non) s4
      | none => .bad
    | none => .bad
    else .bad) sr a).mono fun v H1 ⟨F1, α1, s1, ro, sr1, sub1, pr1, rr1, a1⟩ => ?_
  by_cases c : (look s1 ro).any isLst = true
  · rw [if_pos c] at a1
    refine ⟨tyV_lst sr1 rr1 c, ?_⟩
    obtain ⟨F1', sub1', sr1', rr1'⟩ := sr1.keepR rr1
    refine (aft_bind sr1' (a1.up sub1' List.prefix_rfl)).mono fun w H2 ⟨F2, α2, s2, r, sr2, sub2, pr2, rr2, a2⟩ => ?_
    obtain ⟨F3, sub3, sr3, rr3⟩ := sr2.keepR rr2
    cases e1 : settle r.keep s2 with
    | none => simp only [e1] at a2; exact a2.elim
    | some p =>
      obtain ⟨x, s3⟩ := p
      obtain ⟨F4, sub4, sr4, rx, _⟩ := settle_ok sr3 rr3 e1
      simp only [e1] at a2
      cases e2 : change (appD x) ro s3 with
      | none => simp only [e2] at a2; exact a2.elim
      | some s4 =>
        simp only [e2] at a2
        have hk := change_keep e2
        have rro : RR Γ B η σ H2 F4 α2 s3 v ro := by
          have := rr1'.held (s' := s3) (H' := H2) (keep_keep ro) ((sub2.trans sub3).trans sub4) pr2
          rw [hk] at this; exact this
        obtain ⟨b, vs, ds, ds', rfl, h1, h2, h3, h4⟩ := change_ok (mk := fun vs => vs ++ [w]) sr4 rro e2 (fun ds d' hd => by
          simp only [appD] at hd
          split at hd
          · cases hd; exact ⟨_, rfl, fun vs q => q.app (.cons rx .nil)⟩
          · cases hd) fun d d' hd => appD_is hd
        simp only [appD] at h3
        split at h3
        · next hz =>
          refine ⟨b, vs, w, rfl, rfl, h1, by rw [h2.len]; exact of_decide_eq_true hz, ?_⟩
          exact a2 _ F4 α2 .non h4 (sub3.trans sub4) List.prefix_rfl .non
        · cases h3
  · rw [if_neg c] at a1; exact a1.elim
theorem x_app (ho : PE X o (tX Γ B W go)) (he : PE X e (tX Γ B W g)) (hs1 : starEach [e] X.env = [(false, eval e X.env)]) (hbase : attributeBase o "append" X.env (eval o X.env) = eval o X.env)
    (hfew : ((backTo cpos (starEach [e] X.env)).all (fun x => !x.1) && (backToKw cpos (keywordEach [] X.env)).all (fun x => x.1.isSome)
      && decide (([e] : List Expr).length + ([] : List Keyword).length + (if ([] : List Keyword).isEmpty then 0 else 1) < 30)) = true) (hline : (apos.endLine == cpos.line) = true) :
    PE X (.Call (.Attribute o "append" apos) [e] [] cpos) (tX Γ B W (gApp go g)) :=
  (pe_bm PySem.F.plainAttrs_list PySem.F.slot_list_append PySem.F.type_list_append mt_append ho (pa_cons he pa_nil hs1) hbase hfew hline hs1 rfl).imp fun σ H Q h => app_of h
def extD (zs : List D) : D → Option D
  | .lst ds => if decide (ds.length + zs.length ≤ sizeLine) then some (.lst (ds ++ zs)) else none
  | _ => none
def gExt (go g : EX) : EX := fun s => (go s).bind fun ro s1 => if (look s1 ro).any isLst then (g s1).bind fun r s2 => match settle r.keep s2 with
  | some (.lst zs, s3) => match change (extD zs) ro s3 with
    | some s4 => .ok (.fz .non) s4
    | none => .bad
  | _ => .bad
  else .bad
theorem extD_is {x : List D} {d d' : D} (h : extD x d = some d') : ∃ ds, d = .lst ds := by
  cases d with
  | lst ds => exact ⟨ds, rfl⟩
  | _ => cases h
theorem ext_of (h : tX Γ B W (gExt go g) σ H Q) : tBM X.K "list" rExtend (tX Γ B W go) (tCons (tX Γ B W g) tNil) σ H Q := by
  obtain ⟨η, F, α, s, sr, a⟩ := h
  refine (aft_bind (k := fun ro s1 => if (look s1 ro).any isLst then (g s1).bind fun r s2 => match settle r.keep s2 with
    | some (.lst zs, s3) => match change (extD zs) ro s3 with
      | some s4 => .ok (.fz .non) s4
      | none => .bad
    | _ => .bad
    else .bad) sr a).mono fun v H1 ⟨F1, α1, s1, ro, sr1, sub1, pr1, rr1, a1⟩ => ?_
  by_cases c : (look s1 ro).any isLst = true
  · rw [if_pos c] at a1
    refine ⟨tyV_lst sr1 rr1 c, ?_⟩
    obtain ⟨F1', sub1', sr1', rr1'⟩ := sr1.keepR rr1
    refine (aft_bind sr1' (a1.up sub1' List.prefix_rfl)).mono fun w H2 ⟨F2, α2, s2, r, sr2, sub2, pr2, rr2, a2⟩ => ?_
    obtain ⟨F3, sub3, sr3, rr3⟩ := sr2.keepR rr2
    cases e1 : settle r.keep s2 with
    | none => simp only [e1] at a2; exact a2.elim
    | some p =>
      obtain ⟨x, s3⟩ := p
      obtain ⟨F4, sub4, sr4, rx, _⟩ := settle_ok sr3 rr3 e1
      cases x with
      | lst zs =>
        simp only [e1] at a2
        cases e2 : change (extD zs) ro s3 with
        | none => simp only [e2] at a2; exact a2.elim
        | some s4 =>
          simp only [e2] at a2
          have hk := change_keep e2
          have rro : RR Γ B η σ H2 F4 α2 s3 v ro := by
            have := rr1'.held (s' := s3) (H' := H2) (keep_keep ro) ((sub2.trans sub3).trans sub4) pr2
            rw [hk] at this; exact this
          cases rx with
          | @lst b2 ws _ hF rz =>
            obtain ⟨b, vs, ds, ds', rfl, h1, h2, h3, h4⟩ := change_ok (mk := fun vs => vs ++ ws) sr4 rro e2 (fun ds d' hd => by
              simp only [extD] at hd
              split at hd
              · cases hd; exact ⟨_, rfl, fun vs q => q.app rz⟩
              · cases hd) fun d d' hd => extD_is hd
            simp only [extD] at h3
            split at h3
            · next hz =>
              refine ⟨b, b2, vs, ws, rfl, rfl, h1, sr4.g.sub _ _ hF, by rw [h2.len, rz.len]; exact of_decide_eq_true hz, ?_⟩
              exact a2 _ F4 α2 .non h4 (sub3.trans sub4) List.prefix_rfl .non
            · cases h3
      | _ => simp only [e1] at a2; exact a2.elim
  · rw [if_neg c] at a1; exact a1.elim
theorem x_ext (ho : PE X o (tX Γ B W go)) (he : PE X e (tX Γ B W g)) (hs1 : starEach [e] X.env = [(false, eval e X.env)]) (hbase : attributeBase o "extend" X.env (eval o X.env) = eval o X.env)
    (hfew : ((backTo cpos (starEach [e] X.env)).all (fun x => !x.1) && (backToKw cpos (keywordEach [] X.env)).all (fun x => x.1.isSome)
      && decide (([e] : List Expr).length + ([] : List Keyword).length + (if ([] : List Keyword).isEmpty then 0 else 1) < 30)) = true) (hline : (apos.endLine == cpos.line) = true) :
    PE X (.Call (.Attribute o "extend" apos) [e] [] cpos) (tX Γ B W (gExt go g)) :=
  (pe_bm PySem.F.plainAttrs_list PySem.F.slot_list_extend PySem.F.type_list_extend mt_extend ho (pa_cons he pa_nil hs1) hbase hfew hline hs1 rfl).imp fun σ H Q h => ext_of h
/-- o.pop() -/
def popD : D → Option D
  | .lst ds => some (.lst ds.dropLast)
  | _ => none
def lastD : D → Option D
  | .lst ds => ds[ds.length - 1]?
  | _ => none
def gPop (go : EX) : EX := fun s => (go s).bind fun ro s1 => match (look s1 ro).bind lastD, change popD ro s1 with
  | some d, some s2 => .ok (.fz d) s2
  | _, _ => .bad
theorem Reps.init {vs : List V} {ds : List D} (r : Reps Γ.K F α vs ds) : Reps Γ.K F α vs.dropLast ds.dropLast := by
  rw [List.dropLast_eq_take, List.dropLast_eq_take, r.len]; exact r.take _
theorem pop_of (h : tX Γ B W (gPop go) σ H Q) : tBM0 X.K "list" rPop (tX Γ B W go) σ H Q := by
  obtain ⟨η, F, α, s, sr, a⟩ := h
  refine (aft_bind (k := fun ro s1 => match (look s1 ro).bind lastD, change popD ro s1 with
    | some d, some s2 => .ok (.fz d) s2
    | _, _ => .bad) sr a).mono fun v H1 ⟨F1, α1, s1, ro, sr1, sub1, pr1, rr1, a1⟩ => ?_
  cases e1 : look s1 ro with
  | none => simp only [e1, Option.bind_none] at a1; exact a1.elim
  | some d0 =>
    cases d0 with
    | lst ds0 =>
      cases e3 : lastD (.lst ds0) with
      | none => simp only [e1, Option.bind_some, e3] at a1; exact a1.elim
      | some d =>
        cases e2 : change popD ro s1 with
        | none => simp only [e1, Option.bind_some, e3, e2] at a1; exact a1.elim
        | some s2 =>
          simp only [e1, Option.bind_some, e3, e2] at a1
          obtain ⟨b0, vs0, rfl, hb0, r0⟩ := (sr1.view rr1 e1).lst sr1.g.sub
          refine ⟨.inl ⟨rfl, vs0, .of hb0⟩, ?_⟩
          obtain ⟨b, vs, ds, ds', hv, h1, h2, h3, h4⟩ := change_ok (mk := fun vs => vs.dropLast) sr1 rr1 e2 (fun ds d' hd => by
            cases hd; exact ⟨_, rfl, fun vs q => q.init⟩) fun d d' hd => by
              cases d with
              | lst ds => exact ⟨ds, rfl⟩
              | _ => cases hd
          cases hv
          rw [h1] at hb0
          cases hb0
          obtain ⟨y, hy, ry⟩ := r0.at (show ds0[ds0.length - 1]? = some d from e3)
          rw [← r0.len] at hy
          exact ⟨b0, _, y, rfl, rfl, h1, hy, a1 _ F1 α1 y h4 (Sub.refl _) List.prefix_rfl ry⟩
    | _ => simp only [e1, Option.bind_some, lastD] at a1; exact a1.elim
theorem x_pop (ho : PE X o (tX Γ B W go)) (hbase : attributeBase o "pop" X.env (eval o X.env) = eval o X.env) (hline : (apos.endLine == cpos.line) = true) :
    PE X (.Call (.Attribute o "pop" apos) [] [] cpos) (tX Γ B W (gPop go)) :=
  (pe_bm0 PySem.F.plainAttrs_list PySem.F.slot_list_pop PySem.F.type_list_pop mt_pop ho hbase hline).imp fun σ H Q h => pop_of h

/-! ### o[i] = v -/
def pSub (go gi : EX) : GX := fun r s => match settle r.keep s with
  | some (x, s0) => match go s0 with
    | .ok ro s1 => match gi s1 with
      | .ok ri s2 => match look s2 ri with
        | some i => match change (fun d => updAt d i x) ro s2 with
          | some s3 => .ok () s3
          | none => .bad
        | none => .bad
      | _ => .bad
    | _ => .bad
  | none => .bad
theorem g_sub {i : Expr} {gi : EX} {W' : WX} {pos : Pos} (ho : PE X o (tX Γ B W go)) (hi : PE X i (tX Γ B W gi))
    (ha : ∀ v, assign (.Subscript o i pos) X.env v = (do
      let ov ← holding [v] (eval o X.env)
      let iv ← holding [v, ov] (eval i X.env)
      standAt pos
      holding [v, ov, iv] (setItem ov iv v)
      release [v, ov, iv] [])) : PG X (.Subscript o i pos) (tG Γ B W' [] (pSub go gi)) := by
  refine ⟨fun pins s σ H v u Q I rv ⟨η, F, α, s1, r, sr, rr, a⟩ => (pg_sub ho hi set_list ha).run pins s σ H v u Q I rv ?_⟩
  unfold pSub at a
  obtain ⟨F1, sub1, sr1, rr1⟩ := sr.keepR rr
  cases e : settle r.keep s1 with
  | none => simp only [e] at a; exact a.elim
  | some p =>
    obtain ⟨x, s0⟩ := p
    obtain ⟨F2, sub2, sr2, rx, _⟩ := settle_ok sr1 rr1 e
    simp only [e] at a
    refine ⟨η, F2, α, s0, sr2, ?_⟩
    cases e1 : go s0 with
    | bad => simp only [e1] at a; exact a.elim
    | ex _ _ => simp only [e1] at a; exact a.elim
    | ok ro s3 =>
      simp only [e1] at a
      intro H1 F3 α1 vo sr3 sub3 pr3 rro
      obtain ⟨F3', sub3', sr3', rro'⟩ := sr3.keepR rro
      refine ⟨η, F3', α1, s3, sr3', ?_⟩
      cases e2 : gi s3 with
      | bad => simp only [e2] at a; exact a.elim
      | ex _ _ => simp only [e2] at a; exact a.elim
      | ok ri s4 =>
        simp only [e2] at a
        intro H2 F4 α2 vi sr4 sub4 pr4 rri
        cases e3 : look s4 ri with
        | none => simp only [e3] at a; exact a.elim
        | some di =>
          simp only [e3] at a
          cases e4 : change (fun d => updAt d di x) ro s4 with
          | none => simp only [e4] at a; exact a.elim
          | some s5 =>
            simp only [e4] at a
            cases di with
            | int k =>
              have rx' := rx.up ((sub3.trans sub3').trans sub4) (pr3.trans pr4)
              have rro2 : RR Γ B η σ H2 F4 α2 s4 vo ro := by
                have := rro'.held (s' := s4) (H' := H2) (keep_keep ro) sub4 pr4
                rw [change_keep e4] at this; exact this
              have ek : ∀ vs : List V, ∀ ds : List Fw.D, Reps Γ.K F4 α2 vs ds → ixN vs.length k = ixN ds.length k := fun vs ds q => by rw [q.len]
              obtain ⟨b, vs, ds, ds', rfl, h1, h2, h3, h4⟩ := change_ok (mk := fun vs => match ixN vs.length k with
                | some j => vs.set j v
                | none => vs) sr4 rro2 e4 (fun ds d' hd => by
                  simp only [updAt] at hd
                  cases ej : ixN ds.length k with
                  | none => simp only [ej] at hd; cases hd
                  | some j =>
                    simp only [ej, Option.some.injEq] at hd
                    subst hd
                    refine ⟨_, rfl, fun vs q => ?_⟩
                    rw [ek vs ds q, ej]
                    exact q.set j rx') fun d d' hd => by
                      cases d with
                      | lst ds => exact ⟨ds, rfl⟩
                      | _ => cases hd
              simp only [updAt] at h3
              cases ej : ixN ds.length k with
              | none => simp only [ej] at h3; cases h3
              | some j =>
                have ej2 : ixN vs.length k = some j := by rw [ek vs ds h2, ej]
                refine ⟨b, vs, k, j, rfl, (sr4.view rri e3).int, h1, ej2, ?_⟩
                simp only [ej2] at h4
                exact a σ _ F4 α2 h4 ⟨rfl, fun _ _ => rfl⟩ ((((sub1.trans sub2).trans sub3).trans sub3').trans sub4) (pr3.trans pr4)
            | _ =>
              exfalso
              cases ro with
              | ow d => cases e4
              | ln q =>
                unfold change at e4
                cases z : s4.sl[q]? with
                | none => simp only [z] at e4; cases e4
                | some y =>
                  cases y with
                  | ow d => cases d <;> simp [z, updAt] at e4
                  | _ => simp only [z] at e4; cases e4
              | fz d =>
                cases d with
                | obj n =>
                  unfold change at e4
                  cases z : s4.st[n]? with
                  | none => simp only [z] at e4; cases e4
                  | some y => cases y <;> simp [z, updAt] at e4
                | _ => cases e4
end

/-! ### while, its turns not told -/
open Classical in
noncomputable def gLoop (gc : EX) (body : SX) : SX := fun s => if h : ∃ n, whileF gc body n s ≠ .bad then whileF gc body (choose h) s else .bad
section
variable {X : Cx} {Γ : Ct} {B : Bs} {W : WX} {c : Expr} {gc : EX} {body : List Stmt} {g : SX} {pos : Pos}
theorem while_up {gc : EX} {g : SX} : ∀ {n : Nat} {s : S} (k : Nat), whileF gc g n s ≠ .bad → whileF gc g (n + k) s = whileF gc g n s
  | 0, s, k, h => absurd rfl h
  | n + 1, s, k, h => by
    rw [Nat.add_right_comm]
    unfold whileF at h ⊢
    cases e : toT gc s with
    | bad => rfl
    | ex x s1 => rfl
    | ok b s1 =>
      cases b with
      | false => rfl
      | true =>
        simp only [e] at h ⊢
        cases e2 : g s1 with
        | nx s2 => simp only [e2] at h ⊢; exact while_up k h
        | ct s2 => simp only [e2] at h ⊢; exact while_up k h
        | _ => rfl
theorem loop_is {gc : EX} {g : SX} {n : Nat} {s : S} {r : RS} (h : whileF gc g n s = r) (hr : r ≠ .bad) : gLoop gc g s = r := by
  have ex : ∃ n, whileF gc g n s ≠ .bad := ⟨n, by rw [h]; exact hr⟩
  have q := Classical.choose_spec ex
  unfold gLoop
  rw [dif_pos ex]
  have h1 := while_up n q
  have h2 := while_up (Classical.choose ex) (show whileF gc g n s ≠ .bad by rw [h]; exact hr)
  rw [Nat.add_comm] at h2
  rw [← h1, h2, h]
theorem s_loop (hp : PassesOwn (model X.prog X.w) X.A X.env X.xe) (hc : PT X c (tT Γ B W (toT gc))) (hb : PSs X body (tS Γ B W g)) : PS X (.While c body [] pos) (tS Γ B W (gLoop gc g)) :=
  (ps_while hp hc hb).imp fun D σ H ⟨η, F, α, s, sr, a⟩ => by
    unfold gLoop at a
    by_cases ex : ∃ n, whileF gc g n s ≠ .bad
    · rw [dif_pos ex] at a
      refine ⟨fun m σ' H' => ∃ F α s, SR Γ B η σ' H' F α s ∧ σ'.length = σ.length ∧ AftS Γ B W η F α σ.length D (whileF gc g m s), ⟨_, F, α, s, sr, rfl, a⟩, ?_⟩
      rintro m σ' H' ⟨F, α, s, sr, hl, a⟩
      refine ⟨η, F, α, s, sr, ?_⟩
      cases m with
      | zero => exact a.elim
      | succ m =>
        unfold whileF at a
        cases e : toT gc s with
        | bad => simp only [e] at a; exact a
        | ex x s1 => simp only [e] at a; exact fun H1 F1 α1 cls dd sr1 xr => a σ' H1 F1 α1 cls dd sr1 hl xr
        | ok b s1 =>
          intro H1 F1 α1 sr1 sub pr
          cases b with
          | false => simp only [e] at a; exact a σ' H1 F1 α1 sr1 hl sub pr
          | true =>
            simp only [e] at a
            have a := a.up sub pr
            refine ⟨fun σ2 H2 => ∃ F α s, SR Γ B η σ2 H2 F α s ∧ σ2.length = σ.length ∧ AftS Γ B W η F α σ.length D (whileF gc g m s), fun σ2 H2 q => ⟨m, Nat.lt_succ_self m, q⟩, η, F1, α1, s1, sr1, ?_⟩
            rw [hl]
            cases e2 : g s1 with
            | bad => simp only [e2] at a; exact a
            | ex x s4 => simp only [e2] at a; exact a
            | rt r s4 => simp only [e2] at a; exact a
            | bk s4 => simp only [e2] at a; exact a
            | nx s4 => simp only [e2] at a; exact fun σ4 H4 F4 α4 sr4 hl4 sub4 pr4 => ⟨F4, α4, s4, sr4, hl4, a.up sub4 pr4⟩
            | ct s4 => simp only [e2] at a; exact fun σ4 H4 F4 α4 sr4 hl4 sub4 pr4 => ⟨F4, α4, s4, sr4, hl4, a.up sub4 pr4⟩
    · rw [dif_neg ex] at a; exact a.elim
end

/-! ### raise C('..') -/
/-- what the written part says of an own class without an __init__ -/
structure ExK (Γ : Ct) (mg : Str → Option Value) (c : Str) : Prop where
  mg : mg c = some (.ref (Γ.cl c))
  ex : PySem.W.excIn Γ.K (Γ.cl c) [.type "ValueError", .type "Exception", .type "BaseException", .type "object"] "ValueError.__new__" = true
  kp : PySem.W.keepIn Γ.K (.ref (Γ.cl c)) = true
  sub : PySem.W.subIn Γ.K (.ref (Γ.cl c)) (.type "BaseException") = some true
  ty : PySem.W.typeIn Γ.K (.ref (Γ.cl c)) = some (.type "type")
def gRaise (c : Str) : SX := fun s => .ex ⟨c, []⟩ s
section
variable {X : Cx} {Γ : Ct} {B : Bs} {W : WX} {x m : Str} {j : Nat} {p p2 p3 pos : Pos}
theorem s_raise (hc : X.calm = true) (hK : Γ.K = X.K) (tk : L2N.Takes X W) (E : ExK Γ X.mg x) (hg : Gl X x) (hdb : (x == ("__debug__" : Str)) = false) : PS X (.Raise (some (.Call (.Name x p) [.Constant (.str m) j p2] [] pos)) none p3) (tS Γ B W (gRaise x)) :=
  (L2N.ps_raise hc tk (L2N.pmk_own PySem.F.excBase_ValueError (hK ▸ E.ex) E.mg (hK ▸ E.kp) (raises_own (hK ▸ E.sub) (hK ▸ E.ty)) hg hdb)).imp fun D σ H ⟨η, F, α, s, sr, a⟩ => a σ H F α _ _ sr rfl ⟨rfl, .inl ⟨rfl, rfl⟩⟩
end
end Fw

set_option Elab.async false
set_option linter.all false
set_option maxRecDepth 100000
set_option maxHeartbeats 1000000
/-! Fw12: xs[::-1], dict displays, calls by keyword, repr. -/
namespace Fw
open PySem PySem.Spec PyProof.Rows L2

/-! ### t[::-1] -/
section
variable {prog : Program} {w : World} {A : Around} {E : Value → Shared → Prop} {s : Shared}
theorem places_rev (n : Nat) : Builtin.Slice.slicePlaces ((n : Int) - 1) (-1) (-1) = n := by
  unfold Builtin.Slice.slicePlaces
  have h1 : ¬ ((-1 : Int) > 0) := by omega
  simp only [h1, if_false, Int.neg_neg, Int.ediv_one]
  split <;> omega
theorem pick_rev (xs : Array Value) : ((List.range xs.size).filterMap fun (m : Nat) => xs[(((xs.size : Int) - 1) + (m : Int) * (-1)).toNat]?).toArray = xs.toList.reverse.toArray := by
  congr 1
  apply List.ext_getElem?
  intro i
  have e : ∀ (f : Nat → Option Value) (n : Nat), (∀ m, m < n → (f m).isSome) → ∀ i, ((List.range n).filterMap f)[i]? = if i < n then f i else none := by
    intro f n
    induction n with
    | zero => intro _ i; simp
    | succ n ih =>
      intro h i
      have ih' := ih (fun m hm => h m (by omega))
      rw [List.range_succ, List.filterMap_append]
      obtain ⟨v, hv⟩ := Option.isSome_iff_exists.mp (h n (by omega))
      have hl : ((List.range n).filterMap f).length = n := by
        apply Nat.le_antisymm
        · have := List.length_filterMap_le f (List.range n); simpa using this
        · apply Nat.le_of_not_lt
          intro hlt
          have h1 := ih' ((List.range n).filterMap f).length
          rw [List.getElem?_eq_none (Nat.le_refl _), if_pos hlt] at h1
          have := h _ (show ((List.range n).filterMap f).length < n + 1 by omega)
          rw [← h1] at this; cases this
      have e1 : List.filterMap f [n] = [v] := by simp [hv]
      rw [e1, List.getElem?_append]
      rw [hl]
      by_cases c : i < n
      · rw [if_pos c, if_pos (by omega), ih', if_pos c]
      · rw [if_neg c]
        by_cases c2 : i = n
        · subst c2; simp [hv]
        · rw [if_neg (by omega)]
          rw [List.getElem?_eq_none (by simp; omega)]
  rw [e _ _ (fun m hm => by
    have : (((xs.size : Int) - 1) + (m : Int) * (-1)).toNat < xs.size := by omega
    rw [Array.getElem?_eq_getElem this]; rfl)]
  by_cases c : i < xs.size
  · rw [if_pos c, List.getElem?_reverse (by simpa using c)]
    have : (((xs.size : Int) - 1) + (i : Int) * (-1)).toNat = xs.size - 1 - i := by omega
    rw [this]
    simp
  · rw [if_neg c, List.getElem?_eq_none (by simp; omega)]
theorem applied_rev {sl : Addr} {t : Tok} {n : Nat} {Q : Int × Int × Nat → Shared → Prop} (hs : s.heap.IsSliceOf sl .none .none (.int (-1) t)) (h : Q ((n : Int) - 1, -1, n) s) : wpAny (model prog w) A (Builtin.Slice.sliceApplied (.ref sl) (pure (n : Int))) Q E s := by
  obtain ⟨os, hos, hcs, hds⟩ := id hs
  unfold Builtin.Slice.sliceApplied Builtin.Slice.sliceFields
  refine wpAny_bind (wpAny_bind (wpAny_field hos hds (x := .none) rfl (wpAny_bind (wpAny_field hos hds (x := .none) rfl (wpAny_bind (wpAny_field hos hds (x := .int (-1) t) rfl (wpAny_pure ?_)))))))
  refine wpAny_bind (HT.slicePart_ (.int (-1) t) ?_)
  show wpAny _ _ (if ((-1 : Int) == 0) = true then _ else _) _ _ s
  rw [if_neg (by decide)]
  refine wpAny_bind (HT.slicePart_ .none (wpAny_bind (HT.slicePart_ .none (wpAny_bind (wpAny_pure ?_)))))
  show wpAny _ _ (pure (((n : Int) - 1), (-1 : Int), Builtin.Slice.slicePlaces ((n : Int) - 1) (-1) (-1))) _ _ s
  rw [places_rev]
  exact wpAny_pure h
theorem item_tup_rev {t sl : Addr} {items : Array Value} {tk : Tok} {Q : Value → Shared → Prop} (ht : IsTup s.heap t items) (hs : s.heap.IsSliceOf sl .none .none (.int (-1) tk))
    (h : Q (.ref s.heap.objs.size) { s with heap := s.heap.push { cls := .type "tuple", data := .seq items.toList.reverse.toArray } }) (hsz : items.size ≤ sizeLine) : wpAny (model prog w) A (getItem (.ref t) (.ref sl)) Q E s := by
  have fits : sizeOk (.seq items.toList.reverse.toArray) := by
    show items.toList.reverse.toArray.size ≤ sizeLine
    simpa using hsz
  obtain ⟨os, hos, hcs, hds⟩ := id hs
  have hTs : s.TypeIs (.ref sl) "slice" := ⟨os, hos, hcs⟩
  unfold getItem
  try with_reducible refine wpAny_holding ?_
  first | refine wpAny_bind (wpAny_pure ?_) | skip
  refine wpAny_bind (wpAny_sequenceKey ht.typeIs (by decide) ?_)
  refine wpAny_bind (wpAny_callSpecial?_slot (name := Str.ofString "__getitem__") ht.typeIs PyProof.Rows.slot_tuple_getitem (wpAny_call_entry PyProof.Rows.slot_tuple_getitem ht.typeIs entry_tuple_getitem ?_ (args_tuple_getitem _ _)))
  show wpAny _ _ (Builtin.Tuple.tupleItemsOf (.ref t) >>= _) _ _ s
  refine wpAny_bind (tupleItemsOf_ ht ?_)
  refine wpAny_bind (wpAny_typeOf hTs ?_)
  rw [if_pos (by decide)]
  refine wpAny_bind (applied_rev hs ?_)
  show wpAny _ _ (if (((items.size : Int) - 1) == 0 && (-1 : Int) == 1 && items.size == items.size) = true then _ else _) _ _ s
  rw [if_neg (by rw [show ((-1 : Int) == 1) = false from rfl]; simp), pick_rev]
  first
    | exact wpAny_bind (m := Builtin.Tuple.tupleExact _) (wpAny_newObj_type (wpAny_pure ⟨_, rfl, wpAny_pure h⟩) fits)
    | exact wpAny_bind (m := Builtin.Tuple.tupleExact _) (wpAny_newObj_type (wpAny_bind (wpAny_pure (wpAny_pure ⟨_, rfl, wpAny_pure h⟩))) fits)
    | exact wpAny_bind (wpAny_bind (m := Builtin.Tuple.tupleExact _) (wpAny_newObj_type (wpAny_pure (wpAny_pure ⟨_, rfl, wpAny_pure h⟩)) fits))
    | exact wpAny_bind (wpAny_bind (m := Builtin.Tuple.tupleExact _) (wpAny_newObj_type (wpAny_pure ⟨_, rfl, wpAny_pure h⟩) fits))
end

def tRevT (K : PySem.W.Frag) (te : TE) : TE := fun σ H Q => te σ H fun x H1 => ∃ a xs, x = .ref a ∧ SqT K H1 a xs ∧ ∀ p, H1 p = none → Q (.ref p) (upd H1 p (.tup xs.reverse))
section
variable {X : Cx} {Γ : Ct} {B : Bs} {W : WX}
theorem pe_revT {e : Expr} {te : TE} {k : Nat} {p1 p2 p3 pos : Pos} (he : PE X e te) : PE X (.Subscript e (.Slice none none (some (.UnaryOp .USub (.Constant (.int 1) k p1) p2)) p3) pos) (tRevT X.K te) := by
  refine ⟨fun pins s σ H Q I h => ?_⟩
  refine Subscript_ (thn (he.run pins s σ H _ I h) fun v sA ⟨x, HA, IA, rA, a, xs, ex, hx, q⟩ => ?_)
  subst ex
  cases rA
  have step : PO X (some (.UnaryOp .USub (.Constant (.int 1) k p1) p2)) (tPart (tUn (rU fun i => .int (-i)) (tC (.int 1)))) := po_some (pe_un un_neg pe_int)
  refine wpAny_Slice (thn (po_none.run pins sA σ HA (fun o HB => o = none ∧ HB = HA) IA ⟨rfl, rfl⟩) fun vl sB ⟨l, HB, IB, pl, el, eB⟩ => ?_)
  subst el eB
  refine thn (po_none.run pins sB σ HB (fun o HC => o = none ∧ HC = HB) IB ⟨rfl, rfl⟩) fun vu sC ⟨u, HC, IC, pu, eu, eC⟩ => ?_
  subst eu eC
  refine thn (step.run pins sC σ HC (fun o HD => o = some (-1) ∧ HD = HC) IC ⟨1, rfl, -1, rfl, rfl, rfl⟩) fun vs sD ⟨o, HD, ID, ps, eo, eD⟩ => ?_
  subst eo eD
  cases pl
  cases pu
  cases ps with
  | int i tk =>
    have J : Inv X pins σ HD { sD with heap := sD.heap.push { cls := .type "slice", data := .fields #[.none, .none, .int (-1) tk] } } := ID.kept (t' := sD.toks) fun b ob z => Heap.get?_push_of_some _ z
    obtain ⟨its, r, ht, hz⟩ := J.tuple hx
    have hlen := r.length
    show wpAny (model X.prog X.w) X.A (subscriptTail e (.Slice none none (some (.UnaryOp .USub (.Constant (.int 1) k p1) p2)) p3) (.ref a) (.ref sD.heap.objs.size)) (EP X pins σ Q) X.xe { sD with heap := sD.heap.push { cls := .type "slice", data := .fields #[.none, .none, .int (-1) tk] } }
    refine tail_any (ops := [.ref a, .ref sD.heap.objs.size]) ht.typeIs (PyProof.Rows.slot_tuple_getitem.lookup) ?_ (by with_unfolding_all rfl)
    refine item_tup_rev ht (Heap.IsSliceOf.new _ .none .none (.int (-1) tk)) ?_ (by rw [List.size_toArray]; omega)
    refine ⟨.ref _, _, J.laid (t' := sD.toks) (o := .tup xs.reverse) (fun b ob z => Heap.get?_push_of_some _ z) (Nat.le_refl _) ?_, rfl, q _ (J.hok.fresh (Nat.le_refl _))⟩
    exact ⟨by rw [List.length_reverse]; exact hz, _, r.reverse, IsTup.new _ _⟩
def revD : D → Out
  | .lst xs => .nl xs.reverse
  | .tup xs => .nt xs.reverse
  | _ => .no
def gRev (g : EX) : EX := gUn revD g
theorem _root_.L2.PE.or {e : Expr} {t t' : TE} (h : PE X e t) (h' : PE X e t') : PE X e (fun σ H Q => t σ H Q ∨ t' σ H Q) := ⟨fun pins s σ H Q I q => q.elim (fun q => h.run pins s σ H Q I q) fun q => h'.run pins s σ H Q I q⟩
theorem rev_of {g : EX} {σ : L2.St} {H : Hp} {Q : VK} {K : PySem.W.Frag} (hK : Γ.K = K) (h : tX Γ B W (gRev g) σ H Q) : tRevL K (tX Γ B W g) σ H Q ∨ tRevT K (tX Γ B W g) σ H Q := by
  obtain ⟨η, F, α, s, sr, a⟩ := h
  have a : Aft Γ B W η σ F α Q ((g s).bind (lift1 revD)) := a
  have key : ∀ {H1 : Hp} {v : V} {F1 : Hp} {α1 : List Addr} {s1 : S} {r : RV}, SR Γ B η σ H1 F1 α1 s1 → RR Γ B η σ H1 F1 α1 s1 v r → ∀ d, look s1 r = some d → Aft Γ B W η σ F1 α1 Q (lift1 revD r s1) → VR Γ H1 F1 α1 v d ∧ Em Γ B H1 F1 α1 Q (revD d) := fun {H1 v F1 α1 s1 r} sr1 rr d e a1 => by
    unfold lift1 at a1
    simp only [e] at a1
    exact ⟨sr1.view rr e, η, σ, W, s1, sr1, a1⟩
  cases e : g s with
  | bad => rw [e] at a; exact a.elim
  | ex x s1 => exact .inl ⟨η, F, α, s, sr, by rw [e] at a ⊢; exact a⟩
  | ok r s1 =>
    rw [e] at a
    have a : Aft Γ B W η σ F α Q (lift1 revD r s1) := a
    cases e2 : look s1 r with
    | none => unfold lift1 at a; simp only [e2] at a; exact a.elim
    | some d =>
      cases d with
      | lst xs =>
        refine .inl ⟨η, F, α, s, sr, ?_⟩
        rw [e]
        intro H1 F1 α1 v sr1 sub pr rr
        obtain ⟨va, em⟩ := key sr1 rr _ e2 (a.up sub pr)
        obtain ⟨p, vs, rfl, q, r2⟩ := va.lst em.sub
        exact ⟨p, vs, rfl, .of q, em.nl r2.rev⟩
      | tup xs =>
        refine .inr ⟨η, F, α, s, sr, ?_⟩
        rw [e]
        intro H1 F1 α1 v sr1 sub pr rr
        obtain ⟨va, em⟩ := key sr1 rr _ e2 (a.up sub pr)
        obtain ⟨p, vs, rfl, q, r2⟩ := va.tup em.sub
        exact ⟨p, vs, rfl, hK ▸ q, em.nt r2.rev⟩
      | _ => unfold lift1 at a; simp only [e2] at a; exact a.elim
theorem x_rev {e : Expr} {g : EX} {k : Nat} {p1 p2 p3 pos : Pos} (hK : Γ.K = X.K) (he : PE X e (tX Γ B W g)) : PE X (.Subscript e (.Slice none none (some (.UnaryOp .USub (.Constant (.int 1) k p1) p2)) p3) pos) (tX Γ B W (gRev g)) :=
  ((pe_revL he).or (pe_revT he)).imp fun σ H Q h => rev_of hK h
end

/-! ### {} and {k: v, ..}, keys ints and texts -/
def keyD : D → Option Key
  | .int i => some (.inl i)
  | .str x => some (.inr x)
  | _ => none
def kD1 : Key → D
  | .inl i => .int i
  | .inr x => .str x
def putD (es : List (D × D)) (k : Key) (v : D) : List (D × D) := if es.any (fun e => keyD e.1 == some k) then es.map (fun e => if keyD e.1 == some k then (e.1, v) else e) else es ++ [(kD1 k, v)]
def gDic0 : EX := fun s => .ok (.ow (.dic [])) s
section
variable {X : Cx} {Γ : Ct} {B : Bs} {W : WX}
theorem x_dic0 {pos : Pos} : PE X (.Dict [] [] pos) (tX Γ B W gDic0) := pe_dnewK.imp fun σ H Q ⟨η, F, α, s, sr, a⟩ p hp => a _ F α _ (sr.newO hp) (Sub.refl F) List.prefix_rfl (sr.newN hp ⟨[], upd_same, .nil, .nil⟩)
end

/-- the pairs of a display -/
def gPairs : List (EX × EX) → S → R (List (D × D))
  | [], s => .ok [] s
  | (gk, gv) :: ps, s => match gk s with
    | .ok rk s1 => match settle rk.keep s1 with
      | some (k, s2) => match gv s2 with
        | .ok rv s3 => match settle rv.keep s3 with
          | some (v, s4) => match gPairs ps s4 with
            | .ok es s5 => .ok ((k, v) :: es) s5
            | .ex x s5 => .ex x s5
            | .bad => .bad
          | none => .bad
        | .ex x s3 => .ex x s3
        | .bad => .bad
      | none => .bad
    | .ex x s1 => .ex x s1
    | .bad => .bad
def keysD : List (D × D) → Option (List Key)
  | [] => some []
  | e :: es => match keyD e.1, keysD es with
    | some k, some ks => if ks.any (fun j => decide (j = k)) then none else some (k :: ks)
    | _, _ => none
def gDisp (ps : List (EX × EX)) : EX := fun s => match gPairs ps s with
  | .ok es s1 => match keysD es with
    | some _ => if decide (es.length ≤ 15) then .ok (.ow (.dic es)) s1 else .bad
    | none => .bad
  | .ex x s1 => .ex x s1
  | .bad => .bad
section
variable {X : Cx} {Γ : Ct} {B : Bs} {W : WX} {H F : Hp} {α : List Addr} {σ : L2.St} {η : List (Addr × D)} {s : S}
theorem key_is {v : V} {d : D} {k : Key} (r : Rep Γ.K F α v d) (e : keyD d = some k) : v = kV k ∧ d = kD1 k := by
  cases d with
  | int i => cases e; cases r; exact ⟨rfl, rfl⟩
  | str i => cases e; cases r; exact ⟨rfl, rfl⟩
  | _ => cases e
theorem merge_new : ∀ (more kvs : List (Key × V)), ((kvs ++ more).map (·.1)).Nodup → mergeK kvs more = kvs ++ more
  | [], kvs, _ => by simp [mergeK]
  | p :: more, kvs, h => by
    have hn : (kvs.any fun kv => decide (kv.1 = p.1)) = false := by
      rw [List.any_eq_false]
      intro q hq
      rw [List.map_append, List.nodup_append] at h
      have := h.2.2 q.1 (List.mem_map_of_mem hq) p.1 (by simp)
      simpa using this
    have e1 : putK kvs p.1 p.2 = kvs ++ [p] := by
      unfold putK
      rw [hn]; rfl
    show mergeK (putK kvs p.1 p.2) more = _
    rw [e1, merge_new more (kvs ++ [p]) (by simpa using h)]
    simp
inductive PPsX (X : Cx) (Γ : Ct) (B : Bs) (W : WX) : List (Option Expr) → List Expr → List (EX × EX) → Prop
  | nil : PPsX X Γ B W [] [] []
  | cons {k v : Expr} {ks : List (Option Expr)} {vs : List Expr} {gk gv : EX} {ps : List (EX × EX)} : PE X k (tX Γ B W gk) → PE X v (tX Γ B W gv) → PPsX X Γ B W ks vs ps → PPsX X Γ B W (some k :: ks) (v :: vs) ((gk, gv) :: ps)
theorem PPsX.pps {pos : Pos} {ks : List (Option Expr)} {vs : List Expr} {ps : List (EX × EX)} (h : PPsX X Γ B W ks vs ps) : PPs X pos ks vs (ps.map fun p => (tX Γ B W p.1, tX Γ B W p.2)) := by
  induction h with
  | nil => exact pps_nil
  | cons h1 h2 _ ih => exact pps_cons h1 h2 ih
theorem PPsX.some {ks : List (Option Expr)} {vs : List Expr} {ps : List (EX × EX)} (h : PPsX X Γ B W ks vs ps) : ks.all (·.isSome) = true ∧ ks.length = vs.length := by
  induction h with
  | nil => exact ⟨rfl, rfl⟩
  | cons h1 h2 _ ih => exact ⟨by simp [ih.1], by simp [ih.2]⟩
/-- the two halves of the pairs -/
inductive RPs (Γ : Ct) (F : Hp) (α : List Addr) : List (V × V) → List (D × D) → Prop
  | nil : RPs Γ F α [] []
  | cons {p : V × V} {e : D × D} {ps : List (V × V)} {es : List (D × D)} : Rep Γ.K F α p.1 e.1 → Rep Γ.K F α p.2 e.2 → RPs Γ F α ps es → RPs Γ F α (p :: ps) (e :: es)
def AftPs (Γ : Ct) (B : Bs) (W : WX) (η : List (Addr × D)) (σ : L2.St) (F : Hp) (α : List Addr) (Q : List (V × V) → Hp → Prop) : R (List (D × D)) → Prop
  | .bad => False
  | .ok es s' => ∀ H' F' α' ps, SR Γ B η σ H' F' α' s' → Sub F F' → α <+: α' → RPs Γ F' α' ps es → Q ps H'
  | .ex x s' => ∀ H' F' α' cls d, SR Γ B η σ H' F' α' s' → XR Γ B H' F' α' x cls d → W cls d σ H'
theorem pairs_of : ∀ {ps : List (EX × EX)} {H F : Hp} {α : List Addr} {s : S} {Q : List (V × V) → Hp → Prop}, SR Γ B η σ H F α s → AftPs Γ B W η σ F α Q (gPairs ps s) → tPairs (ps.map fun p => (tX Γ B W p.1, tX Γ B W p.2)) σ H Q
  | [], H, F, α, s, Q, sr, a => a H F α [] sr (Sub.refl F) List.prefix_rfl .nil
  | (gk, gv) :: ps, H, F, α, s, Q, sr, a => by
    refine ⟨η, F, α, s, sr, ?_⟩
    unfold gPairs at a
    show Aft Γ B W η σ F α _ (gk s)
    cases e1 : gk s with
    | bad => simp only [e1] at a; exact a
    | ex x s1 => simp only [e1] at a; exact a
    | ok rk s1 =>
      simp only [e1] at a
      intro H1 F1 α1 v sr1 sub1 pr1 rr1
      obtain ⟨F1', sub1', sr1', rr1'⟩ := sr1.keepR rr1
      cases e2 : settle rk.keep s1 with
      | none => simp only [e2] at a; exact a.elim
      | some p =>
        obtain ⟨dk, s2⟩ := p
        simp only [e2] at a
        obtain ⟨F2, sub2, sr2, rk2, _⟩ := settle_ok sr1' rr1' e2
        refine ⟨η, F2, α1, s2, sr2, ?_⟩
        show Aft Γ B W η σ F2 α1 _ (gv s2)
        cases e3 : gv s2 with
        | bad => simp only [e3] at a; exact a
        | ex x s3 => simp only [e3] at a; exact a
        | ok rv s3 =>
          simp only [e3] at a
          intro H3 F3 α3 w sr3 sub3 pr3 rr3
          obtain ⟨F3', sub3', sr3', rr3'⟩ := sr3.keepR rr3
          cases e4 : settle rv.keep s3 with
          | none => simp only [e4] at a; exact a.elim
          | some p =>
            obtain ⟨dv, s4⟩ := p
            simp only [e4] at a
            obtain ⟨F4, sub4, sr4, rv4, _⟩ := settle_ok sr3' rr3' e4
            have subA : Sub F F4 := ((((sub1.trans sub1').trans sub2).trans sub3).trans sub3').trans sub4
            have prA : α <+: α3 := pr1.trans pr3
            refine pairs_of (s := s4) sr4 ?_
            cases e5 : gPairs ps s4 with
            | bad => simp only [e5] at a; exact a
            | ex x s5 => simp only [e5] at a; exact a
            | ok es s5 =>
              simp only [e5] at a
              intro H5 F5 α5 qs sr5 sub5 pr5 rq
              exact a H5 F5 α5 ((v, w) :: qs) sr5 (subA.trans sub5) (prA.trans pr5) (.cons (rk2.up (((sub3.trans sub3').trans sub4).trans sub5) (pr3.trans pr5)) (rv4.up sub5 pr5) rq)
theorem keys_of : ∀ {ps : List (V × V)} {es : List (D × D)} {ks : List Key}, RPs Γ F α ps es → keysD es = some ks → ∃ kvs : List (Key × V), ps = kvs.map (fun kv => (kV kv.1, kv.2)) ∧ kvs.map (·.1) = ks ∧ ks.Nodup ∧ Reps Γ.K F α (kvs.map fun p => kV p.1) (es.map (·.1)) ∧ Reps Γ.K F α (kvs.map (·.2)) (es.map (·.2)) ∧ kvs.length = es.length
  | _, _, _, .nil, e => by cases e; exact ⟨[], rfl, rfl, List.nodup_nil, .nil, .nil, rfl⟩
  | _, _, _, .cons (p := p) (e := e0) (es := es) h1 h2 r, e => by
    simp only [keysD] at e
    cases q : keyD e0.1 with
    | none => simp only [q] at e; cases e
    | some k =>
      cases q2 : keysD es with
      | none => simp only [q, q2] at e; cases e
      | some ks =>
        simp only [q, q2] at e
        split at e
        · cases e
        · next c =>
          cases e
          obtain ⟨kvs, rfl, e2, nd, r1, r2, hl⟩ := keys_of r q2
          obtain ⟨e3, e4⟩ := key_is h1 q
          have h1' : Rep Γ.K F α (kV k) e0.1 := by rw [← e3]; exact h1
          have c' : k ∉ ks := fun z => c (List.any_eq_true.mpr ⟨k, z, decide_eq_true rfl⟩)
          refine ⟨(k, p.2) :: kvs, ?_, by simp [e2], List.nodup_cons.mpr ⟨c', nd⟩, .cons h1' r1, .cons h2 r2, by simp [hl]⟩
          rw [List.map_cons, ← e3]
theorem x_disp {pos : Pos} {k : Expr} {ks : List (Option Expr)} {v : Expr} {vs : List Expr} {ps : List (EX × EX)} (h : PPsX X Γ B W (some k :: ks) (v :: vs) ps) (h15 : (some k :: ks).length ≤ 15) : PE X (.Dict (some k :: ks) (v :: vs) pos) (tX Γ B W (gDisp ps)) :=
  (pe_disp h.pps h.some.1 h.some.2 (by simp) h15).imp fun σ H Q ⟨η, F, α, s, sr, a⟩ p hp => by
    obtain ⟨p', ep, sr2⟩ := (sr.newO (o := .dK []) hp).hold (sr.newN hp (d := .dic []) ⟨[], upd_same, .nil, .nil⟩)
    cases ep
    refine pairs_of sr2 ?_
    unfold gDisp at a
    cases e : gPairs ps s with
    | bad => rw [e] at a; exact a
    | ex x s1 => rw [e] at a; exact fun H' F' α' cls d sr' => a H' F' α' cls d (SR.weak (e := [(p, .dic [])]) sr')
    | ok es s1 =>
      rw [e] at a
      cases e2 : keysD es with
      | none => simp only [e2] at a; exact a.elim
      | some kk =>
        simp only [e2] at a
        split at a
        · next c =>
          intro H1 F1 α1 qs sr1 sub1 pr1 rq
          obtain ⟨kvs, rfl, e3, nd, r1, r2, hl⟩ := keys_of rq e2
          obtain ⟨kv0, q0, q1, q2⟩ := (sr1.hid (p, .dic []) List.mem_cons_self).own
          have hk0 : kv0 = [] := List.eq_nil_of_length_eq_zero (by have := q1.len; simpa using this)
          subst hk0
          refine ⟨q0, kvs, rfl, by rw [hl]; exact of_decide_eq_true c, ?_⟩
          have em : mergeK [] kvs = kvs := merge_new kvs [] (by rw [List.nil_append, e3]; exact nd)
          rw [em]
          have sr3 := sr1.mutHid (o' := .dK kvs) (d' := .dic es) ⟨kvs, upd_same, r1, r2⟩
          obtain ⟨u1, u2⟩ := sr3.unhold
          exact a _ F1 α1 _ u1 sub1 pr1 u2
        · exact a.elim
end
end Fw

set_option Elab.async false
set_option linter.all false
set_option maxRecDepth 100000
set_option maxHeartbeats 1000000
/-! Fw13: repr; defs known by name; calls by keyword. -/
namespace Fw
open PySem PySem.Spec PyProof.Rows L2

/-! ### repr -/
mutual
def toR : D → Option PyData
  | .non => some .none
  | .bl b => some (.bool b)
  | .int i => some (.int i)
  | .str x => some (.str x)
  | .tup ds => match toRs ds with
    | some ps => some (.tuple ps)
    | none => none
  | .lst ds => match toRs ds with
    | some ps => some (.list ps)
    | none => none
  | .dic es => match toRe es with
    | some ps => some (.dict ps)
    | none => none
  | .obj _ => none
  | .scr _ => none
  | .ty _ => none
  | .exc _ => none
  | .exf _ _ _ => none
def toRs : List D → Option (List PyData)
  | [] => some []
  | d :: ds => match toR d, toRs ds with
    | some p, some ps => some (p :: ps)
    | _, _ => none
def toRe : List (D × D) → Option (List (PyData × PyData))
  | [] => some []
  | (k, v) :: es => match toR k, toR v, toRe es with
    | some p, some q, some ps => some ((p, q) :: ps)
    | _, _, _ => none
end
mutual
def noLst : D → Bool
  | .tup ds => noLsts ds
  | .lst _ => false
  | .dic es => noLste es
  | _ => true
def noLsts : List D → Bool
  | [] => true
  | d :: ds => noLst d && noLsts ds
def noLste : List (D × D) → Bool
  | [] => true
  | (k, v) :: es => noLst k && noLst v && noLste es
end
theorem toRe_maps : ∀ {es : List (D × D)} {ps : List (PyData × PyData)}, toRe es = some ps → toRs (es.map (·.1)) = some (ps.map (·.1)) ∧ toRs (es.map (·.2)) = some (ps.map (·.2)) ∧ (noLste es = true → noLsts (es.map (·.1)) = true ∧ noLsts (es.map (·.2)) = true)
  | [], _, e => by cases e; exact ⟨rfl, rfl, fun _ => ⟨rfl, rfl⟩⟩
  | (k, v) :: es, ps, e => by
    unfold toRe at e
    cases q1 : toR k with
    | none => simp only [q1] at e; cases e
    | some p =>
      cases q2 : toR v with
      | none => simp only [q1, q2] at e; cases e
      | some q =>
        cases q3 : toRe es with
        | none => simp only [q1, q2, q3] at e; cases e
        | some rs =>
          simp only [q1, q2, q3, Option.some.injEq] at e
          subst e
          obtain ⟨h1, h2, h3⟩ := toRe_maps q3
          refine ⟨by simp [toRs, q1, h1], by simp [toRs, q2, h2], fun z => ?_⟩
          simp only [noLste, Bool.and_eq_true] at z
          obtain ⟨z1, z2⟩ := h3 z.2
          exact ⟨by simp [noLsts, z.1.1, z1], by simp [noLsts, z.1.2, z2]⟩
section
variable {X : Cx} {pins : List (Addr × Obj)} {σ : L2.St} {H F : Hp} {s : Shared} {α : List Addr} {K : PySem.W.Frag}
theorem pairs_reads : ∀ {kvs : List (Key × V)} {vs : List (Key × Value)} {es : List DictEntry}, KV kvs vs → Pairs (mixKind X.prog X.w) es vs → Vals (kvs.map fun p => kV p.1) (es.map (·.key)) ∧ Vals (kvs.map (·.2)) (es.map (·.val)) := by
  intro kvs vs es r p
  induction p generalizing kvs with
  | nil => cases r; exact ⟨.nil, .nil⟩
  | @cons e kv es' kvs' h1 h2 h3 ih =>
    cases r with
    | @cons a b as bs h t =>
      obtain ⟨i1, i2⟩ := ih t
      have hk : RelV (kV a.1) e.key := by
        rw [h.1]
        rcases keyIs_shape (show keyIs kv.1 e.key = true from h1) with ⟨i, t, e1, e2⟩ | ⟨x, t, e1, e2⟩
        · rw [e1, e2]; exact ⟨t, rfl⟩
        · rw [e1, e2]; exact ⟨t, rfl⟩
      exact ⟨.cons hk i1, .cons (show L2.RelV a.2 e.val by rw [h2]; exact h.2) i2⟩
mutual
theorem Rep.rds (I : Inv X pins σ H s) (hK : K = X.K) (g : Sub F H) : ∀ {v : V} {d : D} {p : PyData} {u : Value}, Rep K F α v d → toR d = some p → RelV v u → ∃ as, Reads s.heap u p as ∧ (noLst d = true → sysModules ∉ as)
  | _, _, _, _, .non, e, r => by cases e; cases r; exact ⟨_, .none, fun _ => List.not_mem_nil⟩
  | _, _, _, _, .bl b, e, r => by cases e; cases r; exact ⟨_, .bool b, fun _ => List.not_mem_nil⟩
  | _, _, _, _, .int b, e, r => by cases e; obtain ⟨t, rfl⟩ := r; exact ⟨_, .int b t, fun _ => List.not_mem_nil⟩
  | _, _, _, _, .str b, e, r => by cases e; obtain ⟨t, rfl⟩ := r; exact ⟨_, .str b t, fun _ => List.not_mem_nil⟩
  | _, _, _, _, .tup (ds := ds) h t, e, r => by
    unfold toR at e
    cases q : toRs ds with
    | none => simp only [q] at e; cases e
    | some ps =>
      simp only [q, Option.some.injEq] at e
      subst e
      cases r
      obtain ⟨its, rv, ⟨o, ho, hc, n, hd⟩, _⟩ := I.tuple (hK ▸ g.t h)
      obtain ⟨as, hr, hn⟩ := Reps.rds I hK g t q rv
      exact ⟨_, .tuple ho hc hd hr, fun z => hn z⟩
  | _, _, _, _, .lst (ds := ds) h t, e, r => by
    unfold toR at e
    cases q : toRs ds with
    | none => simp only [q] at e; cases e
    | some ps =>
      simp only [q, Option.some.injEq] at e
      subst e
      cases r
      obtain ⟨its, rv, ⟨o, n, ho, hc, _, hd⟩, _⟩ := I.list (X := X) (.inl (.inl (g _ _ h)))
      obtain ⟨as, hr, hn⟩ := Reps.rds I hK g t q rv
      exact ⟨_, .list ho hc hd hr, fun z => by cases z⟩
  | _, _, _, _, .scr _, e, _ => by cases e
  | _, _, _, _, .obj _, e, _ => by cases e
  | _, _, _, _, .ty _, e, _ => by cases e
  | _, _, _, _, .exc _, e, _ => by cases e
  | _, _, _, _, .dic (es := es) h t t', e, r => by
    unfold toR at e
    cases q : toRe es with
    | none => simp only [q] at e; cases e
    | some ps =>
      simp only [q, Option.some.injEq] at e
      subst e
      cases r
      obtain ⟨q1, q2, q3⟩ := toRe_maps q
      obtain ⟨_, hd, vs, kv, o, ens, ep, ho, hx, hdt, _, hp, _⟩ := dk_rd I.hok (g.rd h)
      obtain ⟨v1, v2⟩ := pairs_reads (X := X) kv hp
      obtain ⟨as, r1, n1⟩ := Reps.rds I hK g t q1 v1
      obtain ⟨bs, r2, n2⟩ := Reps.rds I hK g t' q2 v2
      refine ⟨_, .dict ho hx.1 hdt r1 r2, fun z => ?_⟩
      obtain ⟨z1, z2⟩ := q3 z
      intro hm
      rcases List.mem_cons.mp hm with hm | hm
      · exact absurd hm (beq_eq_false_iff_ne.mp hd).symm
      · rcases List.mem_append.mp hm with hm | hm
        · exact n1 z1 hm
        · exact n2 z2 hm
theorem Reps.rds (I : Inv X pins σ H s) (hK : K = X.K) (g : Sub F H) : ∀ {vs : List V} {ds : List D} {ps : List PyData} {us : List Value}, Reps K F α vs ds → toRs ds = some ps → Vals vs us → ∃ as, ReadsAll s.heap us ps as ∧ (noLsts ds = true → sysModules ∉ as)
  | _, _, _, _, .nil, e, r => by cases e; cases r; exact ⟨_, .nil, fun _ => List.not_mem_nil⟩
  | _, _, _, _, .cons (d := d) (ds := ds) h t, e, r => by
    unfold toRs at e
    cases q : toR d with
    | none => simp only [q] at e; cases e
    | some p =>
      cases q2 : toRs ds with
      | none => simp only [q, q2] at e; cases e
      | some ps =>
        simp only [q, q2, Option.some.injEq] at e
        subst e
        cases r with
        | cons r1 r2 =>
          obtain ⟨as, h1, n1⟩ := Rep.rds I hK g h q r1
          obtain ⟨bs, h2, n2⟩ := Reps.rds I hK g t q2 r2
          refine ⟨_, .cons h1 h2, fun z => ?_⟩
          simp only [noLsts, Bool.and_eq_true] at z
          intro hm
          rcases List.mem_append.mp hm with hm | hm
          · exact n1 z.1 hm
          · exact n2 z.2 hm
end
end
def reprS (d : D) : Option Str := match toR d with
  | some p => if p.showable && sz p.shown.length && (!p.hasDict || noLst d) && decide (p.depth ≤ 60) then some p.shown else none
  | none => none
def reprD : List D → Out
  | [d] => match reprS d with
    | some x => .val (.str x)
    | none => .no
  | _ => .no
section
variable {X : Cx} {Γ : Ct} {B : Bs} {H F : Hp} {α : List Addr} {v : V} {d : D}
/-- a value in the hand, shared or nobody's, read as data -/
theorem VR.rds {pins : List (Addr × Obj)} {σ : L2.St} {s : Shared} {p : PyData} {u : Value} (I : Inv X pins σ H s) (hK : Γ.K = X.K) (g : Sub F H) (h : VR Γ H F α v d) (e : toR d = some p) (r : RelV v u) : ∃ as, Reads s.heap u p as ∧ (noLst d = true → sysModules ∉ as) := by
  rcases h with h | ⟨a, rfl, n⟩
  · exact h.rds I hK g e r
  · -- as if it were shared
    obtain ⟨o, ho, hm⟩ := n.mut
    have key : Rep Γ.K H α (.ref a) d := by
      cases d with
      | lst ds => obtain ⟨vs, q, r⟩ := n; exact .lst q (r.up g List.prefix_rfl)
      | dic es => obtain ⟨kvs, q, r, r'⟩ := n; exact .dic (.of q) (r.up g List.prefix_rfl) (r'.up g List.prefix_rfl)
      | _ => exact n.elim
    exact key.rds I hK (Sub.refl H) e r
theorem c_repr (hK : Γ.K = X.K) (hg : X.A.guards = some []) (hu : X.A.units + 65 < cLine) : CallR X (.builtin "repr") (rDN Γ B reprD) := fun pins s σ H vs us Q I r h => by
  obtain ⟨F, α, ds, vr, em⟩ := h
  rcases ds with _ | ⟨a, _ | ⟨b, t⟩⟩
  · exact em.no.elim
  · obtain ⟨v, rfl, va⟩ := vr.one
    simp only [reprD] at em
    unfold reprS at em
    cases e : toR a with
    | none => simp only [e] at em; exact em.no.elim
    | some p =>
      simp only [e] at em
      by_cases c : (p.showable && sz p.shown.length && (!p.hasDict || noLst a) && decide (p.depth ≤ 60)) = true
      · rw [if_pos c] at em
        simp only [Bool.and_eq_true, Bool.or_eq_true, Bool.not_eq_true', decide_eq_true_eq] at c
        obtain ⟨⟨⟨c1, c2⟩, c3⟩, c4⟩ := c
        have c2 := szE.mp c2
        obtain ⟨u, rfl, ru⟩ := r.one
        have q : Q (.str p.shown) H := em.val (.str _)
        obtain ⟨as, rd, hn⟩ := va.rds I hK em.sub e ru
        cases rd with
        | none => exact PySem.P.repr_of_none ⟨.str _, H, I.tok _, ⟨_, rfl⟩, q⟩
        | bool b => exact PySem.P.repr_of_bool ⟨.str _, H, I.tok _, ⟨_, rfl⟩, q⟩
        | int i t => exact PySem.P.repr_of_int (by simpa [PyData.showable] using c1) ⟨.str _, H, I.tok _, ⟨_, rfl⟩, q⟩
        | str x t => exact PySem.P.repr_of_str ⟨.str _, H, I.tok _, ⟨_, rfl⟩, q⟩ c2
        | list h1 h2 h3 h4 =>
          exact repr_of_reads' (.list h1 h2 h3 h4) c1 (fun hd => by
            rcases c3 with c3 | c3
            · rw [c3] at hd; cases hd
            · exact hn c3) hg (by omega) (fun _ _ e => e) (fun h' u tk hk => ⟨.str _, H, I.kept (t' := tk) hk, ⟨u, rfl⟩, q⟩) c2
        | tuple h1 h2 h3 h4 =>
          exact repr_of_reads' (.tuple h1 h2 h3 h4) c1 (fun hd => by
            rcases c3 with c3 | c3
            · rw [c3] at hd; cases hd
            · exact hn c3) hg (by omega) (fun _ _ e => e) (fun h' u tk hk => ⟨.str _, H, I.kept (t' := tk) hk, ⟨u, rfl⟩, q⟩) c2
        | dict h1 h2 h3 h4 h5 =>
          exact repr_of_reads' (.dict h1 h2 h3 h4 h5) c1 (fun hd => by
            rcases c3 with c3 | c3
            · rw [c3] at hd; cases hd
            · exact hn c3) hg (by omega) (fun _ _ e => e) (fun h' u tk hk => ⟨.str _, H, I.kept (t' := tk) hk, ⟨u, rfl⟩, q⟩) c2
      · rw [if_neg c] at em; exact em.no.elim
  · exact em.no.elim
end
end Fw

set_option Elab.async false
set_option linter.all false
set_option maxRecDepth 100000
set_option maxHeartbeats 1000000
/-! Fw14: comparisons as tests; defs known by name; rules in short. -/
namespace Fw
open PySem PySem.Spec PyProof.Rows L2

/-! ### comparisons as tests -/
theorem cmpD_bl (op : CmpOp) (a b : D) : cmpD op a b = .no ∨ ∃ k, cmpD op a b = .val (.bl k) := by
  have ord : ∀ f : Int → Int → Bool, ordD f a b = .no ∨ ∃ k, ordD f a b = .val (.bl k) := fun f => by
    unfold ordD
    split
    · exact .inr ⟨_, rfl⟩
    · exact .inl rfl
  have is : ∀ f : Bool → Bool, isG f a b = .no ∨ ∃ k, isG f a b = .val (.bl k) := fun f => by
    unfold isG
    split
    · exact .inr ⟨_, rfl⟩
    · exact .inl rfl
  cases op with
  | Eq => show eqD a b = _ ∨ ∃ k, eqD a b = _; unfold eqD; split <;> first | exact .inr ⟨_, rfl⟩ | exact .inl rfl
  | NotEq => show neD a b = _ ∨ ∃ k, neD a b = _; unfold neD; split <;> first | exact .inr ⟨_, rfl⟩ | exact .inl rfl
  | Lt => exact ord _
  | LtE => exact ord _
  | Gt => exact ord _
  | GtE => exact ord _
  | In => show inD a b = _ ∨ ∃ k, inD a b = _; unfold inD; split <;> first | exact .inr ⟨_, rfl⟩ | exact .inl rfl
  | NotIn => show notInD a b = _ ∨ ∃ k, notInD a b = _; unfold notInD; split <;> first | exact .inr ⟨_, rfl⟩ | exact .inl rfl
  | Is => exact is _
  | IsNot => exact is _
theorem lift2_bl {op : CmpOp} {ra rb r : RV} {s s' : S} (e : lift2 (cmpD op) ra rb s = .ok r s') : ∃ k, r = .fz (.bl k) := by
  unfold lift2 at e
  cases e1 : look s ra with
  | none => simp only [e1] at e; cases e
  | some a =>
    cases e2 : look s rb with
    | none => simp only [e1, e2] at e; cases e
    | some b =>
      simp only [e1, e2] at e
      rcases cmpD_bl op a b with h | ⟨k, h⟩
      · rw [h] at e; cases e
      · rw [h] at e; cases e; exact ⟨k, rfl⟩
theorem bind_ok {β γ : Type} {x : R β} {k : β → S → R γ} {r : γ} {s' : S} (e : x.bind k = .ok r s') : ∃ b s, x = .ok b s ∧ k b s = .ok r s' := by
  cases x with
  | ok b s => exact ⟨b, s, rfl, e⟩
  | ex _ _ => cases e
  | bad => cases e
section
variable {X : Cx} {Γ : Ct} {B : Bs} {W : WX} {ga gb gc : EX} {a b c : Expr} {pos : Pos} {σ : L2.St} {H : Hp}
theorem tT_bl {g : EX} {Q : Bool → Hp → Prop} (hb : ∀ s r s', g s = .ok r s' → ∃ k, r = .fz (.bl k)) (h : tT Γ B W (toT g) σ H Q) : tX Γ B W g σ H fun x H' => ∃ k, x = .bl k ∧ Q k H' := by
  obtain ⟨η, F, α, s, sr, a⟩ := h
  refine ⟨η, F, α, s, sr, ?_⟩
  unfold toT at a
  cases e : g s with
  | bad => rw [e] at a; exact a
  | ex x s1 => rw [e] at a; exact a
  | ok r s1 =>
    rw [e] at a
    obtain ⟨k, rfl⟩ := hb s r s1 e
    intro H1 F1 α1 v sr1 sub pr rr
    cases rr
    exact ⟨k, rfl, a H1 F1 α1 sr1 sub pr⟩
theorem y_cmp {op : CmpOp} (ho : OpR X (compareOp op) (rD Γ B (cmpD op))) (ha : PE X a (tX Γ B W ga)) (hb : PE X b (tX Γ B W gb)) (hm : behindInMarks op b = false) : PT X (.Compare a [op] [b] pos) (tT Γ B W (toT (gBin (lift2 (cmpD op)) ga gb))) :=
  (pt_cmpR ho ha hb hm).imp fun σ H Q h => (tX_bin (tT_bl (fun s r s' e => by
    obtain ⟨ra, s1, _, e1⟩ := bind_ok e
    obtain ⟨rb, s2, _, e2⟩ := bind_ok e1
    exact lift2_bl e2) h)).mono fun v H1 h1 => h1.mono fun w H2 h2 => h2.rD
theorem y_chain {op op' : CmpOp} (ho : OpR X (compareOp op) (rD Γ B (cmpD op))) (ho' : OpR X (compareOp op') (rD Γ B (cmpD op'))) (ha : PE X a (tX Γ B W ga)) (hb : PE X b (tX Γ B W gb)) (hc : PE X c (tX Γ B W gc))
    (hm : lastMarks [op, op'] [b, c] = false) : PT X (.Compare a [op, op'] [b, c] pos) (tT Γ B W (toT (gChain (cmpD op) (cmpD op') ga gb gc))) :=
  (pt_chain ho ho' ha hb hc hm).imp fun σ H Q h => tChain_of (tT_bl (fun s r s' e => by
    obtain ⟨ra, s1, _, e1⟩ := bind_ok e
    obtain ⟨rb, s2, _, e2⟩ := bind_ok e1
    obtain ⟨z, s3, _, e3⟩ := bind_ok e2
    split at e3
    · obtain ⟨rc, s4, _, e4⟩ := bind_ok e3
      exact lift2_bl e4
    · cases e3; exact ⟨_, rfl⟩
    · cases e3) h)
end

/-! ### defs known by name -/
structure Kno (P : Program) (w : World) (Γ : Ct) (mg : Str → Option Value) (base : Heap) (x : Str) (ps : List Str) (d : Nat) (fn : Fn) : Prop where
  ex : ∃ f fd, FnOk P w Γ.K mg base (L2N.CX P w) d f fd ps (spD Γ ps.length fn) ∧ mg x = some (.ref f) ∧ PySem.W.keepIn Γ.K (.ref f) = true ∧ Binds Γ.K fd ps []
structure KnoK (P : Program) (w : World) (Γ : Ct) (mg : Str → Option Value) (base : Heap) (x : Str) (ps ks : List Str) (d : Nat) (fn : Fn) : Prop where
  ex : ∃ f fd, FnOk P w Γ.K mg base (L2N.CX P w) d f fd ps (spD Γ ps.length fn) ∧ mg x = some (.ref f) ∧ PySem.W.keepIn Γ.K (.ref f) = true ∧ KBinds Γ.K fd ps ks (fun us ws => us ++ ws) (fun vs zs => vs ++ zs)
theorem fn_weak {Γ : Ct} {fn fn' : Fn} {P : Program} {w : World} {mg : Str → Option Value} {base : Heap} {d : Nat} {f : Addr} {fd : FuncData} {ps : List Str} (h : ∀ ds st, fn' ds st ≠ .bad → fn ds st = fn' ds st)
    (F : FnOk P w Γ.K mg base (L2N.CX P w) d f fd ps (spD Γ ps.length fn)) : FnOk P w Γ.K mg base (L2N.CX P w) d f fd ps (spD Γ ps.length fn') :=
  F.imp fun vs H Q E ⟨hl, F', α, st, ds, g, r, a⟩ => ⟨hl, F', α, st, ds, g, r, by
    cases e : fn' ds st with
    | bad => rw [e] at a; exact a.elim
    | ok r s => rw [h ds st (by rw [e]; exact fun z => nomatch z), e]; rw [e] at a; exact a
    | ex x s => rw [h ds st (by rw [e]; exact fun z => nomatch z), e]; rw [e] at a; exact a⟩
theorem Kno.weak {P : Program} {w : World} {Γ : Ct} {mg : Str → Option Value} {base : Heap} {x : Str} {ps : List Str} {d : Nat} {fn fn' : Fn} (K : Kno P w Γ mg base x ps d fn) (h : ∀ ds st, fn' ds st ≠ .bad → fn ds st = fn' ds st) : Kno P w Γ mg base x ps d fn' :=
  let ⟨f, fd, F, r⟩ := K.ex
  ⟨f, fd, fn_weak h F, r⟩
/-- what is the same at each place of a def's body -/
structure XO (X : Cx) (Γ : Ct) (W : WX) (k : Nat) : Prop where
  hK : Γ.K = X.K
  calm : X.calm = true
  nd : X.N.Nodup
  room : Room k X.A
  tk : L2N.Takes X W
section
variable {X : Cx} {Γ : Ct} {B : Bs} {W : WX} {k d : Nat} {ga gb gc g go gi : EX} {gs : List EX} {a b c e o : Expr} {es : List Expr} {pos p : Pos} {x : Str}
theorem XO.hu (o : XO X Γ W k) : X.A.units + 65 < cLine := by have := o.room.un; omega
theorem XO.blk (o : XO X Γ W k) (s : Shared) (H : Hp) (scope : Scope) (ce : Env) (fp : List Addr) : XO (X.blk s H scope ce fp) Γ W0 k := ⟨o.hK, o.calm, o.nd, o.room, takes00⟩
theorem xo_of {P : Program} {w : World} {mg : Str → Option Value} {base : Heap} {N : List Str} {qual : Str} {scope : Scope} {f : Addr} {cdv : Value} {A : Around} {outer : List Env} {s : Shared} {H : Hp} {E : XK} (nd : N.Nodup) (hr : Room k (A.deeper (envOfC qual scope s.heap.objs.size f cdv))) :
    XO (cxOf (L2N.CX P w) P w Γ.K mg base N qual scope f cdv A outer s H E) Γ (fun cls d _ H => E cls d H) k := ⟨rfl, rfl, nd, hr, L2N.takes_of rfl rfl rfl rfl⟩
/-! #### expressions -/
theorem ev (i : Nat) (hN : X.N[i]? = some x := by rfl) (hv : Vis X.env.scope x := by first | exact Or.inl rfl | exact Or.inr (Or.inl rfl) | exact Or.inr (Or.inr rfl)) (hd : (x == ("__debug__" : Str)) = false := by decide)
    (hcd : (x == ("__classdict__" : Str)) = false := by decide) : PE X (.Name x pos) (tX Γ B W (gVar i)) := x_var hN hv hd hcd
theorem eb {op : Operator} (O : XO X Γ W k) (ha : PE X a (tX Γ B W ga)) (hb : PE X b (tX Γ B W gb)) : PE X (.BinOp a op b pos) (tX Γ B W (gBin (lift2 (binD op)) ga gb)) := x_bin (o_bin O.hK op) ha hb
theorem ec {op : CmpOp} (O : XO X Γ W k) (ha : PE X a (tX Γ B W ga)) (hb : PE X b (tX Γ B W gb)) (hm : behindInMarks op b = false := by first | exact nomark _ | with_unfolding_all rfl) : PE X (.Compare a [op] [b] pos) (tX Γ B W (gBin (lift2 (cmpD op)) ga gb)) := x_cmp (o_cmp O.hK O.hu op) ha hb hm
theorem yc {op : CmpOp} (O : XO X Γ W k) (ha : PE X a (tX Γ B W ga)) (hb : PE X b (tX Γ B W gb)) (hm : behindInMarks op b = false := by first | exact nomark _ | with_unfolding_all rfl) : PT X (.Compare a [op] [b] pos) (tT Γ B W (toT (gBin (lift2 (cmpD op)) ga gb))) := y_cmp (o_cmp O.hK O.hu op) ha hb hm
theorem ecc {op op' : CmpOp} (O : XO X Γ W k) (ha : PE X a (tX Γ B W ga)) (hb : PE X b (tX Γ B W gb)) (hc : PE X c (tX Γ B W gc)) (hm : lastMarks [op, op'] [b, c] = false := by with_unfolding_all rfl) :
    PE X (.Compare a [op, op'] [b, c] pos) (tX Γ B W (gChain (cmpD op) (cmpD op') ga gb gc)) := x_chain (o_cmp O.hK O.hu op) (o_cmp O.hK O.hu op') ha hb hc hm
theorem ycc {op op' : CmpOp} (O : XO X Γ W k) (ha : PE X a (tX Γ B W ga)) (hb : PE X b (tX Γ B W gb)) (hc : PE X c (tX Γ B W gc)) (hm : lastMarks [op, op'] [b, c] = false := by with_unfolding_all rfl) :
    PT X (.Compare a [op, op'] [b, c] pos) (tT Γ B W (toT (gChain (cmpD op) (cmpD op') ga gb gc))) := y_chain (o_cmp O.hK O.hu op) (o_cmp O.hK O.hu op') ha hb hc hm
def negD : D → Out
  | .int i => .val (.int (-i))
  | _ => .no
theorem u_neg : UnR X (unaryOp .USub) (rD1 Γ B negD) := fun pins s σ H x v Q I rx ⟨F, α, a, va, em⟩ => by
  cases a with
  | int i => exact un_neg pins s σ H x v Q I rx ⟨i, va.int, em.val (.int _)⟩
  | _ => exact em.no.elim
theorem en (ha : PE X a (tX Γ B W ga)) : PE X (.UnaryOp .USub a pos) (tX Γ B W (gUn negD ga)) := x_un u_neg ha
theorem eix (O : XO X Γ W k) (ha : PE X a (tX Γ B W ga)) (hb : PE X b (tX Γ B W gb)) (hs : PlainIx b := by intro _ _; rfl) : PE X (.Subscript a b pos) (tX Γ B W (gBin (lift2 atD) ga gb)) := x_ix O.hK ha hb hs
theorem an : PA X [] (tV Γ B W (gArgs [])) := a_nil
theorem ac (ha : PE X e (tX Γ B W g)) (hr : PA X es (tV Γ B W (gArgs gs))) (hs : starEach (e :: es) X.env = (false, eval e X.env) :: starEach es X.env := by rfl) : PA X (e :: es) (tV Γ B W (gArgs (g :: gs))) := a_cons hs ha hr
theorem ecb {id : String} {f : List D → Out} (hc : CallR X (.builtin id) (rDN Γ B f)) (hm : X.mg x = none) (ha : PA X (e :: es) (tV Γ B W (gArgs (g :: gs)))) (hg : Gl X x := by rfl) (hv : bootBuiltins x = some (.builtin id) := by first | rfl | kernel_rfl)
    (hn : x ≠ "__name__" := by decide) (hdb : (x == ("__debug__" : Str)) = false := by decide) (he : starEach (e :: es) X.env = (false, eval e X.env) :: starEach es X.env := by rfl) (hpl : (backTo pos (starEach es X.env)).any (·.1) = false := by rfl) :
    PE X (.Call (.Name x p) (e :: es) [] pos) (tX Γ B W (gCB f (g :: gs))) := x_callB hc hg hm hv ha hn hdb he hpl
theorem ect {T : String} {f : List D → Out} (hc : CallR X (.type T) (rDN Γ B f)) (hm : X.mg x = none) (ha : PA X (e :: es) (tV Γ B W (gArgs (g :: gs)))) (hg : Gl X x := by rfl) (hv : bootBuiltins x = some (.type T) := by first | rfl | kernel_rfl)
    (hn : x ≠ "__name__" := by decide) (hdb : (x == ("__debug__" : Str)) = false := by decide) (he : starEach (e :: es) X.env = (false, eval e X.env) :: starEach es X.env := by rfl) (hpl : (backTo pos (starEach es X.env)).any (·.1) = false := by rfl) :
    PE X (.Call (.Name x p) (e :: es) [] pos) (tX Γ B W (gCB f (g :: gs))) := x_callTy hc hg hm hv ha hn hdb he hpl
theorem ety {T : String} (hm : X.mg x = none) (hg : Gl X x := by rfl) (hv : bootBuiltins x = some (.type T) := by first | rfl | kernel_rfl) (hn : x ≠ "__name__" := by decide) (hd : (x == ("__debug__" : Str)) = false := by decide) : PE X (.Name x pos) (tX Γ B W (gLit (.ty T))) := x_bltn hg hm hv hn hd
theorem ecn {ps : List Str} {fn : Fn} (O : XO X Γ W k) (Kn : Kno X.prog X.w Γ X.mg X.base x ps d fn) (ha : PA X (e :: es) (tV Γ B W (gArgs (g :: gs)))) (hd : d ≤ k := by first | decide | omega) (hl : (g :: gs).length = ps.length := by rfl) (hg : Gl X x := by rfl)
    (hdb : (x == ("__debug__" : Str)) = false := by decide) (he : starEach (e :: es) X.env = (false, eval e X.env) :: starEach es X.env := by rfl) (hpl : (backTo pos (starEach es X.env)).any (·.1) = false := by rfl) :
    PE X (.Call (.Name x p) (e :: es) [] pos) (tX Γ B W (gCall fn (g :: gs))) := by
  obtain ⟨f, fd, F, hm, hk, hb⟩ := Kn.ex
  have hK := O.hK
  obtain ⟨K, T, cl⟩ := Γ
  have hK : K = X.K := hK
  subst hK
  exact x_call O.tk hl (F.mono hd) O.room hg hm hk hb ha hdb he hpl
end
end Fw

set_option Elab.async false
set_option linter.all false
set_option maxRecDepth 100000
set_option maxHeartbeats 1000000
/-! Fw15: rules in short. -/
namespace Fw
open PySem PySem.Spec PyProof.Rows L2
/-- the built-in names stand for what they are -/
structure BN (mg : Str → Option Value) : Prop where
  abs : mg "abs" = none
  all : mg "all" = none
  any : mg "any" = none
  dict : mg "dict" = none
  divmod : mg "divmod" = none
  enumerate : mg "enumerate" = none
  int : mg "int" = none
  isinstance : mg "isinstance" = none
  len : mg "len" = none
  list : mg "list" = none
  max : mg "max" = none
  min : mg "min" = none
  range : mg "range" = none
  repr : mg "repr" = none
  set : mg "set" = none
  sorted : mg "sorted" = none
  str : mg "str" = none
  tuple : mg "tuple" = none
  zip : mg "zip" = none
  bool : mg "bool" = none
  ValueError : mg "ValueError" = none
section
variable {X : Cx} {Γ : Ct} {B : Bs} {W : WX} {k d : Nat} {ga gb gc g go gi : EX} {gs : List EX} {a b c e o iter tg elt : Expr} {es : List Expr} {pos p spos : Pos} {x y : Str} {i j l : Nat} {ix : IX} {h h' : SX} {q : GX} {ts : List Nat} {body : List Stmt}
theorem eg {u : Value} {dd : D} (hm : X.mg x = some u) (r : KRep Γ.K u dd) (hg : Gl X x := by rfl) (hd : (x == ("__debug__" : Str)) = false := by decide) : PE X (.Name x pos) (tX Γ B W (gLit dd)) := x_glob hg hm r hd
theorem yp (O : XO X Γ W k) (ha : PE X a (tX Γ B W ga)) (he : ∀ whole, isTrue a X.env whole = (do let v ← whole; standAt a.pos; holding [v] (truthy v)) := by intro _; rfl) : PT X a (tT Γ B W (toT ga)) := y_plain O.hK ha he
theorem yw (h : PW X e (tT Γ B W (toT g))) : PT X e (tT Γ B W (toT g)) := h.pt
theorem eap (ho : PE X o (tX Γ B W go)) (he : PE X e (tX Γ B W g)) {apos cpos : Pos} (hs1 : starEach [e] X.env = [(false, eval e X.env)] := by rfl) (hbase : attributeBase o "append" X.env (eval o X.env) = eval o X.env := by rfl)
    (hfew : ((backTo cpos (starEach [e] X.env)).all (fun x => !x.1) && (backToKw cpos (keywordEach [] X.env)).all (fun x => x.1.isSome)
      && decide (([e] : List Expr).length + ([] : List Keyword).length + (if ([] : List Keyword).isEmpty then 0 else 1) < 30)) = true := by rfl) (hline : (apos.endLine == cpos.line) = true := by rfl) :
    PE X (.Call (.Attribute o "append" apos) [e] [] cpos) (tX Γ B W (gApp go g)) := x_app ho he hs1 hbase hfew hline
theorem eex (ho : PE X o (tX Γ B W go)) (he : PE X e (tX Γ B W g)) {apos cpos : Pos} (hs1 : starEach [e] X.env = [(false, eval e X.env)] := by rfl) (hbase : attributeBase o "extend" X.env (eval o X.env) = eval o X.env := by rfl)
    (hfew : ((backTo cpos (starEach [e] X.env)).all (fun x => !x.1) && (backToKw cpos (keywordEach [] X.env)).all (fun x => x.1.isSome)
      && decide (([e] : List Expr).length + ([] : List Keyword).length + (if ([] : List Keyword).isEmpty then 0 else 1) < 30)) = true := by rfl) (hline : (apos.endLine == cpos.line) = true := by rfl) :
    PE X (.Call (.Attribute o "extend" apos) [e] [] cpos) (tX Γ B W (gExt go g)) := x_ext ho he hs1 hbase hfew hline
theorem epo (ho : PE X o (tX Γ B W go)) {apos cpos : Pos} (hbase : attributeBase o "pop" X.env (eval o X.env) = eval o X.env := by rfl) (hline : (apos.endLine == cpos.line) = true := by rfl) :
    PE X (.Call (.Attribute o "pop" apos) [] [] cpos) (tX Γ B W (gPop go)) := x_pop ho hbase hline
theorem em {T id : String} {name : Str} {f : D → List D → Out} (pa : PlainAttrs T) (slot : Slot T name id) (hty : typeOf (.builtin id) = pure (.type "method_descriptor")) (hm : MtR X id (rDM Γ B f)) (ho : PE X o (tX Γ B W go)) (ha : PA X (e :: es) (tV Γ B W (gArgs (g :: gs)))) {apos cpos : Pos}
    (hbase : attributeBase o name X.env (eval o X.env) = eval o X.env := by rfl)
    (hfew : ((backTo cpos (starEach (e :: es) X.env)).all (fun x => !x.1) && (backToKw cpos (keywordEach [] X.env)).all (fun x => x.1.isSome)
      && decide ((e :: es).length + ([] : List Keyword).length + (if ([] : List Keyword).isEmpty then 0 else 1) < 30)) = true := by rfl)
    (hline : (apos.endLine == cpos.line) = true := by rfl) (hs : starEach (e :: es) X.env = (false, eval e X.env) :: starEach es X.env := by rfl) (hplain : (backTo cpos (starEach es X.env)).any (·.1) = false := by rfl) :
    PE X (.Call (.Attribute o name apos) (e :: es) [] cpos) (tX Γ B W (gMeth T f go (g :: gs))) := x_meth pa slot hty hm ho ha hbase hfew hline hs hplain
/-! #### targets, what is walked -/
theorem gn (O : XO X Γ W k) (i : Nat) (hi : X.N[i]? = some x := by rfl) (hx : Loc X.env.scope x := by first | exact .inl rfl | exact .inr rfl) (hf : X.fn x = true ∨ X.env.scope.names.lookup x = some .local := by first | exact .inl rfl | exact .inr rfl) : PG X (.Name x pos) (tG Γ B W [i] (pName i)) := g_name O.nd hi hx hf
theorem gt {n : Nat} {kk : Nat} {ps : List GX} (O : XO X Γ W k) (h : PGs X es (tGs Γ B W ts ps)) (hpn : ps.length = n := by rfl) (hn : (assignEach es X.env).length = n := by rfl) (hst : (assignEach es X.env).findIdx? (·.1) = none := by rfl) : PG X (.Tuple es kk pos) (tG Γ B W ts (pTup ps)) := g_tup O.hK O.calm h hpn hn hst
theorem gn0 : PGs X [] (tGs Γ B W [] []) := gs_nil
theorem gc1 {ts' : List Nat} {ps : List GX} (h1 : PG X e (tG Γ B W ts q)) (h2 : PGs X es (tGs Γ B W ts' ps)) (hs : (assignEach (e :: es) X.env).map (·.2) = assign e X.env :: (assignEach es X.env).map (·.2) := by rfl) : PGs X (e :: es) (tGs Γ B W (ts ++ ts') (q :: ps)) := gs_cons h1 h2 hs
theorem gsu (ho : PE X o (tX Γ B W go)) (hi : PE X e (tX Γ B W gi))
    (ha : ∀ v, assign (.Subscript o e pos) X.env v = (do
      let ov ← holding [v] (eval o X.env)
      let iv ← holding [v, ov] (eval e X.env)
      standAt pos
      holding [v, ov, iv] (setItem ov iv v)
      release [v, ov, iv] []) := by intro _; rfl) : PG X (.Subscript o e pos) (tG Γ B W [] (pSub go gi)) := g_sub ho hi ha
theorem iq (O : XO X Γ W k) (he : PE X e (tX Γ B W g)) : PI X tg e (tI Γ B W (gSeqI g)) := i_seq O.hK he
theorem ir1 (hm : X.mg "range" = none) (he : PE X a (tX Γ B W g)) (hg : Gl X "range" := by rfl) (hs : starEach [a] X.env = [(false, eval a X.env)] := by rfl) : PI X tg (.Call (.Name "range" p) [a] [] pos) (tI Γ B W (gRng1 g)) := i_rng1 hg hm he hs
theorem ir2 (hm : X.mg "range" = none) (ha : PE X a (tX Γ B W ga)) (hb : PE X b (tX Γ B W gb)) (hg : Gl X "range" := by rfl) (hs : starEach [a, b] X.env = [(false, eval a X.env), (false, eval b X.env)] := by rfl) (hs2 : starEach [b] X.env = [(false, eval b X.env)] := by rfl) :
    PI X tg (.Call (.Name "range" p) [a, b] [] pos) (tI Γ B W (gRng2 ga gb)) := i_rng2 hg hm ha hb hs hs2
/-! #### comprehensions -/
theorem el {ifs : List Expr} {scope : Scope} {gt : TX} (O : XO X Γ W k) (own : List (Str × Nat)) (hi : PI X tg iter (tI Γ B W ix))
    (hg : ∀ (s : Shared) (H : Hp) (C : Addr) (cl : List (Str × Addr)) (fp : List Addr) (O : XO (X.blk s H scope (compEnvC scope cl C X.env) fp) Γ W0 k), PG (X.blk s H scope (compEnvC scope cl C X.env) fp) tg (tG Γ B W0 ts q))
    (ht : ∀ (s : Shared) (H : Hp) (C : Addr) (cl : List (Str × Addr)) (fp : List Addr) (O : XO (X.blk s H scope (compEnvC scope cl C X.env) fp) Γ W0 k), PTs (X.blk s H scope (compEnvC scope cl C X.env) fp) ifs (tT Γ B W0 gt))
    (he : ∀ (s : Shared) (H : Hp) (C : Addr) (cl : List (Str × Addr)) (fp : List Addr) (O : XO (X.blk s H scope (compEnvC scope cl C X.env) fp) Γ W0 k), PE (X.blk s H scope (compEnvC scope cl C X.env) fp) elt (tX Γ B W0 g))
    (ok : blkC X.N X.env.scope scope own = true := by kernel_rfl) (hts : ∀ t ∈ ts, t ∈ own.map (·.2) := by decide) (hs : ∀ x, foldedSetIterable iter X.env x = pure x := by intro _; rfl) :
    PE X (.ListComp elt [⟨tg, iter, ifs, 0⟩] scope pos) (tX Γ B W (gComp (own.map (·.2)) ix q gt g)) :=
  x_lc O.calm O.nd hi (blkOk_by ok) hts (fun s H C cl fp => hg s H C cl fp (O.blk _ _ _ _ _)) (fun s H C cl fp => ht s H C cl fp (O.blk _ _ _ _ _)) (fun s H C cl fp => he s H C cl fp (O.blk _ _ _ _ _)) hs
theorem sl {ifs : List Expr} {scope : Scope} {gt : TX} {py : Pos} (O : XO X Γ W k) (i : Nat) (own : List (Str × Nat)) (hi : PI X tg iter (tI Γ B W ix))
    (hg : ∀ (s : Shared) (H : Hp) (C : Addr) (cl : List (Str × Addr)) (fp : List Addr) (O : XO (X.blk s H scope (compEnvC scope cl C X.env) fp) Γ W0 k), PG (X.blk s H scope (compEnvC scope cl C X.env) fp) tg (tG Γ B W0 ts q))
    (ht : ∀ (s : Shared) (H : Hp) (C : Addr) (cl : List (Str × Addr)) (fp : List Addr) (O : XO (X.blk s H scope (compEnvC scope cl C X.env) fp) Γ W0 k), PTs (X.blk s H scope (compEnvC scope cl C X.env) fp) ifs (tT Γ B W0 gt))
    (he : ∀ (s : Shared) (H : Hp) (C : Addr) (cl : List (Str × Addr)) (fp : List Addr) (O : XO (X.blk s H scope (compEnvC scope cl C X.env) fp) Γ W0 k), PE (X.blk s H scope (compEnvC scope cl C X.env) fp) elt (tX Γ B W0 g))
    (hy : X.N[i]? = some y := by rfl) (hyl : X.env.scope.names.lookup y = some .local := by rfl) (hsw : swapsWith (.ListComp elt [⟨tg, iter, ifs, 0⟩] scope pos) (some (.Name y py)) spos.line X.env = pure true := by rfl)
    (ok : blkC X.N X.env.scope scope own = true := by kernel_rfl) (hts : ∀ t ∈ ts, t ∈ own.map (·.2) := by decide) (hs : ∀ x, foldedSetIterable iter X.env x = pure x := by intro _; rfl) :
    PS X (.Assign [.Name y py] (.ListComp elt [⟨tg, iter, ifs, 0⟩] scope pos) spos) (tS Γ B W (gSet i (gComp (own.map (·.2)) ix q gt g))) :=
  s_setLc O.calm O.nd hy hyl hsw hi (blkOk_by ok) hts (fun s H C cl fp => hg s H C cl fp (O.blk _ _ _ _ _)) (fun s H C cl fp => ht s H C cl fp (O.blk _ _ _ _ _)) (fun s H C cl fp => he s H C cl fp (O.blk _ _ _ _ _)) hs
/-! #### statements -/
theorem se (he : PE X e (tX Γ B W g)) (hs : swapsWith e none pos.line X.env = pure false := by rfl) : PS X (.Expr e pos) (tS Γ B W (gDrop g)) := s_expr he hs
theorem ss {pos' : Pos} (O : XO X Γ W k) (i : Nat) (he : PE X e (tX Γ B W g)) (hi : X.N[i]? = some x := by rfl) (hx : Loc X.env.scope x := by first | exact .inl rfl | exact .inr rfl) (hs : swapsWith e (some (.Name x pos')) pos.line X.env = pure false := by rfl)
    (hf : X.fn x = true ∨ X.env.scope.names.lookup x = some .local := by first | exact .inl rfl | exact .inr rfl) : PS X (.Assign [.Name x pos'] e pos) (tS Γ B W (gSet i g)) := s_set O.nd hi hx he hs hf
theorem sp2 {px py pt : Pos} {kt k2 pt2} (O : XO X Γ W k) (i j : Nat) (ha : PA X [a, b] (tH Γ B W (gHeld [ga, gb]))) (hi : X.N[i]? = some x := by rfl) (hj : X.N[j]? = some y := by rfl) (hij : i ≠ j := by decide)
    (hx : X.env.scope.names.lookup x = some .local := by rfl) (hy : X.env.scope.names.lookup y = some .local := by rfl)
    (hw : swappedStores [.Tuple [.Name x px, .Name y py] kt pt] (.Tuple [a, b] k2 pt2) X.env = pure (some [x, y]) := by rfl)
    (hs : swapsWithSole [.Tuple [.Name x px, .Name y py] kt pt] (.Tuple [a, b] k2 pt2) pos.line X.env = pure false := by rfl) :
    PS X (.Assign [.Tuple [.Name x px, .Name y py] kt pt] (.Tuple [a, b] k2 pt2) pos) (tS Γ B W (gPar [i, j] [ga, gb])) := s_par O.calm O.nd hi hj hij hx hy ha hw hs
theorem sp3 {z : Str} {px py pz pt : Pos} {kt k2 pt2} (O : XO X Γ W k) (i j l : Nat) (ha : PA X [a, b, c] (tH Γ B W (gHeld [ga, gb, gc]))) (hi : X.N[i]? = some x := by rfl) (hj : X.N[j]? = some y := by rfl) (hl : X.N[l]? = some z := by rfl) (hij : i ≠ j := by decide) (hil : i ≠ l := by decide) (hjl : j ≠ l := by decide)
    (hx : X.env.scope.names.lookup x = some .local := by rfl) (hy : X.env.scope.names.lookup y = some .local := by rfl) (hz : X.env.scope.names.lookup z = some .local := by rfl)
    (hw : swappedStores [.Tuple [.Name x px, .Name y py, .Name z pz] kt pt] (.Tuple [a, b, c] k2 pt2) X.env = pure (some [x, y, z]) := by rfl)
    (hs : swapsWithSole [.Tuple [.Name x px, .Name y py, .Name z pz] kt pt] (.Tuple [a, b, c] k2 pt2) pos.line X.env = pure false := by rfl) :
    PS X (.Assign [.Tuple [.Name x px, .Name y py, .Name z pz] kt pt] (.Tuple [a, b, c] k2 pt2) pos) (tS Γ B W (gPar [i, j, l] [ga, gb, gc])) := s_par3 O.calm O.nd hi hj hl hij hil hjl hx hy hz ha hw hs
theorem hn0 : PA X [] (tH Γ B W (gHeld [])) := h_nil
theorem hc (ha : PE X e (tX Γ B W g)) (hr : PA X es (tH Γ B W (gHeld gs))) (hs : starEach (e :: es) X.env = (false, eval e X.env) :: starEach es X.env := by rfl) : PA X (e :: es) (tH Γ B W (gHeld (g :: gs))) := h_cons hs ha hr
theorem sa (he : PE X e (tX Γ B W g)) (hg : PG X tg (tG Γ B W ts q)) (hs : swapsWithSole [tg] e pos.line X.env = pure false := by rfl) (hw : swappedStores [tg] e X.env = pure none := by rfl) (h1 : (assignEach [tg] X.env).map (·.2) = [assign tg X.env] := by rfl) : PS X (.Assign [tg] e pos) (tS Γ B W (gAsg q g)) := s_asg he hg hs hw h1
theorem spg {vals : List Expr} {kk k2 : Nat} {p1 p2 : Pos} {ps : List GX} {n : Nat} (O : XO X Γ W k) (ha : PA X vals (tH Γ B W (gHeld gs))) (h : PGs X es (tGs Γ B W ts ps)) (hpn : ps.length = n := by rfl) (hz : n ≤ sizeLine := by decide)
    (hn : (assignEach es X.env).length = n := by rfl) (hst : (assignEach es X.env).findIdx? (·.1) = none := by rfl) (hs : swapsWithSole [.Tuple es kk p1] (.Tuple vals k2 p2) pos.line X.env = pure false := by rfl) (hw : swappedStores [.Tuple es kk p1] (.Tuple vals k2 p2) X.env = pure none := by rfl)
    (h1 : (assignEach [.Tuple es kk p1] X.env).map (·.2) = [assign (.Tuple es kk p1) X.env] := by rfl) : PS X (.Assign [.Tuple es kk p1] (.Tuple vals k2 p2) pos) (tS Γ B W (gParG ps gs)) := s_parG O.hK O.calm ha h hpn hz hn hst hs hw h1
theorem sfo (O : XO X Γ W k) (hi : PI X tg iter (tI Γ B W ix)) (hg : PG X tg (tG Γ B W ts q)) (hb : PSs X body (tS Γ B W h)) (hp : PassesOwn (model X.prog X.w) X.A X.env X.xe := by exact passes_of rfl) (hs : ∀ x, foldedSetIterable iter X.env x = pure x := by intro _; rfl) :
    PS X (.For tg iter body [] pos) (tS Γ B W (gFor ix q h)) := s_for hp O.calm hi hg hb hs
theorem swh (hc : PT X c (tT Γ B W (toT gc))) (hb : PSs X body (tS Γ B W h)) (hp : PassesOwn (model X.prog X.w) X.A X.env X.xe := by exact passes_of rfl) : PS X (.While c body [] pos) (tS Γ B W (gLoop gc h)) := s_loop hp hc hb
theorem sra {m : Str} {jj : Nat} {p2 p3 : Pos} (O : XO X Γ W k) (E : ExK Γ X.mg x) (hg : Gl X x := by rfl) (hdb : (x == ("__debug__" : Str)) = false := by decide) : PS X (.Raise (some (.Call (.Name x p) [.Constant (.str m) jj p2] [] pos)) none p3) (tS Γ B W (gRaise x)) := s_raise O.calm O.hK O.tk E hg hdb
theorem exs {lo hi : Option Expr} {gl gh : Option EX} {p2 : Pos} (O : XO X Γ W k) (ha : PE X a (tX Γ B W ga)) (hl : POx X Γ B W lo gl) (hh : POx X Γ B W hi gh) : PE X (.Subscript a (.Slice lo hi none p2) pos) (tX Γ B W (gSlice ga gl gh)) := x_slice O.hK ha hl hh
end
end Fw

set_option Elab.async false
set_option linter.all false
set_option maxRecDepth 100000
set_option maxHeartbeats 1000000
/-! Fw16: recursion, calls by keyword. -/
namespace Fw
open PySem PySem.Spec PyProof.Rows L2
section
variable {P : Program} {w : World} {Γ : Ct} {mg : Str → Option Value} {base : Heap}
theorem fn_okO {k : Nat} {f : Addr} {x qual : Str} {st : Stmt} {fd : FuncData} {N ps : List Str} {g : SX} (FF : L2.Fun Γ.K x qual st f fd) (hS : FnScope N ps (defScope st)) (hl : ps.length ≤ N.length)
    (hb : ∀ (cdv : Value) (A : Around) (outer : List Env) (s : Shared) (H : Hp) (E : XK) (B : Bs), XO (cxOf (L2N.CX P w) P w Γ.K mg base N qual (defScope st) f cdv A outer s H E) Γ (fun cls d _ H => E cls d H) k →
      PSs (cxOf (L2N.CX P w) P w Γ.K mg base N qual (defScope st) f cdv A outer s H E) (defBody st) (tS Γ B (fun cls d _ H => E cls d H) g)) :
    FnOk P w Γ.K mg base (L2N.CX P w) (k + 1) f fd ps (spD Γ ps.length (runB N.length g)) := fn_ok FF hS hl fun cdv A outer s H E B hr => hb cdv A outer s H E B (xo_of hS.nd hr)
/-- a def of which nothing is promised -/
theorem kno_bad {f : Addr} {x qual : Str} {st : Stmt} {fd : FuncData} {N ps : List Str} {d : Nat} (F : L2.Fun Γ.K x qual st f fd) (hS : FnScope N ps (defScope st)) (hl : ps.length ≤ N.length) (hm : mg x = some (.ref f)) (hb : Binds Γ.K fd ps []) (hd : 1 ≤ d := by omega) : Kno P w Γ mg base x ps d (fun _ _ => .bad) := by
  obtain ⟨oc, od, kV, doc, pm, an, cdv, ct, osl, e, lk, hcd⟩ := F.ex
  subst e
  refine ⟨f, _, (fn_of (k := 0) lk hcd hS (fun vs H Q E h => h.1) fun A outer s H vs Q E hr hsp => ?_).mono hd, hm, F.kp, hb⟩
  obtain ⟨hv, F, α, st1, ds, g0, r, a⟩ := hsp
  exact a.elim
end
/-! ### f(k = e, ..) -/
def tCallK0 (sp : Sp) (E : L2.St → XK) (tk : TA) : TE := fun σ H Q => tk σ H fun zs H2 => sp zs H2 Q (E σ)
section
variable {X : Cx} {Γ : Ct} {B : Bs} {W : WX} {k d : Nat} {g : EX} {gs : List EX} {x : Str} {p pos kpos : Pos} {kws : List Keyword} {e : Expr} {nm : Option Str} {ps ks : List Str} {f : Addr} {fd : FuncData} {sp : Sp}
theorem pe_kw0 {E : L2.St → XK} {tk : TA} {CX : CXT} (F : FnOk X.prog X.w X.K X.mg X.base CX k f fd ps sp) (hr : Room k X.A) (hg : Gl X x) (hm : X.mg x = some (.ref f)) (hk : PySem.W.keepIn X.K (.ref f) = true) (hb : KBinds X.K fd ps ks (fun us ws => us ++ ws) (fun vs zs => vs ++ zs)) (hx : ∀ σ, PassesAt CX X σ (E σ))
    (hkw : PK X kws tk) (hall : (backToKw pos (keywordEach kws X.env)).all (·.1.isSome) = true) (hks : (backToKw pos (keywordEach kws X.env)).filterMap (·.1) = ks) (hdb : (x == ("__debug__" : Str)) = false)
    (hpl : ((backTo pos (starEach [] X.env)).any (·.1) || (backToKw pos (keywordEach kws X.env)).any (·.1.isNone)) = false) : PE X (.Call (.Name x p) [] kws pos) (tCallK0 sp E tk) := by
  refine ⟨fun pins s σ H Q I h => ?_⟩
  refine wpAny_Call_Name_kw (ld_glob I hg hm ?_ hdb)
  refine PySem.W.callWith_KW0 (h₀ := X.base) I.ok.mod.kin hk hall (thn (hkw.run pos pins s σ H _ I h) fun ws s2 ⟨zs, H2, I2, rz, q2⟩ => ⟨I2.kIn, ?_⟩) hpl
  rw [hks]
  have hl : (([] : List Value) ++ ws).length = ps.length := by
    rw [List.nil_append, ← rz.length]; exact F.len _ _ _ _ q2
  refine wpAny_call (codeAny_mono (F.run X.A X.stack s2 H2 ⟨[], ks.zip ws⟩ ([] ++ ws) ([] ++ zs) Q (E σ) hr I2.env0 (hb.to s2 [] ws I2.kIn hl) (by simpa using rz) q2) fun r s' hq => ?_)
  cases r with
  | error e => exact hx σ pins H2 s2 e s' I2 hq
  | ok fl =>
    cases fl with
    | ret u => exact I2.after hq
    | next => exact hq.elim
    | brk => exact hq.elim
    | cont => exact hq.elim
theorem kn : PK X [] (tV Γ B W (gArgs [])) := ⟨fun pos pins s σ H Q I ⟨η, F, α, s1, sr, a⟩ => pk_nil.run pos pins s σ H Q I (a H F α [] sr (Sub.refl F) List.prefix_rfl .nil)⟩
theorem kc (ha : PE X e (tX Γ B W g)) (hr : PK X kws (tV Γ B W (gArgs gs))) : PK X (⟨nm, e, kpos⟩ :: kws) (tV Γ B W (gArgs (g :: gs))) := ⟨fun pos pins s σ H Q I h => (pk_cons ha hr).run pos pins s σ H Q I (tV_cons h)⟩
theorem eck {fn : Fn} (O : XO X Γ W k) (Kn : KnoK X.prog X.w Γ X.mg X.base x ps ks d fn) (hkw : PK X kws (tV Γ B W (gArgs gs))) (hd : d ≤ k := by first | decide | omega) (hl : gs.length = ps.length := by rfl) (hg : Gl X x := by rfl)
    (hall : (backToKw pos (keywordEach kws X.env)).all (·.1.isSome) = true := by rfl) (hks : (backToKw pos (keywordEach kws X.env)).filterMap (·.1) = ks := by rfl) (hdb : (x == ("__debug__" : Str)) = false := by decide)
    (hpl : ((backTo pos (starEach [] X.env)).any (·.1) || (backToKw pos (keywordEach kws X.env)).any (·.1.isNone)) = false := by rfl) :
    PE X (.Call (.Name x p) [] kws pos) (tX Γ B W (gCall fn gs)) := by
  obtain ⟨f, fd, F, hm, hk, hb⟩ := Kn.ex
  have hK := O.hK
  obtain ⟨K, T, cl⟩ := Γ
  have hK : K = X.K := hK
  subst hK
  exact (pe_kw0 (F.mono hd) O.room hg hm hk hb (fun σ => L2N.passAt O.tk σ) hkw hall hks hdb hpl).imp fun σ H Q h => (tV_len (tV_with h)).mono fun vs H1 ⟨h1, h2⟩ => call_sp h2 (h1.trans hl)
end
end Fw

set_option Elab.async false
set_option linter.all false
set_option maxRecDepth 100000
set_option maxHeartbeats 1000000
/-! Fw17: an exception of a class with its own __init__. -/
namespace Fw
open PySem PySem.Spec PyProof.Rows L2
section
variable {X : Cx} {e : Expr} {es : List Expr} {ta : TA} {p p1 p2 pos : Pos} {k : Nat} {C fI : Addr} {fd : FuncData} {ps : List Str} {sp : Sp} {x : Str} {CX : CXT}
/-- C(e, ..), its context None -/
theorem pmk_ini (T : OexC X.K C) (iC : PySem.W.findIn X.K (.ref C) "__init__" = some (some (.ref fI)))
    (tI : PySem.W.typeIn X.K (.ref fI) = some (.type "function")) (FI : FnOk X.prog X.w X.K X.mg X.base CX k fI fd ps sp)
    (room : Room (k + 1) X.A) (hb : Binds X.K fd ps []) (none : Passes CX X (fun _ _ _ => False)) (hg : Gl X x)
    (hm : X.mg x = some (.ref C)) (ha : PA X (e :: es) ta) (hdb : (x == ("__debug__" : Str)) = false)
    (he : starEach (e :: es) X.env = (false, eval e X.env) :: starEach es X.env) (hpl : (backTo pos (starEach es X.env)).any (·.1) = false) :
    L2N.PMk X (.Call (.Name x p) (e :: es) [] pos) (tMkO C sp [] ta) := by
  intro pins s0 σ H Q J h
  obtain ⟨_, _, _, _, bm, _, _, _, _, _, _, _, _, _, _, atC, refs⟩ := T.cls
  refine wpAny_Call_Name_kw (ld_glob J hg hm ?_ hdb)
  refine PySem.W.callWith_K (h₀ := X.base) J.ok.mod.kin T.kC (thn (ha.run pos pins s0 σ H _ J h) ?_) he hpl
  rintro us ⟨hp, gs, dr, tk, os⟩ ⟨vs, HA, JA, ra, small, wish⟩
  refine ⟨JA.kIn, ?_⟩
  show wpAny _ _ (call (.ref C) us) _ _ _
  have le : hp.objs.size ≤ hp.objs.size + 1 := Nat.le_succ _
  have wish := wish (hp.objs.size + 1) (JA.hok.fresh le)
  rw [List.append_nil] at wish
  let hq : Heap := (hp.push (PySem.W.kdv_tup us)).push (PySem.HandSPX.excO C hp.objs.size)
  have grow : ∀ b o, hp.get? b = some o → hq.get? b = some o := fun b o q =>
    Heap.get?_push_of_some _ (Heap.get?_push_of_some _ q)
  have there : hq.get? (hp.objs.size + 1) = some (PySem.HandSPX.excO C hp.objs.size) := by
    show ((hp.push (PySem.W.kdv_tup us)).push (PySem.HandSPX.excO C hp.objs.size)).get? (hp.objs.size + 1) = _
    heap_get
  have JB : Inv X pins σ (upd HA (hp.objs.size + 1) (exo (hp.objs.size + 1) C Option.none)) ⟨hq, gs, dr, tk, os⟩ :=
    JA.laid (t' := tk) (a := hp.objs.size + 1) (h' := hq) grow le (exo_ok there)
  have rb : Vals (V.ref (hp.objs.size + 1) :: vs) (Value.ref (hp.objs.size + 1) :: us) := .cons rfl ra
  have len : (Value.ref (hp.objs.size + 1) :: us).length = ps.length := by
    have := rb.length
    rw [FI.len _ _ _ _ wish] at this
    exact this.symm
  have fit : us.length ≤ sizeLine := by
    rw [← Paired.length ra, sizeLine_eq]
    omega
  have bnd := hb ⟨hq, gs, dr, tk, os⟩ (Value.ref (hp.objs.size + 1) :: us) JB.kIn (by rw [List.append_nil]; exact len)
  rw [List.append_nil] at bnd
  have inner := FI.run _ X.stack _ _ ⟨Value.ref (hp.objs.size + 1) :: us, []⟩ (Value.ref (hp.objs.size + 1) :: us)
    _ _ (fun _ _ _ => False) (room.make C us []) (JB.env0.make C us []) bnd rb wish
  refine wpAny_call (PySem.HandSPX.call_own F.excBase_ValueError (fun Y => PySem.HandSPX.refsVE_contains Y bm refs) (JA.kIn _ _ atC)
    (PySem.W.looks_findIn JA.kIn iC) (fun self => PySem.W.bind_fn JA.kIn self tI) fit (codeAny_mono inner ?_))
  rintro (er | fl) sZ hz
  · exact none pins σ _ _ er sZ JB hz
  · cases fl with
    | next => exact hz.elim
    | brk => exact hz.elim
    | cont => exact hz.elim
    | ret u =>
      obtain ⟨v, HZ, osZ, bareZ, unZ, okZ, rv, ev, d, fs, atA, atD, free, fin⟩ := hz
      subst ev
      obtain ⟨hz, gz, dz, tz, oz⟩ := sZ
      refine ⟨rv, ?_⟩
      obtain ⟨t0, G, JG, kG, ge, hoe, na⟩ := mk_end0 (d2 := dz) (t2 := tz) JA le grow unZ okZ osZ bareZ atA atD free
      refine ⟨_, _, _, ⟨G, gz, dz, tz, oz⟩, _, .ref C, some d, rfl, JG, kG, ge, hoe, ⟨rfl, rfl, fun ws hw => ?_⟩, rfl, rfl, na, rfl, bareZ, raises_own T.exC T.tyC, fin⟩
      cases hw
      rfl
/-- D.__init__(self, ..), D an own class that has it from ValueError -/
theorem pe_baseInit {D : Addr} {y : Str} {mc : Value} {pl : Sem Bool} (hg : Gl X y) (hm : X.mg y = some (.ref D)) (hdb : (y == ("__debug__" : Str)) = false)
    (ga : PySem.W.specialIn X.K (.ref D) "__getattribute__" = some (some (.builtin "type.__getattribute__"))) (tm : PySem.W.typeIn X.K (.ref D) = some mc) (rd : PySem.W.readsIn X.K D mc = true)
    (fv : PySem.W.findCls X.K (.ref D) mc "__init__" = some (.val (.builtin "ValueError.__init__"))) (ha : PA X (e :: es) ta)
    (hc : eval (.Call (.Attribute (.Name y p1) "__init__" p2) (e :: es) [] pos) X.env = (do
      let ov ← eval (.Name y p1) X.env
      standAt p2.atName
      let (f, first) ← holding [ov] (getMethod ov "__init__" pl)
      callWith pos f first (backTo pos (starEach (e :: es) X.env)) (backToKw pos (keywordEach [] X.env))))
    (he : starEach (e :: es) X.env = (false, eval e X.env) :: starEach es X.env) (hpl : (backTo pos (starEach es X.env)).any (·.1) = false) :
    PE X (.Call (.Attribute (.Name y p1) "__init__" p2) (e :: es) [] pos) (tVeI X.K ta) := by
  refine ⟨fun pins s0 σ H Q J h => ?_⟩
  refine PySem.W.methodCall_KW (ld_glob J hg hm ?_ hdb) hc
  obtain ⟨m, fr⟩ := J.fr
  refine PySem.W.method_of_cls fr J.ok.mod.kin ga (PySem.W.cls_val fr J.ok.mod.kin tm rd fv (by decide +kernel) ?_)
  show wpAny _ _ (callWith pos (Value.builtin "ValueError.__init__") [] (backTo pos (starEach (e :: es) X.env)) []) _ _ _
  refine PyProof.Rows.callWith_method1 (thn (ha.run pos pins _ σ H _ (J.tok _) h) ?_) he hpl
  rintro us sA ⟨vs, HA, JA, ra, a, C, ws, ev, hl, T, at_, q⟩
  subst ev
  cases ra with
  | @cons _ u0 _ ur r1 rw' =>
    obtain rfl : u0 = Value.ref a := r1
    have fit : ur.length ≤ sizeLine := by
      rw [← Paired.length rw', sizeLine_eq]
      omega
    exact oinit_ok T JA at_ fit fun sZ JZ => ⟨.non, HA, JZ, rfl, q⟩
end
/-- NoText(line): what __init__ does -/
def spIni (K : PySem.W.Frag) (f : Str) : Sp := fun vs H Q _ => ∃ (a C : Addr) (y : V), vs = [.ref a, y] ∧ OexC K C ∧ PySem.W.findIn K (.ref C) f = some none ∧ H a = some (exo a C none) ∧
  ∀ dx, H dx = none → dx ≠ a → Q .non (upd (upd H dx (exd dx [(f, y)])) a (exo a C (some dx)))
/-- an exception of a class with its own __init__, which keeps one value under the name f -/
structure ExT (P : Program) (w : World) (Γ : Ct) (mg : Str → Option Value) (base : Heap) (c f : Str) : Prop where
  gl : mg c = some (.ref (Γ.cl c))
  oex : OexC Γ.K (Γ.cl c)
  no : PySem.W.findIn Γ.K (.ref (Γ.cl c)) f = some none
  ini : ∃ fI fd ps, PySem.W.findIn Γ.K (.ref (Γ.cl c)) "__init__" = some (some (.ref fI)) ∧ PySem.W.typeIn Γ.K (.ref fI) = some (.type "function") ∧ FnOk P w Γ.K mg base (L2N.CX P w) 1 fI fd ps (spIni Γ.K f) ∧ Binds Γ.K fd ps []
def gRaiseT (c f : Str) (g : EX) : SX := fun s => (g s).toS fun r s1 => match settle r.keep s1 with
  | some (d, s2) => .ex ⟨c, [(f, d)]⟩ s2
  | none => .bad
theorem srt {X : Cx} {Γ : Ct} {B : Bs} {W : WX} {k : Nat} {a : Expr} {g : EX} {p p3 pos : Pos} {c f : Str} (O : XO X Γ W k) (E : ExT X.prog X.w Γ X.mg X.base c f) (ha : PE X a (tX Γ B W g)) (hk : 2 ≤ k := by first | decide | omega) (hg : Gl X c := by rfl)
    (hdb : (c == ("__debug__" : Str)) = false := by decide) (he : starEach [a] X.env = [(false, eval a X.env)] := by rfl) : PS X (.Raise (some (.Call (.Name c p) [a] [] pos)) none p3) (tS Γ B W (gRaiseT c f g)) := by
  obtain ⟨fI, fd, ps, iC, tI, FI, hb⟩ := E.ini
  have hK := O.hK
  have T := E.oex
  have hno := E.no
  have hm := E.gl
  obtain ⟨K, TT, cl⟩ := Γ
  have hK : K = X.K := hK
  subst hK
  have nx : Passes (L2N.CX X.prog X.w) X (fun _ _ _ => False) := fun pins σ H s e s' I ⟨_, _, _, _, _, _, _, _, _, _, _, _, z⟩ => z.elim
  refine (L2N.ps_raise O.calm O.tk (pmk_ini T iC tI FI (O.room.mono hk) hb nx hg hm (pa_cons ha pa_nil he) hdb he rfl)).imp fun D σ H ⟨η, F, α, s, sr, q⟩ => ?_
  refine ⟨η, F, α, s, sr, ?_⟩
  unfold gRaiseT at q
  cases e : g s with
  | bad => rw [e] at q; exact q
  | ex x s1 => rw [e] at q; exact fun H' F' α' cls d sr' => q σ H' F' α' cls d sr' rfl
  | ok r s1 =>
    rw [e] at q
    intro H1 F1 α1 v sr1 sub pr rr
    obtain ⟨F2, sub2, sr2, rr2⟩ := sr1.keepR rr
    simp only [R.toS] at q
    cases e2 : settle r.keep s1 with
    | none => simp only [e2] at q; exact q.elim
    | some pq =>
      obtain ⟨d, s2⟩ := pq
      simp only [e2] at q
      obtain ⟨F3, sub3, sr3, rd, _⟩ := settle_ok sr2 rr2 e2
      refine ⟨by simp, fun a0 ha0 => ⟨a0, _, v, rfl, T, hno, upd_same, fun dx hdx hne => ?_⟩⟩
      rw [upd_ne hne] at hdx
      refine ⟨rfl, dx, [(f, v)], upd_same, by rw [upd_ne hne, upd_same], hdx, ?_⟩
      have eH : upd (del (upd (upd (upd H1 a0 (exo a0 (cl c) none)) dx (exd dx [(f, v)])) a0 (exo a0 (cl c) (some dx))) a0) dx (.xd [(f, v)]) = upd H1 dx (.xd [(f, v)]) := by
        funext b
        by_cases h1 : b = dx
        · rw [h1, upd_same, upd_same]
        · rw [upd_ne h1, upd_ne h1]
          by_cases h2 : b = a0
          · rw [h2, del_same, ha0]
          · rw [del_ne h2, upd_ne h2, upd_ne h1, upd_ne h2]
      rw [eH]
      exact q σ _ F3 α1 _ _ (sr3.newO hdx) rfl ⟨rfl, .inr ⟨List.cons_ne_nil _ _, dx, [(f, v)], rfl, upd_same, (sr3.fresh hdx).1.1, (sr3.fresh hdx).1.2.1, rfl, .cons rd .nil⟩⟩
end Fw

set_option Elab.async false
set_option linter.all false
set_option maxRecDepth 100000
set_option maxHeartbeats 2000000
/-! Fw18: f(lambda: e), f a def that tells what e comes to. -/
namespace Fw
open PySem PySem.Spec PyProof.Rows L2 LamX

/-! ### the making of a lambda -/
def LamGrow (P : Addr) (q : Str) (c' : Addr) (H H1 : Hp) : Prop := H1 = H ∨ ∃ (ps more : Array Value), H P = some (.tbl ps) ∧ H c' = none ∧ H1 = upd (upd H P (.tbl (ps ++ more))) c' (CodeO c' q)
section
variable {X : Cx} {pins : List (Addr × Obj)} {σ : L2.St} {H : Hp} {s : Shared}
theorem lam_made {T : List (Addr × Str)} {c P : Addr} {params : Arguments} {body : Expr} {scope : Scope} {pos : Pos} {E : Value → Shared → Prop} {Q : Value → Shared → Prop} {q : Str}
    (J : Inv X pins σ H s) (TB : TabB X.base X.mg c P) (code : X.env.code = .ref c) (eq : q = X.env.qual ++ "<lambda>") (hm : (P, q) ∈ T) (sole : ∀ p ∈ T, p.1 = P → p.2 = q) (hT : Tabs T H)
    (nodef : defaultsOf params X.env = ([], [])) (has : ∀ y ∈ scope.names, y.2 = .free → ∃ c, X.env.cells.lookup y.1 = some c)
    (fin : ∀ (f c' : Addr) (pm ctv : Value) (H1 : Hp) (s' : Shared), Inv X pins σ H1 s' → LamGrow P q c' H H1 → Tabs T H1 →
      s'.heap.get? f = some (PySem.W.kla_obj "<lambda>" q params body scope (cloFrom X.env.cells scope.names []) pm c' ctv) →
      H1 f = none → f ∉ frs X.stack → H1 c' = some (CodeO c' q) → Q (.ref f) s') :
    wpAny (model X.prog X.w) X.A (eval (.Lambda params body scope pos) X.env) Q E s := by
  subst eq
  obtain ⟨ps, atP, okP, allP⟩ := hT _ hm
  refine PySem.W.kla_eval nodef ?_
  have bP : s.heap.BuiltinsAt X.mg P := TB.bm.keeps J.bk
  have objP := J.hok P _ atP
  have objP : s.heap.get? P = some { cls := .none, data := .fields ps } := objP
  have above : ∀ f, s.heap.objs.size ≤ f → f ∉ frs X.stack := fun f hf z => by
    cases List.mem_cons.mp (J.stkSub _ z) with
    | inl e =>
      have low := J.lt
      rw [← e] at low
      exact absurd (Nat.lt_of_lt_of_le low hf) (Nat.lt_irrefl _)
    | inr e => exact J.nofs hf e
  cases known : codeAmong pos ps.toList with
  | some cv =>
    obtain ⟨c', e, isCode⟩ := allP pos cv known
    subst e
    refine PySem.W.kla_makeFunctionHit (mg := X.mg) (c := c) (P := P) (ps := ps) (closure_ok has) J.ok.glob (J.mod.glob.keeps J.bk) code (TB.code.keeps J.bk) objP okP known bP ?_
    intro ctv hN tk keep big
    refine fin hN.objs.size c' ((X.mg "__name__").getD .none) ctv H _ (J.kept fun b o e => Heap.get?_push_of_some _ (keep b o e)) (.inl rfl) hT ?_ (J.hok.fresh big) (above _ big) isCode
    exact Heap.get?_push_size _ rfl
  | none =>
    refine PySem.W.kla_makeFunction (mg := X.mg) (c := c) (P := P) (ps := ps) (closure_ok has) J.ok.glob (J.mod.glob.keeps J.bk) code (TB.code.keeps J.bk) objP okP known TB.gP bP ?_
    intro c' ctv hN tk keep low high made tab
    obtain ⟨c2, oc, vs, t, e2, atC, dataC, nameC⟩ := made
    cases e2
    have big : s.heap.objs.size ≤ hN.objs.size := Nat.le_trans low (Nat.le_of_lt high)
    have newC : H c' = none := J.hok.fresh low
    let entry : Array Value := #[rawInt pos.line, rawInt pos.col, .ref c']
    have JN := inv_table (q := X.env.qual ++ "<lambda>") (t' := tk) (more := entry) (h' := hN.push (PySem.W.kla_obj "<lambda>" (X.env.qual ++ "<lambda>") params body scope (cloFrom X.env.cells scope.names []) ((X.mg "__name__").getD .none) c' ctv)) J atP
      (fun b o hb e => Heap.get?_push_of_some _ (keep b o hb e)) (Heap.get?_push_of_some _ tab) low ⟨oc, vs, t, Heap.get?_push_of_some _ atC, dataC, nameC⟩
    have stays : ∀ b o, H b = some o → (∀ rs, o ≠ .tbl rs) → (upd (upd H P (.tbl (ps ++ entry))) c' (CodeO c' (X.env.qual ++ "<lambda>"))) b = some o := fun b o e n => by
      have n1 : b ≠ c' := ne_of_none e newC
      have n2 : b ≠ P := fun z => by
        rw [z, atP] at e
        exact n ps (Option.some.inj e).symm
      rw [upd_ne n1, upd_ne n2, e]
    have PnC : P ≠ c' := ne_of_none atP newC
    have longer : (ps ++ entry).toList = ps.toList ++ [rawInt pos.line, rawInt pos.col, .ref c'] := by simp [entry]
    refine fin hN.objs.size c' ((X.mg "__name__").getD .none) ctv _ _ JN (.inr ⟨ps, entry, atP, newC, rfl⟩) (fun p hp => ?_) (Heap.get?_push_size _ rfl) ?_ (above _ big) upd_same
    · by_cases same : p.1 = P
      · rw [sole p hp same, same]
        refine ⟨ps ++ entry, by rw [upd_ne PnC, upd_same], by rw [longer]; exact PySem.TriplesOk_snoc _ _ _ _ okP, fun pos' cv hcv => ?_⟩
        rw [longer] at hcv
        cases among_app _ okP hcv with
        | inl z => obtain ⟨c0, e1, e2⟩ := allP pos' cv z; exact ⟨c0, e1, stays _ _ e2 codeO_ne⟩
        | inr z => exact ⟨c', z, upd_same⟩
      · obtain ⟨rs, r1, r2, r3⟩ := hT p hp
        refine ⟨rs, by rw [upd_ne (ne_of_none r1 newC), upd_ne same, r1], r2, fun pos' cv hcv => ?_⟩
        obtain ⟨c0, e1, e2⟩ := r3 pos' cv hcv
        exact ⟨c0, e1, stays _ _ e2 codeO_ne⟩
    · have n1 : hN.objs.size ≠ c' := Nat.ne_of_gt high
      have n2 : hN.objs.size ≠ P := Nat.ne_of_gt (Nat.lt_of_lt_of_le (Heap.lt_size objP) big)
      rw [upd_ne n1, upd_ne n2]
      exact J.hok.fresh big
end
section
variable {Γ : Ct} {B : Bs} {H H1 F : Hp} {α : List Addr} {s : S} {ρ : L2.St} {η : List (Addr × D)} {P c' : Addr} {q : Str}
theorem SR.lam (h : SR Γ B η ρ H F α s) (hm : (P, q) ∈ Γ.T) (g : LamGrow P q c' H H1) (t : Tabs Γ.T H1) : SR Γ B η ρ H1 F α s := by
  rcases g with rfl | ⟨ps, more, hP, hc, rfl⟩
  · exact h
  have PnC : P ≠ c' := ne_of_none hP hc
  have stays : ∀ {a : Addr} (o : HO), H a = some o → NoTbl o → (upd (upd H P (.tbl (ps ++ more))) c' (CodeO c' q)) a = some o := fun {a} o e n => by
    have n1 : a ≠ c' := ne_of_none e hc
    have n2 : a ≠ P := fun z => by rw [z, hP] at e; cases e; exact n
    rw [upd_ne n1, upd_ne n2, e]
  have nw : ∀ {a : Addr} {d : D}, NewR Γ B H F α a d → NewR Γ B (upd (upd H P (.tbl (ps ++ more))) c' (CodeO c' q)) F α a d := fun n => n.hp fun o e t => stays o e t
  refine ⟨⟨fun a o e => ?_, h.g.nd, h.g.len, fun n a c h1 h2 => (h.g.cell n a c h1 h2).hp fun o e t => stays o e t, h.g.afz, h.g.ext, h.g.pre, h.g.new, fun a o h1 h2 h3 => stays o (h.g.keep a o h1 h2 h3) h3, fun a rs e => ?_, h.g.nofz, t, h.g.nt, h.g.btin⟩, h.len, fun i x e => ?_, h.dis, fun p hp => nw (h.hid p hp), h.hnd, h.hds⟩
  · have e1 := h.g.sub a o e
    have n1 : a ≠ c' := ne_of_none e1 hc
    have n2 : a ≠ P := fun z => by
      have := h.g.nt _ hm
      rw [z, this] at e; cases e
    rw [upd_ne n1, upd_ne n2, e1]
  · by_cases z : a = c'
    · rw [z, upd_same] at e; exact absurd (Option.some.inj e) (codeO_ne rs)
    · rw [upd_ne z] at e
      by_cases z2 : a = P
      · exact ⟨q, by rw [z2]; exact hm⟩
      · rw [upd_ne z2] at e; exact h.g.tin a rs e
  · have w := h.sl i x e
    cases x with
    | no => trivial
    | fz d => exact w
    | ow d => obtain ⟨a, e1, n⟩ := w; exact ⟨a, e1, nw n⟩
end
/-! ### its body -/
/-- the context of the lambda's body -/
def lamN (X : Cx) (A : Around) (outer : List Env) (s : Shared) (H : Hp) (E : XK) (scope : Scope) (f c' : Addr) : Cx :=
  (lamCx X A outer s H E scope f c').tr [] fun e s' => wpAny (model X.prog X.w) (A.deeper (lamEnv X scope s.heap.objs.size f c')) (leaving (lamEnv X scope s.heap.objs.size f c') e)
    (fun _ s2 => L2N.CX X.prog X.w outer H s E e s2) (fun e2 s2 => L2N.CX X.prog X.w outer H s E e2 s2) s'
theorem xo_lam {X : Cx} {Γ : Ct} {A : Around} {outer : List Env} {s : Shared} {H : Hp} {E : XK} {scope : Scope} {f c' : Addr} {k : Nat} (hK : Γ.K = X.K) (nd : X.N.Nodup) (hr : Room k (A.deeper (lamEnv X scope s.heap.objs.size f c'))) :
    XO (lamN X A outer s H E scope f c') Γ (fun cls d _ H => E cls d H) k := ⟨hK, rfl, nd, hr, L2N.takes_of rfl rfl rfl rfl⟩
section
variable {X : Cx} {pins : List (Addr × Obj)} {σ : L2.St} {H : Hp} {s : Shared}
/-- a(), a the lambda that was handed in -/
theorem lam_act {CXg : CXT} {Eg E : XK} {Ng : List Str} {qg a : Str} {sg scope : Scope} {g f c' : Addr} {cdg pm ctv : Value} {params : Arguments} {body : Expr} {k i : Nat} {pn : List (Addr × Obj)} {xe : Value → Shared → Prop} {W : WX} {tb : TE} {p1 p2 : Pos}
    (J : Inv X pins σ H s) (L : LamS X.env.scope scope) (atf : s.heap.get? f = some (PySem.W.kla_obj "<lambda>" (X.env.qual ++ "<lambda>") params body scope (cloFrom X.env.cells scope.names []) pm c' ctv)) (free : H f = none) (nofr : f ∉ frs X.stack)
    (noargs : bindArgs (PySem.W.kla_fn "<lambda>" (X.env.qual ++ "<lambda>") params body scope (cloFrom X.env.cells scope.names []) pm (.ref c') ctv) ⟨[], []⟩ = pure [])
    (tk : L2N.Takes ((cxOf CXg X.prog X.w X.K X.mg X.base Ng qg sg g cdg X.A X.stack s H Eg).tr pn xe) W) (hr : Room (k + 1) (X.A.deeper (envOfC qg sg s.heap.objs.size g cdg)))
    (hb : ∀ (A : Around) (outer : List Env) (s : Shared) (H : Hp), Room k (A.deeper (lamEnv X scope s.heap.objs.size f c')) → PE (lamN X A outer s H E scope f c') body tb)
    (hN : Ng[i]? = some a) (hv : Vis sg a) (hd : (a == ("__debug__" : Str)) = false) (hcd : (a == ("__classdict__" : Str)) = false) :
    PE ((cxOf CXg X.prog X.w X.K X.mg X.base Ng qg sg g cdg X.A X.stack s H Eg).tr pn xe) (.Call (.Name a p1) [] [] p2)
      (fun ρ HZ Q => ρ[i]? = some (some (.ref f)) ∧ HZ c' = some (CodeO c' (X.env.qual ++ "<lambda>")) ∧ (∀ cls d H', E cls d H' → W cls d ρ H') ∧ tb σ HZ Q) := by
  refine ⟨fun pinsZ sZ ρ HZ Q JZ ⟨inSlot, isCode, hW, wish⟩ => ?_⟩
  have name := (pe_var (pos := p1) (i := i) hN hv hd hcd).run pinsZ sZ ρ HZ (fun v H1 => v = .ref f ∧ H1 = HZ) JZ ⟨.ref f, inSlot, rfl, rfl⟩
  refine wpAny_Call_Name_kw (thn name ?_)
  rintro u s1 ⟨v, H1, J1, r1, ev, eH⟩
  subst ev eH
  obtain rfl : u = Value.ref f := r1
  have at1 := J1.base.keep f _ atf free nofr (fun z => nomatch (show f ∈ ([] : List Addr) from z))
  refine PySem.W.callWith_F0 ⟨_, _, _, _, at1⟩ ?_
  have grown : Un (frs X.stack) [] H H1 s.heap s1.heap := J1.base
  obtain ⟨⟨oc, vs, t, atC, dataC, nameC⟩, _, _⟩ := J1.hok c' _ isCode
  have run : codeAny (model X.prog X.w) (X.A.deeper (envOfC qg sg s.heap.objs.size g cdg)) (.call (.ref f) ⟨[], []⟩)
      (CR (L2N.CX X.prog X.w) (envOfC qg sg s.heap.objs.size g cdg :: X.stack) X.prog X.w H1 s1 Q E) s1 := by
    refine PySem.W.kla_callFunE hr.depth at1 rfl L.co L.gen rfl ⟨c', oc, vs, t, rfl, atC, dataC, nameC⟩ ?_
    rw [noargs]
    refine wpAny_pure (wpAny_newFunctionEnv (fun y hy => (L.own y hy).2) (fun y hy => absurd hy (by simp)) (fun hL ns but => ⟨J1.nolimit.fresh _ but, ?_⟩) L.kind)
    show codeAny _ _ (.expr body (lamEnv X scope s1.heap.objs.size f c')) _ _
    have keep : ∀ b o, s1.heap.get? b = some o → hL.get? b = some o := fun b o e =>
      but.extBut b o (Nat.ne_of_lt (Heap.lt_size e)) (Heap.get?_push_of_some _ e)
    have J0 := lam_start2 (E := E) (f := f) (c' := c') (tk := s1.toks + ([] : List (Str × Value)).length) J L J1.env0 hr.hd grown ns keep
    have JL : Inv (lamN X (X.A.deeper (envOfC qg sg s.heap.objs.size g cdg)) (envOfC qg sg s.heap.objs.size g cdg :: X.stack) s1 H1 E scope f c') [] σ H1 { s1 with heap := hL, toks := s1.toks + ([] : List (Str × Value)).length } := J0.toTry _
    refine PySem.W.kla_codeExpr (wpAny_mono ((hb _ _ s1 H1 (hr.deeper _)).run [] _ _ H1 Q JL wish) ?_ fun e s' hq => hq)
    rintro v s' ⟨w', H', JE, rv, q⟩
    exact ⟨w', H', JE.os, JE.bare, JE.base, JE.hok, rv, q⟩
  refine wpAny_call (codeAny_mono run ?_)
  rintro (er | fl) s' hq
  · exact tk er s' (L2N.XE.of_call J1 hW hq)
  · cases fl with
    | ret u => exact J1.after hq
    | next => exact hq.elim
    | brk => exact hq.elim
    | cont => exact hq.elim
end
end Fw

set_option Elab.async false
set_option linter.all false
set_option maxRecDepth 100000
set_option maxHeartbeats 2000000
/-! Fw19: defs called while an exception is handled; what a lambda comes to, told. -/
namespace Fw
open PySem PySem.Spec PyProof.Rows L2 LamX L2H

/-! ### defs called while an exception is handled -/
structure FnW (P : Program) (w : World) (K : PySem.W.Frag) (mg : Str → Option Value) (base : Heap) (k : Nat) (f : Addr) (fd : FuncData) (ps : List Str) (Z : Obj → Prop) (sp : Addr → Sp) : Prop where
  len : ∀ a vs H Q E, sp a vs H Q E → vs.length = ps.length
  run : ∀ (A : Around) (outer : List Env) (s : Shared) (H : Hp) (args : Args) (us : List Value) (vs : List V) (Q : VK) (E : XK) (p : Addr × Obj), Z p.2 → RoomH k A → Hot1 A p → PinOk outer H s p →
    Env0 P w K mg base A outer s H → BindsTo s fd args (ps.zip us) → Vals vs us → sp p.1 vs H Q E → codeAny (model P w) A (.call (.ref f) args) (CR (L2N.CX P w) outer P w H s Q E) s
theorem FnW.mono {P : Program} {w : World} {K : PySem.W.Frag} {mg : Str → Option Value} {base : Heap} {j k : Nat} {f : Addr} {fd : FuncData} {ps : List Str} {Z : Obj → Prop} {sp : Addr → Sp} (F : FnW P w K mg base j f fd ps Z sp) (h : j ≤ k) : FnW P w K mg base k f fd ps Z sp :=
  ⟨F.len, fun A outer s H args us vs Q E p z hr => F.run A outer s H args us vs Q E p z (hr.mono h)⟩
theorem fnw_of {P : Program} {w : World} {K : PySem.W.Frag} {mg : Str → Option Value} {base : Heap} {k : Nat} {f : Addr} {name qual : Str} {params : Arguments} {body : List Stmt} {scope : Scope} {dV kV doc pm cdv ct oc : Value} {an od : Option Addr}
    {osl : Array (Option Value)} {N ps : List Str} {Z : Obj → Prop} {sp : Addr → Sp} (lk : K.lookup f = some ⟨oc, od, .func (PySem.W.fnOf name qual params body scope dV kV doc pm an cdv ct), osl⟩) (rec : PySem.W.codeIn K cdv qual = true) (S : FnScope N ps scope)
    (len : ∀ a vs H Q E, sp a vs H Q E → vs.length = ps.length)
    (hb : ∀ (A : Around) (outer : List Env) (s : Shared) (H : Hp) (vs : List V) (Q : VK) (E : XK) (p : Addr × Obj), Z p.2 → Hot1 A p → RoomH k (A.deeper (envOfC qual scope s.heap.objs.size f cdv)) → sp p.1 vs H Q E →
      ∃ t, PSs (cxH (L2N.CX P w) P w K mg base N qual scope f cdv A outer s H E p) body t ∧ t { nx := fun _ H' => Q .non H', rt := Q } (L2.start N vs) H) :
    FnW P w K mg base (k + 1) f (PySem.W.fnOf name qual params body scope dV kV doc pm an cdv ct) ps Z sp := by
  refine ⟨len, ?_⟩
  intro A outer s H args us vs Q E p z room hot pin e0 binds r wish
  have kin : K.In s.heap := e0.mod.kin.keeps fun b o e => (e0.bs b o e).1
  have nolim : s.heap.NoLimit := e0.mod.nolimit.keeps fun b o e => (e0.bs b o e).1
  have kinds : ∀ y ∈ ps.zip us, scope.names.lookup y.1 = some .local ∨
      (scope.names.lookup y.1 = some .cell ∧ ((cellsFrom (s.heap.objs.size + 1) scope.names []).lookup y.1).isSome = true) := by
    rintro ⟨n, v⟩ hy
    cases S.par n (List.of_mem_zip hy).1 with
    | inl q => exact .inl q
    | inr q => exact .inr ⟨q, PySem.W.cellsFrom_some _ _ _ (.inl q)⟩
  refine codeAny_call_function room.depth (kin _ _ lk) rfl S.co S.gen rfl (PySem.W.codeRec_of kin rec) (binds _ _ _ _ ?_)
  refine wpAny_newFunctionEnv_cells S.kind kinds ?_
  intro env he s1 x
  subst he
  refine ⟨nolim.keeps x.toInCall.keep, codeAny_func ?_⟩
  obtain ⟨t, ht, hq⟩ := hb A outer s H vs Q E p z hot (room.deeper _) wish
  have J := inv_startH (CX := L2N.CX P w) (E := E) S pin e0 (len _ _ _ _ _ wish) r x
  refine wpAny_mono (ht.run [] s1 (L2.start N vs) H _ J hq) ?_ fun e s' hs => hs
  intro fl s' hs
  have leave : ∀ {ρ : L2.St} {H' : Hp} {v : V} {u : Value}, Inv (cxH (L2N.CX P w) P w K mg base N qual scope f cdv A outer s H E p) [] ρ H' s' → RelV v u → Q v H' → CE outer P w H s Q u s' :=
    fun JE rv q => ⟨_, _, JE.os, JE.bare, JE.base, JE.hok, rv, q⟩
  cases fl with
  | brk => obtain ⟨_, _, _, z⟩ := hs; exact z.elim
  | cont => obtain ⟨_, _, _, z⟩ := hs; exact z.elim
  | next => obtain ⟨_, _, JE, z⟩ := hs; exact leave (v := V.non) (u := Value.none) JE rfl z
  | ret u => obtain ⟨_, _, _, JE, rv, z⟩ := hs; exact leave JE rv z
/-- what is the same at each place of such a def's body -/
structure XH (X : Cx) (Γ : Ct) (k : Nat) (p : Addr × Obj) : Prop where
  hK : Γ.K = X.K
  nd : X.N.Nodup
  room : RoomH k X.A
  hot : Hot1 X.A p
  pin : p ∈ X.pn
section
variable {X : Cx} {Γ : Ct} {B : Bs} {W : WX} {k d i : Nat} {p : Addr × Obj} {ga gb gc g : EX} {gs : List EX} {a b c e : Expr} {es : List Expr} {pos q : Pos} {x : Str} {D : Addr}
theorem XH.hu (O : XH X Γ k p) : X.A.units + 65 < cLine := by have := O.room.un; omega
/-- isinstance(e, C), e the exception; its dict stands where dd says -/
def rIsEd (K : PySem.W.Frag) (D a : Addr) (dd : Option Addr) : List V → Hp → VK → Prop := fun xs H Q => ∃ (c : V) (cv : Value) (b : Bool), xs = [.ref a, c] ∧ (∀ u, RelV c u → u = cv) ∧ PySem.W.kitOne K (.ref D) cv = some b ∧ (∀ d, dd = some d → ∃ fs, H d = some (.xd fs)) ∧ Q (.bl b) H
theorem is_exc {dd : Option Addr} (C : ExcC X.K D) (hz : Zc (.ref D) dd p.2) (hf : ∃ vs, p.2.data = .fields vs) (hp : p ∈ X.pn) : CallR X (.builtin "isinstance") (rIsEd X.K D p.1 dd) := by
  intro pins s σ H xs us Q J r h
  obtain ⟨c, cv, b, rfl, only, kit, hdd, q⟩ := h
  cases r with
  | cons rx rr =>
    cases rr with
    | cons rt rr =>
      cases rr
      cases rx
      have ec := only _ rt
      subst ec
      have at_ := (J.pin p (List.mem_append_left _ hp)).1
      obtain ⟨vs, hv⟩ := hf
      obtain ⟨pa, oc, od, oda, osl⟩ := p
      obtain ⟨h1, h2⟩ := hz
      dsimp only at h1 h2 hv
      subst h1 h2 hv
      obtain ⟨cd, hcl, _⟩ := PySem.W.any_some C.hd
      have hcl : (PySem.W.clsIn X.K D).isSome = true := by rw [hcl]; rfl
      have inst : ∃ od1, PySem.W.InstAt s.heap pa ⟨.ref D, od, .fields vs, osl⟩ D od1 := by
        cases od with
        | none => exact ⟨Option.none, at_, rfl, rfl, trivial⟩
        | some dx =>
          obtain ⟨fs, hfs⟩ := hdd dx rfl
          have hx : ObjOk X.prog X.w H s.heap dx (.xd fs) := J.hok dx _ hfs
          obtain ⟨mA, hns, hr⟩ := hx
          obtain ⟨od1, ho, _⟩ := lookIn_ns hns
          exact ⟨some od1, at_, rfl, rfl, ho⟩
      obtain ⟨od1, inst⟩ := inst
      refine PySem.W.kia_one (PySem.W.kitx_exc hcl C.hg C.hk C.hs C.ha C.hn C.ht C.hm) J.kIn inst kit (fun z => nomatch z) ?_
      exact fun tk => ⟨.bl b, H, J.kept (t' := tk) fun _ _ z => z, rfl, q⟩
/-- is a thing the exception at a, with its dict at dd? -/
def excIs (a : Addr) (dd : Option Addr) : Fw.D → Bool
  | .exc a' => dd.isNone && a' == a
  | .exf a' d' _ => a' == a && dd == some d'
  | _ => false
def gIsE (a : Addr) (dd : Option Addr) (i : Nat) (b : Bool) : EX := fun s => match s.sl[i]? with
  | some (.fz e) => if excIs a dd e = true then .ok (.fz (.bl b)) s else .bad
  | _ => .bad
theorem excIs_rep {K : PySem.W.Frag} {F : Hp} {α : List Addr} {v : V} {e : Fw.D} {a : Addr} {dd : Option Addr} (h : excIs a dd e = true) (r : Rep K F α v e) : v = .ref a ∧ ∀ d, dd = some d → ∃ fs, F d = some (.xd fs) := by
  cases e with
  | exc a' =>
    have h : (dd.isNone && a' == a) = true := h
    rw [Bool.and_eq_true] at h
    cases r
    refine ⟨by rw [eq_of_beq h.2], fun d e => ?_⟩
    subst e
    cases h.1
  | exf a' d' fs =>
    have h : (a' == a && dd == some d') = true := h
    rw [Bool.and_eq_true] at h
    cases r with
    | exf h1 h2 h3 =>
      refine ⟨by rw [eq_of_beq h.1], fun d e => ?_⟩
      have e2 := eq_of_beq h.2
      rw [e] at e2
      cases e2
      exact ⟨_, h1⟩
  | _ => cases h
theorem x_isE {dd : Option Addr} {kk : Bool} {cv : V} {cval : Value} {xn : Str} {p1 : Pos} {ce : Expr} (O : XH X Γ k p) (C : ExcC X.K D) (hz : Zc (.ref D) dd p.2) (hf : ∃ vs, p.2.data = .fields vs) (bn : X.mg "isinstance" = none)
    (hN : X.N[i]? = some xn) (hv : Vis X.env.scope xn) (hd : (xn == ("__debug__" : Str)) = false) (hcd : (xn == ("__classdict__" : Str)) = false) (hce : PE X ce (tC cv)) (only : ∀ u, RelV cv u → u = cval) (kit : PySem.W.kitOne X.K (.ref D) cval = some kk)
    (hg : Gl X "isinstance") (s1 : starEach [.Name xn p1, ce] X.env = (false, eval (.Name xn p1) X.env) :: starEach [ce] X.env) (s2 : starEach [ce] X.env = (false, eval ce X.env) :: starEach [] X.env) (hpl : (backTo pos (starEach [ce] X.env)).any (·.1) = false) :
    PE X (.Call (.Name "isinstance" q) [.Name xn p1, ce] [] pos) (tX Γ B W (gIsE p.1 dd i kk)) :=
  (pe_callB (is_exc C hz hf O.pin) hg bn (by first | rfl | kernel_rfl) (pa_cons (pe_var hN hv hd hcd) (pa_cons hce pa_nil s2) s1) (by decide) (by decide) s1 hpl).imp fun σ H Q ⟨η, F, α, s, sr, a⟩ => by
    unfold gIsE at a
    cases e : s.sl[i]? with
    | none => simp only [e] at a; exact a.elim
    | some y =>
      cases y with
      | fz dd1 =>
        simp only [e] at a
        by_cases ea : excIs p.1 dd dd1 = true
        · rw [if_pos ea] at a
          obtain ⟨ov, e1, v, e2, r⟩ := sr.at e
          subst e2
          obtain ⟨ev, hx⟩ := excIs_rep ea r
          subst ev
          refine ⟨_, e1, cv, cval, kk, rfl, only, kit, fun d hd => ?_, ?_⟩
          · obtain ⟨fs, z⟩ := hx d hd
            exact ⟨fs, sr.g.sub _ _ z⟩
          · exact a H F α _ sr (Sub.refl F) List.prefix_rfl (.bl kk)
        · rw [if_neg ea] at a; exact a.elim
      | _ => simp only [e] at a; exact a.elim
/-- a field of the exception -/
def gXf (a dd : Addr) (i : Nat) (f : Str) : EX := fun s => match s.sl[i]? with
  | some (.fz (.exf a' d' fs)) => if a' = a ∧ d' = dd then match fs.lookup f with
    | some d => .ok (.fz d) s
    | none => .bad
    else .bad
  | _ => .bad
theorem look_rep {K : PySem.W.Frag} {F : Hp} {α : List Addr} {f : Str} : ∀ {vfs : List (Str × V)} {fs : List (Str × Fw.D)} {d : Fw.D}, vfs.map (·.1) = fs.map (·.1) → Reps K F α (vfs.map (·.2)) (fs.map (·.2)) → fs.lookup f = some d → ∃ v, vfs.lookup f = some v ∧ Rep K F α v d
  | [], [], _, _, _, h => by cases h
  | (x, v) :: vfs, (y, e) :: fs, d, h1, h2, h3 => by
    simp only [List.map_cons, List.cons.injEq] at h1
    obtain ⟨rfl, h1⟩ := h1
    cases h2 with
    | cons r rs =>
      rw [List.lookup_cons] at h3 ⊢
      split at h3
      · next c => cases h3; exact ⟨v, rfl, r⟩
      · next c => exact look_rep h1 rs h3
  | [], _ :: _, _, h, _, _ => by cases h
  | _ :: _, [], _, h, _, _ => by cases h
theorem x_xf {dd : Addr} {xn n : Str} {p1 : Pos} (O : XH X Γ k p) (C : ExcC X.K D) (hno : PySem.W.findIn X.K (.ref D) n = some none) (hz : Zc (.ref D) (some dd) p.2) (hf : ∃ vs, p.2.data = .fields vs)
    (hN : X.N[i]? = some xn) (hv : Vis X.env.scope xn) (hd : (xn == ("__debug__" : Str)) = false) (hcd : (xn == ("__classdict__" : Str)) = false)
    (hb : attributeBase (.Name xn p1) n X.env (eval (.Name xn p1) X.env) = eval (.Name xn p1) X.env) : PE X (.Attribute (.Name xn p1) n pos) (tX Γ B W (gXf p.1 dd i n)) := by
  refine ⟨fun pins s σ H Q I ⟨η, F, α, ss, sr, a⟩ => ?_⟩
  unfold gXf at a
  cases e : ss.sl[i]? with
  | none => simp only [e] at a; exact a.elim
  | some y =>
    cases y with
    | fz d1 =>
      cases d1 with
      | exf a' d' fs =>
        simp only [e] at a
        by_cases ea : a' = p.1 ∧ d' = dd
        · rw [if_pos ea] at a
          obtain ⟨rfl, rfl⟩ := ea
          cases el : fs.lookup n with
          | none => rw [el] at a; exact a.elim
          | some d =>
            rw [el] at a
            obtain ⟨ov, e1, v, e2, r⟩ := sr.at e
            subst e2
            cases r with
            | exf h1 h2 h3 =>
              obtain ⟨vv, hl, rv⟩ := look_rep h2 h3 el
              refine attr_of hb (thn ((pe_var (pos := p1) hN hv hd hcd).run pins s σ H (fun v H1 => v = .ref p.1 ∧ H1 = H) I ⟨_, e1, rfl, rfl⟩) fun u s1 ⟨v1, H1, I1, rx, q1⟩ => ?_)
              obtain ⟨rfl, rfl⟩ := q1
              obtain rfl : u = Value.ref p.1 := rx
              have at_ := (I1.pin p (List.mem_append_left _ O.pin)).1
              obtain ⟨vs, hdv⟩ := hf
              have hx : ObjOk X.prog X.w H1 s1.heap d' (.xd _) := I1.hok d' _ (sr.g.sub _ _ h1)
              obtain ⟨mA, hns, hr⟩ := hx
              obtain ⟨od, ho, hl2⟩ := lookIn_ns hns
              obtain ⟨u, hu, ru⟩ := RelO.some_of (v := vv) (o := mA n) (by rw [← hl]; exact hr n)
              have J : PySem.W.InstAt s1.heap p.1 p.2 D (some od) := ⟨at_, hz.1, by unfold PySem.W.notCls; rw [hdv] <;> rfl, by rw [hz.2]; exact ho⟩
              exact HandSPX.exc_get I1.kIn J C.hg C.hk C.hs (PySem.W.findObj_own C.hd hno rfl (by rw [hl2, hu])) (handed_of ru) ⟨vv, H1, I1.tok _, ru, a H1 F α vv sr (Sub.refl F) List.prefix_rfl rv⟩
        · rw [if_neg ea] at a; exact a.elim
      | _ => simp only [e] at a; exact a.elim
    | _ => simp only [e] at a; exact a.elim
end
end Fw

set_option Elab.async false
set_option linter.all false
set_option maxRecDepth 100000
set_option maxHeartbeats 2000000
/-! Fw20: hot calls; what a lambda comes to, told. -/
namespace Fw
open PySem PySem.Spec PyProof.Rows L2 LamX L2H
def spW (Γ : Ct) (n : Nat) (fn : Addr → Fn) : Addr → Sp := fun a vs H Q _ => spD Γ n (fn a) vs H Q (fun _ _ _ => False)
structure KnoW (P : Program) (w : World) (Γ : Ct) (mg : Str → Option Value) (base : Heap) (x : Str) (ps : List Str) (d : Nat) (Z : Obj → Prop) (fn : Addr → Fn) : Prop where
  ex : ∃ f fd, FnW P w Γ.K mg base d f fd ps Z (spW Γ ps.length fn) ∧ mg x = some (.ref f) ∧ PySem.W.keepIn Γ.K (.ref f) = true ∧ Binds Γ.K fd ps []
section
variable {P : Program} {w : World} {mg : Str → Option Value} {base : Heap} {Γ : Ct} {k : Nat} {f : Addr} {x qual : Str} {st : Stmt} {fd : FuncData} {N ps : List Str} {g : Addr → SX} {Z : Obj → Prop}
theorem fnw_ok (FF : L2.Fun Γ.K x qual st f fd) (hS : FnScope N ps (defScope st)) (hl : ps.length ≤ N.length)
    (hb : ∀ (cdv : Value) (A : Around) (outer : List Env) (s : Shared) (H : Hp) (E : XK) (B : Bs) (p : Addr × Obj), Z p.2 → XH (cxH (L2N.CX P w) P w Γ.K mg base N qual (defScope st) f cdv A outer s H E p) Γ k p →
      PSs (cxH (L2N.CX P w) P w Γ.K mg base N qual (defScope st) f cdv A outer s H E p) (defBody st) (tS Γ B W0 (g p.1))) :
    FnW P w Γ.K mg base (k + 1) f fd ps Z (spW Γ ps.length fun a => runB N.length (g a)) := by
  obtain ⟨oc, od, kV, doc, pm, an, cdv, ct, osl, rfl, lk, rec⟩ := FF.ex
  refine fnw_of lk rec hS (fun a vs H Q E h => h.1) fun A outer s H vs Q E p z hot room hsp => ?_
  obtain ⟨hv, F, α, st1, ds, g0, r, a⟩ := hsp
  refine ⟨_, hb cdv A outer s H E ⟨H, F, α⟩ p z ⟨rfl, hS.nd, room, hot, by simp [cxH]⟩, [], F, α, _, SR.start g0 r (by rw [hv]; exact hl), ?_⟩
  have a : AftF Γ ⟨H, F, α⟩ Q (fun _ _ _ => False) (runB N.length (g p.1) ds st1) := a
  unfold runB at a
  cases e : g p.1 { sl := ds.map .fz ++ List.replicate (N.length - ds.length) .no, st := st1 } with
  | bad => rw [e] at a; exact a
  | bk s1 => rw [e] at a; exact a.elim
  | ct s1 => rw [e] at a; exact a.elim
  | nx s1 => rw [e] at a; exact fun σ' H' F' α' sr _ _ _ => a H' F' α' .non sr.g .non
  | rt r s1 => rw [e] at a; exact fun σ' H' F' α' v sr _ _ _ rr => a H' F' α' v sr.g rr
  | ex x s1 => rw [e] at a; exact fun σ' H' F' α' cls d sr _ xr => a H' F' α' cls d sr.g xr
end
section
variable {X : Cx} {Γ : Ct} {B : Bs} {k d : Nat} {p : Addr × Obj} {g : EX} {gs : List EX} {e : Expr} {es : List Expr} {pos q : Pos} {x : Str} {ps : List Str} {Z : Obj → Prop} {fn : Addr → Fn}
theorem x_callW (O : XH X Γ k p) (z : Z p.2) (Kn : KnoW X.prog X.w Γ X.mg X.base x ps d Z fn) (ha : PA X (e :: es) (tV Γ B W0 (gArgs (g :: gs)))) (hd : d ≤ k) (hl : (g :: gs).length = ps.length) (hg : Gl X x)
    (hdb : (x == ("__debug__" : Str)) = false) (he : starEach (e :: es) X.env = (false, eval e X.env) :: starEach es X.env) (hpl : (backTo pos (starEach es X.env)).any (·.1) = false) :
    PE X (.Call (.Name x q) (e :: es) [] pos) (tX Γ B W0 (gCall (fn p.1) (g :: gs))) := by
  obtain ⟨f, fd, F, hm, hk, hb⟩ := Kn.ex
  have hK := O.hK
  obtain ⟨K, T, cl⟩ := Γ
  have hK : K = X.K := hK
  subst hK
  refine ⟨fun pins s σ H Q I h => ?_⟩
  have h' := (tV_len (tV_with h)).mono fun vs H1 ⟨h1, h2⟩ => (call_sp (n := ps.length) h2 (h1.trans hl) : spD ⟨X.K, T, cl⟩ ps.length (fn p.1) vs H1 Q (WE W0 σ))
  refine wpAny_Call_Name_kw (ld_glob I hg hm ?_ hdb)
  refine PySem.W.callWith_K (h₀ := X.base) I.ok.mod.kin hk (thn (ha.run pos pins s σ H _ I h') ?_) he hpl
  rintro us s1 ⟨vs, H1, J, r, wish⟩
  refine ⟨J.kIn, ?_⟩
  have len : us.length = ps.length := by rw [← r.length]; exact wish.1
  have bnd := hb s1 us J.kIn (by rw [List.append_nil]; exact len)
  rw [List.append_nil] at bnd
  have pinned := J.pin p (List.mem_append_left _ O.pin)
  have pinOk : PinOk X.stack H1 s1 p := ⟨pinned.1, pinned.2.1, fun hm => (List.mem_cons.mp (J.stkSub p.1 hm)).elim pinned.2.2.1 pinned.2.2.2.1, pinned.2.2.2.2⟩
  refine wpAny_call (codeAny_mono ((F.mono hd).run X.A X.stack s1 H1 ⟨us, []⟩ us vs Q (fun _ _ _ => False) p z O.room O.hot pinOk J.env0 bnd r wish) ?_)
  rintro (er | fl) s' hq
  · obtain ⟨_, _, _, _, _, _, _, _, _, _, _, _, z⟩ := hq
    exact z.elim
  · cases fl with
    | ret u => exact J.after hq
    | next => exact hq.elim
    | brk => exact hq.elim
    | cont => exact hq.elim
end

/-! ### f(lambda: e): ('told', e), or the word of what e lets out -/
def frzSl : Sl → Sl
  | .ow _ => .no
  | x => x
def frz (s : S) : S := { s with sl := s.sl.map frzSl }
def gSaid (word : Ex → Option D) (gb : EX) : EX := fun s => match gb (frz s) with
  | .ok r s1 => match settle r.keep s1 with
    | some (d, s2) => .ok (.fz (.tup [.str "told", d])) { s with st := s2.st }
    | none => .bad
  | .ex x s1 => match word x with
    | some d => .ok (.fz d) { s with st := s1.st }
    | none => .bad
  | .bad => .bad
section
variable {Γ : Ct} {B : Bs} {H H' F F' : Hp} {α α' : List Addr} {s : S} {σ : L2.St} {η : List (Addr × D)}
theorem SR.frz (h : SR Γ B η σ H F α s) : SR Γ ⟨H, F, α⟩ [] σ H F α (frz s) := by
  have no : ∀ (i : Nat) (d : D), (Fw.frz s).sl[i]? = some (Sl.ow d) → False := fun i d q => by
    have q : (s.sl.map frzSl)[i]? = some (Sl.ow d) := q
    rw [List.getElem?_map] at q
    cases e : s.sl[i]? with
    | none => rw [e] at q; cases q
    | some x => rw [e] at q; cases x <;> cases q
  refine ⟨h.g.base, by simpa [Fw.frz] using h.len, fun i x e => ?_, fun i j a ⟨⟨d, h1⟩, _⟩ => (no i d h1).elim, fun p hp => absurd hp List.not_mem_nil, List.nodup_nil, fun i a ⟨⟨d, h1⟩, _⟩ => (no i d h1).elim⟩
  have q : (s.sl.map frzSl)[i]? = some x := e
  rw [List.getElem?_map] at q
  cases e2 : s.sl[i]? with
  | none => rw [e2] at q; cases q
  | some y =>
    rw [e2] at q
    cases y with
    | no => cases q; trivial
    | fz d => cases q; exact h.sl i _ e2
    | ow d => cases q; trivial
end
/-- an exception as a thing -/
def excD (a : Addr) (dd : Option Addr) (fs : List (Str × D)) : D := match dd with
  | none => .exc a
  | some d => .exf a d fs
/-- what is told of an exception -/
structure WordK (P : Program) (w : World) (Γ : Ct) (mg : Str → Option Value) (base : Heap) (wd we : Str) (k : Nat) (word : Ex → Option D) : Prop where
  ok : ∀ x d, word x = some d → (∃ C, mg we = some (.ref C) ∧ PySem.W.exmOne Γ.K (.ref (Γ.cl x.cls)) (.ref C) = some true) ∧
    ∀ dd : Option Addr, (dd = none ↔ x.fs = []) → ∃ y fn, KnoW P w Γ mg base wd [y] k (fun oe => Zc (.ref (Γ.cl x.cls)) dd oe ∧ ∃ vs, oe.data = .fields vs) fn ∧ ∀ a st, fn a [excD a dd x.fs] st = .ok (.fz d) st
section
variable {X : Cx} {Γ : Ct} {B : Bs} {W : WX} {k kw : Nat} {gb : EX} {word : Ex → D → Prop}
/-- f(lambda: e), f: try: return ('told', a()) / except we as x: return wd(x) -/
theorem x_said {word : Ex → Option D} {f a x we wd : Str} {st : Stmt} {g c Pt : Addr} {fd : FuncData} {params : Arguments} {body : Expr} {scope : Scope} {p lpos pos : Pos} {j0 k0 : Nat} {q0 q1 q2 q3 q4 q5 q6 q7 q8 q9 q10 q11 : Pos}
    (O : XO X Γ W k) (FF : L2.Fun Γ.K f f st g fd) (hm : X.mg f = some (.ref g)) (hb : Binds Γ.K fd [a] []) (Sg : FnScope [a, x] [a] (defScope st))
    (txt : defBody st = [.Try [.Return (some (.Tuple [.Constant (.str "told") j0 q0, .Call (.Name a q1) [] [] q2] k0 q3)) q4] [.ExceptHandler (some (.Name we q5)) (some x) [.Return (some (.Call (.Name wd q6) [.Name x q7] [] q8)) q9] q10] [] [] q11])
    (la : (defScope st).names.lookup a = some .local) (lx : (defScope st).names.lookup x = some .local) (lw : (defScope st).names.lookup we = some .globalImplicit) (ld : (defScope st).names.lookup wd = some .globalImplicit)
    (dbg : (f == ("__debug__" : Str)) = false ∧ (a == ("__debug__" : Str)) = false ∧ (a == ("__classdict__" : Str)) = false ∧ (x == ("__debug__" : Str)) = false ∧ (x == ("__classdict__" : Str)) = false ∧ (we == ("__debug__" : Str)) = false ∧ (wd == ("__debug__" : Str)) = false)
    {CW : Addr} (mw : X.mg we = some (.ref CW)) (wk : WordK X.prog X.w Γ X.mg X.base wd we kw word) (hk : kw + 2 ≤ k) (hk3 : 3 ≤ k)
    (hg : Gl X f) (TB : TabB X.base X.mg c Pt) (code : X.env.code = .ref c) (hmT : (Pt, X.env.qual ++ "<lambda>") ∈ Γ.T) (sole : ∀ p ∈ Γ.T, p.1 = Pt → p.2 = X.env.qual ++ "<lambda>") (L : LamS X.env.scope scope) (nodef : defaultsOf params X.env = ([], []))
    (noargs : ∀ (q : Str) (cl : List (Str × Addr)) (pm cv ctv : Value), bindArgs (PySem.W.kla_fn "<lambda>" q params body scope cl pm cv ctv) ⟨[], []⟩ = pure [])
    (he : ∀ (A : Around) (outer : List Env) (s : Shared) (H : Hp) (E : XK) (f c' : Addr) (B : Bs), XO (lamN X A outer s H E scope f c') Γ (fun cls d _ H => E cls d H) (k - 2) → PE (lamN X A outer s H E scope f c') body (tX Γ B (fun cls d _ H => E cls d H) gb)) :
    PE X (.Call (.Name f p) [.Lambda params body scope lpos] [] pos) (tX Γ B W (gSaid word gb)) := by
  have hK := O.hK
  obtain ⟨K, T, cl⟩ := Γ
  have hK : K = X.K := hK
  subst hK
  obtain ⟨d1, d2, d3, d4, d5, d6, d7⟩ := dbg
  obtain ⟨k, rfl⟩ : ∃ k', k = k' + 2 := ⟨k - 2, by omega⟩
  obtain ⟨oc, od, kV, doc, pm, an, cdv, ct, osl, rfl, lk, rec⟩ := FF.ex
  refine ⟨fun pins s σ H Q I h => ?_⟩
  obtain ⟨η, F, α, ss, sr, aft⟩ := h
  refine wpAny_Call_Name_kw (ld_glob I hg hm ?_ d1)
  refine PySem.W.callWith_K (h₀ := X.base) I.ok.mod.kin FF.kp ?_ (by rfl) (by rfl)
  show wpAny _ _ (spliced ((false, eval (.Lambda params body scope lpos) X.env) :: backTo pos (starEach [] X.env))) _ _ s
  refine Calls.spliced_cons (lam_made I TB code rfl hmT sole sr.g.tabs nodef (L.has I.ok) ?_)
  intro fl c' pm' ctv H1 s' I1 gr T1 atf free nofr isCode
  refine Calls.spliced_nil ⟨I1.kIn, ?_⟩
  have sr1 := sr.lam hmT gr T1
  have run : codeAny (model X.prog X.w) X.A (.call (.ref g) ⟨[.ref fl], []⟩) (CR C8.CX0 X.stack X.prog X.w H1 s' Q C8.E0) s' := by
    refine run_ofS (N := [a, x]) (ps := [a]) (us := [.ref fl]) (vs := [.ref fl]) lk rec Sg O.room I1.env0 (hb s' [.ref fl] I1.kIn rfl) (.cons rfl .nil) rfl fun hr' => ?_
    -- the wish of what the lambda lets out
    let Ech : XK := fun cls d H' => ∃ (xx : Ex) (F' : Hp) (α' : List Addr) (st' : List Cell) (dw : D), word xx = some dw ∧ GR ⟨X.K, T, cl⟩ ⟨H1, F, α⟩ H' F' α' st' ∧ XR ⟨X.K, T, cl⟩ ⟨H1, F, α⟩ H' F' α' xx cls d ∧
      Aft ⟨X.K, T, cl⟩ B W η σ F α Q (.ok (.fz dw) { ss with st := st' })
    rw [txt]
    refine ⟨_, PSs.nox (pss_one (L2N.ps_try_as (X := (cxOf C8.CX0 X.prog X.w X.K X.mg X.base [a, x] f (defScope st) g cdv X.A X.stack s' H1 C8.E0).nox) (c := .ref CW) (i := 1) (Wout := fun _ _ _ _ => False)
      (tb := fun W' En ρ H' => ρ = [some (.ref fl), none] ∧ (∀ cls d H2, Ech cls d H2 → W' cls d ρ H2) ∧ H' c' = some (CodeO c' (X.env.qual ++ "<lambda>")) ∧
        tX ⟨X.K, T, cl⟩ ⟨H1, F, α⟩ (fun cls d _ H2 => Ech cls d H2) gb σ H' fun v H2 => ∀ r, H2 r = none → En.rt (.ref r) (upd H2 r (.tup [.str "told", v])))
      (ts := fun a' cls d En ρ H' => ρ[1]? = some (some (.ref a')) ∧ ∃ (xx : Ex) (F' : Hp) (α' : List Addr) (st' : List Cell) (dw : D), word xx = some dw ∧ XR ⟨X.K, T, cl⟩ ⟨H1, F, α⟩ H' F' α' xx cls d ∧ GR ⟨X.K, T, cl⟩ ⟨H1, F, α⟩ H' F' α' st' ∧
        Aft ⟨X.K, T, cl⟩ B W η σ F α (fun v H2 => En.rt v H2) (.ok (.fz dw) { ss with st := st' }))
      rfl rfl Sg.nd rfl lx ⟨lw, d6, .inl mw⟩ takes00 ?_ ?_)), ?_⟩
    · intro W' pn xe tk _
      refine ⟨fun pins2 s2 ρ H' En I2 ⟨eρ, hW, hco, wish⟩ => ?_⟩
      subst eρ
      have act := lam_act (CXg := C8.CX0) (Eg := C8.E0) (Ng := [a, x]) (qg := f) (sg := defScope st) (g := g) (cdg := cdv) (i := 0) (E := Ech) (k := k) (p1 := q1) (p2 := q2) (pn := pn) (xe := xe) (W := W') I1 L atf free nofr (noargs _ _ _ _ _) tk hr'
        (fun A outer s H hr2 => he A outer s H Ech fl c' ⟨H1, F, α⟩ (xo_lam rfl O.nd hr2)) rfl (.inl la) d2 d3
      refine (pss_one (ps_ret (pos := q4) (pe_tup (pos := q3) (pa_cons pe_str (pa_cons act pa_nil))))).run pins2 s2 _ H' En I2 ⟨rfl, hco, hW, wish.mono fun v H2 q => ⟨?_, q⟩⟩
      show 2 ≤ sizeLine
      decide
    · intro a' oe cls d pn hz hf
      refine ⟨fun pins2 s2 ρ H' En I2 ⟨e1, xx, F0, α', st', dw, hw, xr, g0, aft'⟩ => ?_⟩
      obtain ⟨ecls, xr⟩ := xr
      subst ecls
      have hd0 : (d = none ↔ xx.fs = []) := by
        rcases xr with ⟨h1, h2⟩ | ⟨h1, dx, vfs, h2, _⟩
        · exact ⟨fun _ => h1, fun _ => h2⟩
        · exact ⟨fun z => by rw [h2] at z; (cases z), fun z => absurd z h1⟩
      obtain ⟨y, fn, Kn, hfn⟩ := (wk.ok xx dw hw).2 d hd0
      obtain ⟨F', g', rex⟩ : ∃ F', GR ⟨X.K, T, cl⟩ ⟨H1, F, α⟩ H' F' α' st' ∧ Rep X.K F' α' (.ref a') (excD a' d xx.fs) := by
        rcases xr with ⟨h1, h2⟩ | ⟨h1, dx, vfs, h2, h3, h4, h5, h6, h7⟩
        · subst h2; exact ⟨F0, g0, .exc a'⟩
        · subst h2
          have na : dx ∉ α' := fun z => by
            obtain ⟨n, hn, e⟩ := List.getElem_of_mem z
            have hn' : n < st'.length := by rw [← g0.len]; exact hn
            have c := g0.cell n dx st'[n] (by rw [List.getElem?_eq_getElem hn, e]) (List.getElem?_eq_getElem hn')
            cases q : st'[n] with
            | lst ds => rw [q] at c; obtain ⟨vs, z, _⟩ := c; rw [h3] at z; cases z
            | ins c' fs => rw [q] at c; obtain ⟨_, vs, z, _⟩ := c; rw [h3] at z; cases z
            | dct es => rw [q] at c; obtain ⟨vs, z, _⟩ := c; rw [h3] at z; cases z
          exact ⟨_, g0.fr (o := .xd vfs) trivial h3 h5 h4 na, .exf upd_same h6 (h7.up (Sub.upd h5) List.prefix_rfl)⟩
      obtain ⟨vs, hv⟩ := hf
      have O' : XH ((cxOf C8.CX0 X.prog X.w X.K X.mg X.base [a, x] f (defScope st) g cdv X.A X.stack s' H1 C8.E0).nox.suite a' ((a', oe) :: pn)) ⟨X.K, T, cl⟩ (k + 1) (a', oe) := ⟨rfl, Sg.nd, ⟨hr'.dp, hr'.un⟩, ⟨rfl, vs, hv, hz.2.2 vs hv⟩, List.mem_cons_self⟩
      have arg : PE ((cxOf C8.CX0 X.prog X.w X.K X.mg X.base [a, x] f (defScope st) g cdv X.A X.stack s' H1 C8.E0).nox.suite a' ((a', oe) :: pn)) (.Name x q7) (tX ⟨X.K, T, cl⟩ ⟨H1, F, α⟩ W0 (gVar 1)) := x_var rfl (.inl lx) d4 d5
      have call := x_callW (q := q6) (pos := q8) (x := wd) O' ⟨hz.zc, vs, hv⟩ Kn (a_cons rfl arg a_nil) (by omega) rfl ld d7 rfl rfl
      have hlen : ρ.length = 2 := I2.len
      refine (pss_one (s_ret (pos := q9) call)).run pins2 s2 ρ H' En I2 ⟨[], F', α', ⟨[.no, .fz (excD a' d xx.fs)], st'⟩, ⟨g', hlen.symm, fun i z e => ?_, fun i j b ⟨⟨dd, h1⟩, _⟩ => ?_, fun q hq => absurd hq List.not_mem_nil, List.nodup_nil, fun i b ⟨⟨dd, h1⟩, _⟩ => ?_⟩, ?_⟩
      · rcases i with _ | _ | i
        · cases e; trivial
        · cases e; exact ⟨.ref a', by rw [e1]; rfl, rex⟩
        · cases e
      · rcases i with _ | _ | i <;> cases h1
      · rcases i with _ | _ | i <;> cases h1
      · have ev : gRet (gCall (fn a') [gVar 1]) ⟨[.no, .fz (excD a' d xx.fs)], st'⟩ = .rt (.fz dw) ⟨[.no, .fz (excD a' d xx.fs)], st'⟩ := by
          have := hfn a' st'
          simp [gRet, gCall, gWith, gArgs, gVar, R.bind, R.toS, settleAll, settle, RV.keep, callK, this, retV]
        rw [ev]
        intro σ' H2 F2 α2 v sr2 _ sub pr rr
        exact aft' H2 F2 α2 v (sr1.call sr2.g) sr2.g.ext sr2.g.pre rr
    · refine ⟨rfl, fun cls d H2 ⟨xx, F', α', st', dw, hw, g', xr, aft'⟩ => ?_, isCode, [], F, α, Fw.frz ss, sr1.frz, ?_⟩
      · obtain ⟨⟨CW', hm', hex⟩, _⟩ := wk.ok xx dw hw
        have eC : CW' = CW := by rw [mw] at hm'; cases hm'; rfl
        subst eC
        have ecls := xr.1
        subst ecls
        exact ⟨true, hex, fun _ a' _ => ⟨rfl, xx, F', α', st', dw, hw, xr, g', aft'⟩, fun z => nomatch z⟩
      · unfold gSaid at aft
        cases e : gb (Fw.frz ss) with
        | bad => simp only [e] at aft; exact aft
        | ex xx s1 =>
          simp only [e] at aft
          intro H' F' α' cls d sr' xr
          cases hw : word xx with
          | none => simp only [hw] at aft; exact aft.elim
          | some dw => simp only [hw] at aft; exact ⟨xx, F', α', s1.st, dw, hw, sr'.g, xr, aft⟩
        | ok r s1 =>
          simp only [e] at aft
          intro H' F' α' v sr' sub pr rr r0 hr0
          obtain ⟨F2, sub2, sr2, rr2⟩ := sr'.keepR rr
          cases e2 : settle r.keep s1 with
          | none => simp only [e2] at aft; exact aft.elim
          | some pq =>
            obtain ⟨dd, s2⟩ := pq
            simp only [e2] at aft
            obtain ⟨F3, sub3, sr3, rd, _⟩ := settle_ok sr2 rr2 e2
            have hf3 := (sr3.fresh hr0).1.2.1
            have sr4 := sr3.newF (o := .tup [.str "told", v]) hr0
            exact aft _ _ α' _ (sr1.call sr4.g) sr4.g.ext sr4.g.pre (.tup (.of upd_same) (.cons (.str _) (.cons (rd.up (Sub.upd hf3) List.prefix_rfl) .nil)))
  refine wpAny_call (codeAny_mono run ?_)
  rintro (er | fw) s2 hq
  · exact (show False from hq).elim
  · cases fw with
    | ret u => exact I1.after hq
    | next => exact hq.elim
    | brk => exact hq.elim
    | cont => exact hq.elim
end
end Fw

set_option Elab.async false
set_option linter.all false
set_option maxRecDepth 100000
set_option maxHeartbeats 2000000
/-! Fw21: the law's def, where repr's guards are known to be none; the end of a law. -/
namespace Fw
open PySem PySem.Spec PyProof.Rows L2 LamX
structure FnG (P : Program) (w : World) (Γ : Ct) (mg : Str → Option Value) (base : Heap) (k : Nat) (f : Addr) (fd : FuncData) (ps : List Str) (fn : Fn) : Prop where
  run : ∀ (A : Around) (outer : List Env) (s : Shared) (H : Hp) (args : Args) (us : List Value) (vs : List V) (Q : VK) (E : XK), A.guards = some [] → Room k A → Env0 P w Γ.K mg base A outer s H → BindsTo s fd args (ps.zip us) → Vals vs us → spD Γ ps.length fn vs H Q E →
    codeAny (model P w) A (.call (.ref f) args) (CR (L2N.CX P w) outer P w H s Q E) s
theorem fng_ok {P : Program} {w : World} {mg : Str → Option Value} {base : Heap} {Γ : Ct} {k : Nat} {f : Addr} {x qual : Str} {st : Stmt} {fd : FuncData} {N ps : List Str} {g : SX} (FF : L2.Fun Γ.K x qual st f fd) (hS : FnScope N ps (defScope st)) (hl : ps.length ≤ N.length)
    (hb : ∀ (cdv : Value) (A : Around) (outer : List Env) (s : Shared) (H : Hp) (E : XK) (B : Bs), A.guards = some [] → fd.code = cdv → XO (cxOf (L2N.CX P w) P w Γ.K mg base N qual (defScope st) f cdv A outer s H E) Γ (fun cls d _ H => E cls d H) k →
      PSs (cxOf (L2N.CX P w) P w Γ.K mg base N qual (defScope st) f cdv A outer s H E) (defBody st) (tS Γ B (fun cls d _ H => E cls d H) g)) :
    FnG P w Γ mg base (k + 1) f fd ps (runB N.length g) := by
  obtain ⟨oc, od, kV, doc, pm, an, cdv, ct, osl, rfl, lk, rec⟩ := FF.ex
  refine ⟨fun A outer s H args us vs Q E guards room e0 binds r wish => run_ofS lk rec hS room e0 binds r wish.1 fun room' => ?_⟩
  obtain ⟨hv, F, α, st1, ds, g0, r, a⟩ := wish
  refine ⟨_, hb cdv A outer s H E ⟨H, F, α⟩ guards rfl (xo_of hS.nd room'), [], F, α, _, SR.start g0 r (by rw [hv]; exact hl), ?_⟩
  unfold runB at a
  cases e : g { sl := ds.map .fz ++ List.replicate (N.length - ds.length) .no, st := st1 } with
  | bad => rw [e] at a; exact a
  | bk s1 => rw [e] at a; exact a.elim
  | ct s1 => rw [e] at a; exact a.elim
  | nx s1 => rw [e] at a; exact fun σ' H' F' α' sr _ _ _ => a H' F' α' .non sr.g .non
  | rt r s1 => rw [e] at a; exact fun σ' H' F' α' v sr _ _ _ rr => a H' F' α' v sr.g rr
  | ex x s1 => rw [e] at a; exact fun σ' H' F' α' cls d sr _ xr => a H' F' α' cls d sr.g xr
/-- the law's def is called: its reading comes to true -/
theorem law_run {P : Program} {w : World} {Γ : Ct} {mg mb : Str → Option Value} {k : Nat} {fa a : Addr} {cs : List (Addr × Addr)} {fd : FuncData} {x : Str} {fn : Fn} {s₁ : Shared} {vs : List Value} {ns : List Int} {st' : List Cell}
    (kin : Γ.K.In s₁.heap) (glob : s₁.heap.Ns mainGlobals mg) (boot : s₁.heap.Ns builtinsNs mb) (bootIs : ∀ y : Str, y ≠ "__name__" → mb y = bootBuiltins y) (nolim : s₁.heap.NoLimit) (nogens : s₁.gens = #[])
    (empty : ∀ p ∈ cs, s₁.heap.get? p.2 = some { cls := .none, data := .fields #[] }) (notK : ∀ p ∈ cs, Γ.K.lookup p.2 = none) (codes : ∀ p ∈ cs, PySem.W.CodeHd s₁.heap p.1 p.2)
    (bmod : ∃ (bm : Addr) (ob : Obj), mg "__builtins__" = some (.ref bm) ∧ bm ≠ builtinsNs ∧ s₁.heap.get? bm = some ob ∧ ob.cls = .type "module" ∧ ob.dict = some builtinsNs ∧ ob.data = .plain)
    (script : s₁.heap.get? a = some { cls := .type "list", data := .seq vs.toArray }) (areInts : IntsAre vs ns) (fit : ns.length ≤ sizeLine) (room : Room k callerA)
    (hF : ∀ base : Heap, Γ.K.In base → base.Ns mainGlobals mg → (∀ p ∈ cs, TabB base mg p.1 p.2) → FnG P w Γ mg base k fa fd [x] fn) (binds : ∀ (s : Shared) (u : Value), BindsTo s fd ⟨[u], []⟩ [(x, u)])
    (hT : ∀ p ∈ Γ.T, p.1 ∈ cs.map (·.2)) (hT2 : ∀ p ∈ cs, ∃ q, (p.2, q) ∈ Γ.T) (wish : fn [.scr ns] [] = .ok (.fz (.bl true)) st') :
    codeAny (model P w) callerA (.call (.ref fa) ⟨[.ref a], []⟩) (fun r s' => r = .ok (.ret (.bool true)) ∧ OldK s₁.heap s'.heap ∧ s'.os = s₁.os ∧ AllBare s'.gens) s₁ := by
  have rv := vals_ints areInts
  have lenV := areInts.length
  let tb : List Addr := cs.map (·.2)
  have tbObj : ∀ b, b ∈ tb → s₁.heap.get? b = some { cls := .none, data := .fields #[] } := fun b hb => by
    obtain ⟨p, hp, rfl⟩ := List.mem_map.mp hb
    exact empty p hp
  have apart : a ∉ tb := fun z => by
    have e := tbObj a z
    rw [script] at e
    exact nomatch (congrArg Obj.data (Option.some.inj e))
  have inTb : ∀ p ∈ cs, p.2 ∈ tb := fun p hp => List.mem_map.mpr ⟨p, hp, rfl⟩
  -- H: what is tracked at the entry
  have core : ∀ H : Hp, (∀ b ∈ tb, H b = some (.tbl #[])) → (∀ b, b ∉ tb → b ≠ a → H b = none) → (∀ u, H a = some u → ∃ o, u = .frz o (.lst (ns.map V.int))) → SqL Γ.K H a (ns.map V.int) → HOk P w H s₁.heap → (H a ≠ none → Γ.K.lookup a = none) →
      codeAny (model P w) callerA (.call (.ref fa) ⟨[.ref a], []⟩) (fun r s' => r = .ok (.ret (.bool true)) ∧ OldK s₁.heap s'.heap ∧ s'.os = s₁.os ∧ AllBare s'.gens) s₁ := by
    intro H onTb off atA isL hok nK
    have untracked : ∀ {b : Addr} {o : Obj}, s₁.heap.get? b = some o → (∀ ws n, o.data ≠ .seq ws n) → o.data ≠ .fields #[] → H b = none := fun {b o} e h1 h2 => by
      refine off b (fun z => ?_) (fun z => ?_)
      · rw [tbObj b z] at e; cases e; exact h2 rfl
      · rw [z, script] at e; cases e; exact h1 _ _ rfl
    have base_of : ∀ {b : Addr} {o : Obj}, s₁.heap.get? b = some o → H b = none → (hidT s₁.heap H).get? b = some o := fun e n => hidT_get e n
    have ns_of : ∀ {b : Addr} {m : Str → Option Value}, s₁.heap.Ns b m → (hidT s₁.heap H).Ns b m := fun {b m} ⟨o, es, ep, e, d, r⟩ =>
      ⟨o, es, ep, base_of e (untracked e (fun ws n z => by rw [d] at z; cases z) fun z => by rw [d] at z; cases z), d, r⟩
    have kinB : Γ.K.In (hidT s₁.heap H) := fun b o e => base_of (kin b o e) (by
      cases q : H b with
      | none => rfl
      | some u =>
        by_cases z : b ∈ tb
        · obtain ⟨p, hp, rfl⟩ := List.mem_map.mp z
          rw [notK p hp] at e; cases e
        · by_cases z2 : b = a
          · subst z2
            rw [nK (by rw [q]; simp)] at e; cases e
          · rw [off b z z2] at q; cases q)
    have modB : L2.Mod Γ.K mg (hidT s₁.heap H) := ⟨kinB, ns_of glob, ⟨mb, ns_of boot, bootIs⟩, let ⟨mc, h1, h2⟩ := nolim; ⟨mc, ns_of h1, h2⟩⟩
    have TB : ∀ p ∈ cs, TabB (hidT s₁.heap H) mg p.1 p.2 := fun p hp => by
      have atP := empty p hp
      refine ⟨?_, ?_, fun z => ?_⟩
      · obtain ⟨o, us, file, tf, flags, tg, inF, text, tt, e1, r1, r2, r3, rest⟩ := codes p hp
        refine ⟨o, us, file, tf, flags, tg, inF, text, tt, base_of e1 (untracked e1 (fun ws n z => ?_) fun z => ?_), r1, r2, r3, rest⟩
        · rw [r2] at z; cases z
        · rw [r2] at z; cases z; simp at r3
      · obtain ⟨bm, ob, b1, b2, b3, b4, b5, b6⟩ := bmod
        have nG : bm ≠ mainGlobals := fun q => by
          obtain ⟨o, es, ep, e, hd, _⟩ := glob
          rw [q, e] at b3; cases b3
          rw [hd] at b6; cases b6
        have nP : bm ≠ p.2 := fun q => by
          rw [q, atP] at b3; cases b3
          cases b6
        exact ⟨bm, ob, b1, b2, nG, nP, base_of b3 (untracked b3 (fun ws n z => by rw [b6] at z; cases z) fun z => by rw [b6] at z; cases z), b4, b5, b6⟩
      · obtain ⟨o, es, ep, e, hd, _⟩ := glob
        rw [z, atP] at e; cases e
        cases hd
    have e0 : Env0 P w Γ.K mg (hidT s₁.heap H) callerA [] s₁ H := ⟨rfl, modB, fun b o e => of_hidT e, Nat.le_of_eq (hidT_size _ _), trivial, fun b hb => absurd (show b ∈ ([] : List Addr) from hb) (by simp), hok, .of_eq nogens⟩
    -- F: what is shared at the entry
    let F : Hp := fun b => if b ∈ tb then none else H b
    have Fof : ∀ {b : Addr}, b ∉ tb → F b = H b := fun h => if_neg h
    have entry : GR Γ ⟨H, F, []⟩ H F [] [] := by
      refine ⟨fun b o e => ?_, List.nodup_nil, rfl, fun n b c h => by simp at h, fun b hb => absurd hb List.not_mem_nil, Sub.refl F, List.prefix_rfl, fun b hb => absurd hb List.not_mem_nil, fun b o h _ _ => h, fun b ps e => ?_, fun b o _ h => h, fun p hp => ?_, fun p hp => if_pos (hT p hp), fun b ps e => ?_⟩
      · by_cases z : b ∈ tb
        · have e' : F b = none := if_pos z
          rw [e'] at e; cases e
        · rw [Fof z] at e; exact e
      · by_cases z : b ∈ tb
        · obtain ⟨p, hp, rfl⟩ := List.mem_map.mp z; exact hT2 p hp
        · by_cases z2 : b = a
          · subst z2; obtain ⟨o, q⟩ := atA _ e; cases q
          · rw [off b z z2] at e; cases e
      · exact TabS.nil (onTb _ (hT p hp))
      · have e : H b = some (.tbl ps) := e
        by_cases z : b ∈ tb
        · obtain ⟨p, hp, rfl⟩ := List.mem_map.mp z; exact hT2 p hp
        · by_cases z2 : b = a
          · subst z2; obtain ⟨o, q⟩ := atA _ e; cases q
          · rw [off b z z2] at e; cases e
    have isF : SqL Γ.K F a (ns.map V.int) := by
      rcases isL with (h | ⟨o, h⟩) | h
      · exact .inl (.inl (by rw [Fof apart]; exact h))
      · exact .inl (.inr ⟨o, by rw [Fof apart]; exact h⟩)
      · exact .inr h
    have asked : spD Γ 1 fn [.ref a] H (fun v _ => v = .bl true) (fun _ _ _ => False) :=
      ⟨rfl, F, [], [], [.scr ns], entry, .cons (.scr isF) .nil, by rw [wish]; exact fun H' F' α' v _ r => by cases r; rfl⟩
    refine codeAny_mono ((hF _ kinB (ns_of glob) TB).run callerA [] s₁ H ⟨[.ref a], []⟩ [.ref a] [.ref a] _ _ rfl room e0 (binds s₁ (.ref a)) (.cons rfl .nil) asked) ?_
    rintro (er | fl) s' h
    · obtain ⟨_, _, _, _, _, _, _, _, _, _, _, _, z⟩ := h
      exact z.elim
    cases fl with
    | next => exact h.elim
    | brk => exact h.elim
    | cont => exact h.elim
    | ret u =>
      obtain ⟨v, H', os, bare, un, hok', r', q⟩ := h
      have q' : v = .bl true := q
      subst q'
      obtain rfl : u = Value.bool true := r'
      have kept : ∀ b o, b ∉ tb → s₁.heap.get? b = some o → s'.heap.get? b = some o := fun b o nb e => by
        cases q : H b with
        | none => exact un.keep b o e q (by intro z; exact absurd (show b ∈ ([] : List Addr) from z) (by simp)) (by simp)
        | some u =>
          have eb : b = a := Classical.byContradiction fun z => by rw [off b nb z] at q; cases q
          subst eb
          obtain ⟨ob, rfl⟩ := atA u q
          obtain ⟨e1, _⟩ := hok b _ q
          obtain ⟨e2, _⟩ := hok' b _ (un.frzs b ob _ q)
          rw [e] at e1; cases e1
          exact e2
      have grown : ∀ p ∈ cs, ∃ more : Array Value, s'.heap.get? p.2 = some { cls := .none, data := .fields more } := fun p hp => by
        obtain ⟨more, z⟩ := un.tbls p.2 #[] (onTb _ (inTb p hp))
        exact ⟨_, hok' p.2 _ z⟩
      refine ⟨rfl, ⟨fun b o e => ?_, fun b o e => ?_⟩, os, bare⟩
      · by_cases hb : b ∈ tb
        · obtain ⟨p, hp, ep⟩ := List.mem_map.mp hb
          obtain ⟨more, hm⟩ := grown p hp
          rw [← ep] at e ⊢
          rw [empty p hp] at e; cases e
          exact .inr (.inl ⟨((codes p hp).tab (empty p hp)).isCodeTable, rfl, #[], more, rfl, by rw [Array.empty_append]; exact hm⟩)
        · exact .inl (kept b o hb e)
      · by_cases hb : b ∈ tb
        · obtain ⟨p, hp, ep⟩ := List.mem_map.mp hb
          obtain ⟨more, hm⟩ := grown p hp
          rw [← ep]
          exact ⟨_, hm⟩
        · exact ⟨o, kept b o hb e⟩
  cases hk : Γ.K.lookup a with
  | some o =>
    have e := kin a o hk
    rw [script] at e; cases e
    have offA : (if a ∈ tb then some (HO.tbl #[]) else none) = none := if_neg apart
    refine core (fun b => if b ∈ tb then some (.tbl #[]) else none) (fun b hb => if_pos hb) (fun b hb _ => if_neg hb) (fun u e => ?_) (.inr ⟨_, vs.toArray, _, hk, rfl, rfl, rfl, by rw [List.size_toArray, lenV]; exact fit, by simpa using rv⟩) (fun b u z => ?_) fun z => absurd offA z
    · have e : (if a ∈ tb then some (HO.tbl #[]) else none) = some u := e
      rw [offA] at e; cases e
    · have z : (if b ∈ tb then some (HO.tbl #[]) else none) = some u := z
      by_cases hb : b ∈ tb
      · rw [if_pos hb] at z; cases z; exact tbObj b hb
      · rw [if_neg hb] at z; cases z
  | none =>
    let H : Hp := fun b => if b = a then some (.frz { cls := .type "list", data := .seq vs.toArray } (.lst (ns.map V.int))) else if b ∈ tb then some (.tbl #[]) else none
    have Ha : H a = some (.frz { cls := .type "list", data := .seq vs.toArray } (.lst (ns.map V.int))) := if_pos rfl
    have Hb : ∀ {b : Addr}, b ≠ a → H b = if b ∈ tb then some (.tbl #[]) else none := fun h => if_neg h
    refine core H (fun b hb => ?_) (fun b hb na => by rw [Hb na, if_neg hb]) (fun u e => ?_) (.inl (.inr ⟨_, Ha⟩)) (fun b u z => ?_) fun _ => hk
    · rw [Hb (fun z => apart (z ▸ hb)), if_pos hb]
    · rw [Ha] at e; cases e; exact ⟨_, rfl⟩
    · by_cases na : b = a
      · subst na
        rw [Ha] at z; cases z
        exact ⟨script, by rw [List.length_map]; exact fit, vs, _, rv, script⟩
      · rw [Hb na] at z
        by_cases hb : b ∈ tb
        · rw [if_pos hb] at z; cases z; exact tbObj b hb
        · rw [if_neg hb] at z; cases z
/-- what is known of the law's def at the head's heap h -/
def LawG (P : Program) (w : World) (K : PySem.W.Frag) (k n : Nat) (x : Str) (mg : Str → Option Value) (fa : Addr) (h : Heap) : Prop :=
  ∃ (Γ : Ct) (fd : FuncData) (cs : List (Addr × Addr)) (fn : Fn), Γ.K = K ∧ (∀ p ∈ cs, h.get? p.2 = some { cls := .none, data := .fields #[] }) ∧ (∀ p ∈ cs, K.lookup p.2 = none) ∧ (∀ p ∈ cs, PySem.W.CodeHd h p.1 p.2) ∧ (∀ (s : Shared) (u : Value), BindsTo s fd ⟨[u], []⟩ [(x, u)]) ∧
    (∀ p ∈ Γ.T, p.1 ∈ cs.map (·.2)) ∧ (∀ p ∈ cs, ∃ q, (p.2, q) ∈ Γ.T) ∧ (∀ ns : List Int, ns.length ≤ n → (∀ z ∈ ns, Builtin.Int.intBits z ≤ 1048576) → ∃ st', fn [.scr ns] [] = .ok (.fz (.bl true)) st') ∧
    ∀ base : Heap, K.In base → base.Ns mainGlobals mg → (∀ p ∈ cs, TabB base mg p.1 p.2) → FnG P w Γ mg base k fa fd [x] fn
theorem walkG {l : PySem.W.OpenLaw} {n k : Nat} {q : Program} {loose : List Str} {XP : (Str → Option Value) → Heap → Prop} {YP : World → Heap → Prop} {d : DefRec} {K : Params → PySem.W.Frag} {x : Str}
    (hn : l.most = some n) (hn2 : n ≤ sizeLine) (hdf : d.params.defaults = []) (hr : Room k callerA) (hY : ∀ (w : World) (h : Heap), YP w h → (K w.params).In h)
    (F : ∀ (w : World) (mg : Str → Option Value) (fa : Addr) (h : Heap), YP w h → (K w.params).In h → h.Ns mainGlobals mg → mg d.name = some (.ref fa) → LawG l.prog w (K w.params) k n x mg fa h) :
    PySem.W.WalkO q loose XP YP l.row.toRowW d [] (fun f vs => PySem.call f vs) := by
  refine Att.attach_callB hn hdf ?_
  intro w s₀ s₁ mg mb fa o pm cd doc a vs ns G Y ho hd hcd hmg hobj hints hlen hbits hg
  have kin := hY w _ Y
  obtain ⟨Γ, fd, cs, fn, eK, empty, notK, codes, binds, hT, hT2, wish, hF⟩ := F w mg fa _ Y kin G.T.g hmg
  obtain ⟨st', wish⟩ := wish ns hlen hbits
  rw [← eK] at kin notK hF
  exact law_run kin G.T.g G.T.b G.T.builtins G.T.nolimit hg empty notK codes G.T.bmain hobj hints (Nat.le_trans hlen hn2) hr hF binds hT hT2 wish
end Fw

set_option Elab.async false
set_option linter.all false
set_option maxRecDepth 100000
set_option maxHeartbeats 2000000
/-! Fw22: hot rules in short; the told lambda in short; what is never reached. -/
namespace Fw
open PySem PySem.Spec PyProof.Rows L2 LamX L2H
def gBad : EX := fun _ => .bad
def gBadS : SX := fun _ => .bad
section
variable {X : Cx} {Γ : Ct} {B : Bs} {W : WX} {k d i : Nat} {p : Addr × Obj} {ga gb gc g go : EX} {gs : List EX} {a b c e o : Expr} {es : List Expr} {pos q : Pos} {x : Str} {D : Addr} {st : Stmt}
theorem x_bad : PE X e (tX Γ B W gBad) := ⟨fun pins s σ H Q I ⟨η, F, α, s1, sr, h⟩ => h.elim⟩
theorem s_bad : PS X st (tS Γ B W gBadS) := ⟨fun pins s σ H D I ⟨η, F, α, s1, sr, h⟩ => h.elim⟩
/-! #### rules where an exception is handled -/
theorem heb {op : Operator} (O : XH X Γ k p) (ha : PE X a (tX Γ B W ga)) (hb : PE X b (tX Γ B W gb)) : PE X (.BinOp a op b pos) (tX Γ B W (gBin (lift2 (binD op)) ga gb)) := x_bin (o_bin O.hK op) ha hb
theorem hec {op : CmpOp} (O : XH X Γ k p) (ha : PE X a (tX Γ B W ga)) (hb : PE X b (tX Γ B W gb)) (hm : behindInMarks op b = false := by first | exact nomark _ | with_unfolding_all rfl) : PE X (.Compare a [op] [b] pos) (tX Γ B W (gBin (lift2 (cmpD op)) ga gb)) := x_cmp (o_cmp O.hK O.hu op) ha hb hm
theorem hyc {op : CmpOp} (O : XH X Γ k p) (ha : PE X a (tX Γ B W ga)) (hb : PE X b (tX Γ B W gb)) (hm : behindInMarks op b = false := by first | exact nomark _ | with_unfolding_all rfl) : PT X (.Compare a [op] [b] pos) (tT Γ B W (toT (gBin (lift2 (cmpD op)) ga gb))) := y_cmp (o_cmp O.hK O.hu op) ha hb hm
theorem heix (O : XH X Γ k p) (ha : PE X a (tX Γ B W ga)) (hb : PE X b (tX Γ B W gb)) (hs : PlainIx b := by intro _ _; rfl) : PE X (.Subscript a b pos) (tX Γ B W (gBin (lift2 atD) ga gb)) := x_ix O.hK ha hb hs
theorem hyp' (O : XH X Γ k p) (ha : PE X a (tX Γ B W ga)) (he : ∀ whole, isTrue a X.env whole = (do let v ← whole; standAt a.pos; holding [v] (truthy v)) := by intro _; rfl) : PT X a (tT Γ B W (toT ga)) := y_plain O.hK ha he
theorem hss {pos' : Pos} (O : XH X Γ k p) (i : Nat) (he : PE X e (tX Γ B W g)) (hi : X.N[i]? = some x := by rfl) (hx : Loc X.env.scope x := by first | exact .inl rfl | exact .inr rfl) (hs : swapsWith e (some (.Name x pos')) pos.line X.env = pure false := by rfl)
    (hf : X.fn x = true ∨ X.env.scope.names.lookup x = some .local := by first | exact .inl rfl | exact .inr rfl) : PS X (.Assign [.Name x pos'] e pos) (tS Γ B W (gSet i g)) := s_set O.nd hi hx he hs hf
/-- isinstance(e, C), C an own class -/
theorem his {dd : Option Addr} {xn cn : Str} {p1 p2 : Pos} {cc : Str} (O : XH X Γ k p) (C : ExcC Γ.K (Γ.cl cc)) (hz : Zc (.ref (Γ.cl cc)) dd p.2 ∧ ∃ vs, p.2.data = .fields vs) (bn : X.mg "isinstance" = none) (i : Nat) {kk : Bool} {A : Addr} (mc : X.mg cn = some (.ref A)) (kit : PySem.W.kitOne Γ.K (.ref (Γ.cl cc)) (.ref A) = some kk)
    (hN : X.N[i]? = some xn := by rfl) (hv : Vis X.env.scope xn := by first | exact Or.inl rfl | exact Or.inr (Or.inl rfl) | exact Or.inr (Or.inr rfl)) (hd : (xn == ("__debug__" : Str)) = false := by decide) (hcd : (xn == ("__classdict__" : Str)) = false := by decide) (hg : Gl X "isinstance" := by rfl) (hgc : Gl X cn := by rfl) (hdc : (cn == ("__debug__" : Str)) = false := by decide)
    (s1 : starEach [.Name xn p1, .Name cn p2] X.env = (false, eval (.Name xn p1) X.env) :: starEach [.Name cn p2] X.env := by rfl) (s2 : starEach [.Name cn p2] X.env = (false, eval (.Name cn p2) X.env) :: starEach [] X.env := by rfl) (hpl : (backTo pos (starEach [.Name cn p2] X.env)).any (·.1) = false := by rfl) :
    PE X (.Call (.Name "isinstance" q) [.Name xn p1, .Name cn p2] [] pos) (tX Γ B W (gIsE p.1 dd i kk)) := by
  have hK := O.hK
  obtain ⟨K, T, cl⟩ := Γ
  have hK : K = X.K := hK
  subst hK
  exact x_isE O C hz.1 hz.2 bn hN hv hd hcd (pe_glob hgc mc (v := .ref A) rfl hdc) (fun u r => r) kit hg s1 s2 hpl
/-- isinstance(e, T), T a built-in one -/
theorem hit {dd : Option Addr} {xn cn : Str} {p1 p2 : Pos} {cc : Str} {T : String} (O : XH X Γ k p) (C : ExcC Γ.K (Γ.cl cc)) (hz : Zc (.ref (Γ.cl cc)) dd p.2 ∧ ∃ vs, p.2.data = .fields vs) (bn : X.mg "isinstance" = none) (i : Nat) {kk : Bool} (mc : X.mg cn = none) (kit : PySem.W.kitOne Γ.K (.ref (Γ.cl cc)) (.type T) = some kk) (hb : bootBuiltins cn = some (.type T) := by first | rfl | kernel_rfl) (hnn : cn ≠ "__name__" := by decide)
    (hN : X.N[i]? = some xn := by rfl) (hv : Vis X.env.scope xn := by first | exact Or.inl rfl | exact Or.inr (Or.inl rfl) | exact Or.inr (Or.inr rfl)) (hd : (xn == ("__debug__" : Str)) = false := by decide) (hcd : (xn == ("__classdict__" : Str)) = false := by decide) (hg : Gl X "isinstance" := by rfl) (hgc : Gl X cn := by rfl) (hdc : (cn == ("__debug__" : Str)) = false := by decide)
    (s1 : starEach [.Name xn p1, .Name cn p2] X.env = (false, eval (.Name xn p1) X.env) :: starEach [.Name cn p2] X.env := by rfl) (s2 : starEach [.Name cn p2] X.env = (false, eval (.Name cn p2) X.env) :: starEach [] X.env := by rfl) (hpl : (backTo pos (starEach [.Name cn p2] X.env)).any (·.1) = false := by rfl) :
    PE X (.Call (.Name "isinstance" q) [.Name xn p1, .Name cn p2] [] pos) (tX Γ B W (gIsE p.1 dd i kk)) := by
  have hK := O.hK
  obtain ⟨K, T', cl⟩ := Γ
  have hK : K = X.K := hK
  subst hK
  exact x_isE O C hz.1 hz.2 bn hN hv hd hcd (pe_bltn hgc mc hb (v := .ty T) rfl hnn hdc) (fun u r => r) kit hg s1 s2 hpl
/-- e.f -/
theorem hxf {dd : Addr} {xn n : Str} {p1 : Pos} {cc : Str} (O : XH X Γ k p) (C : ExcC Γ.K (Γ.cl cc)) (hz : Zc (.ref (Γ.cl cc)) (some dd) p.2 ∧ ∃ vs, p.2.data = .fields vs) (hno : PySem.W.findIn Γ.K (.ref (Γ.cl cc)) n = some none) (i : Nat)
    (hN : X.N[i]? = some xn := by rfl) (hv : Vis X.env.scope xn := by first | exact Or.inl rfl | exact Or.inr (Or.inl rfl) | exact Or.inr (Or.inr rfl)) (hd : (xn == ("__debug__" : Str)) = false := by decide) (hcd : (xn == ("__classdict__" : Str)) = false := by decide)
    (hb : attributeBase (.Name xn p1) n X.env (eval (.Name xn p1) X.env) = eval (.Name xn p1) X.env := by rfl) : PE X (.Attribute (.Name xn p1) n pos) (tX Γ B W (gXf p.1 dd i n)) := by
  have hK := O.hK
  obtain ⟨K, T, cl⟩ := Γ
  have hK : K = X.K := hK
  subst hK
  exact x_xf O C hno hz.1 hz.2 hN hv hd hcd hb
def gXd (a : Addr) (dd : Option Addr) (i : Nat) (f : Str) : EX := match dd with
  | none => gBad
  | some d => gXf a d i f
theorem hxd {dd : Option Addr} {xn n : Str} {p1 : Pos} {cc : Str} (O : XH X Γ k p) (C : ExcC Γ.K (Γ.cl cc)) (hz : Zc (.ref (Γ.cl cc)) dd p.2 ∧ ∃ vs, p.2.data = .fields vs) (hno : ∀ d, dd = some d → PySem.W.findIn Γ.K (.ref (Γ.cl cc)) n = some none) (i : Nat)
    (hN : X.N[i]? = some xn := by rfl) (hv : Vis X.env.scope xn := by first | exact Or.inl rfl | exact Or.inr (Or.inl rfl) | exact Or.inr (Or.inr rfl)) (hd : (xn == ("__debug__" : Str)) = false := by decide) (hcd : (xn == ("__classdict__" : Str)) = false := by decide)
    (hb : attributeBase (.Name xn p1) n X.env (eval (.Name xn p1) X.env) = eval (.Name xn p1) X.env := by rfl) : PE X (.Attribute (.Name xn p1) n pos) (tX Γ B W (gXd p.1 dd i n)) := by
  cases dd with
  | none => exact x_bad
  | some d => exact hxf O C hz (hno d rfl) i hN hv hd hcd hb
theorem hcw {ps : List Str} {Z : Obj → Prop} {fn : Addr → Fn} (O : XH X Γ k p) (z : Z p.2) (Kn : KnoW X.prog X.w Γ X.mg X.base x ps d Z fn) (ha : PA X (e :: es) (tV Γ B W0 (gArgs (g :: gs)))) (hd : d ≤ k := by decide) (hl : (g :: gs).length = ps.length := by rfl) (hg : Gl X x := by rfl)
    (hdb : (x == ("__debug__" : Str)) = false := by decide) (he : starEach (e :: es) X.env = (false, eval e X.env) :: starEach es X.env := by rfl) (hpl : (backTo pos (starEach es X.env)).any (·.1) = false := by rfl) :
    PE X (.Call (.Name x q) (e :: es) [] pos) (tX Γ B W0 (gCall (fn p.1) (g :: gs))) := x_callW O z Kn ha hd hl hg hdb he hpl
end
/-- an exception of the class cc, its dict at dd -/
abbrev Zx (Γ : Ct) (cc : Str) (dd : Option Addr) : Obj → Prop := fun oe => Zc (.ref (Γ.cl cc)) dd oe ∧ ∃ vs, oe.data = .fields vs
/-- the def that tells what a lambda comes to -/
structure SaidK (P : Program) (w : World) (Γ : Ct) (mg : Str → Option Value) (base : Heap) (f a we wd : Str) (st : Stmt) (kw : Nat) (word : Ex → Option D) : Prop where
  ex : ∃ g fd, L2.Fun Γ.K f f st g fd ∧ mg f = some (.ref g) ∧ Binds Γ.K fd [a] []
  mw : ∃ CW : Addr, mg we = some (.ref CW)
  wk : WordK P w Γ mg base wd we kw word
/-- where the def stands whose lambdas are made -/
structure LamK (X : Cx) (Γ : Ct) (q : Str) : Prop where
  ex : ∃ c Pt, TabB X.base X.mg c Pt ∧ X.env.code = .ref c ∧ (Pt, q) ∈ Γ.T ∧ ∀ p ∈ Γ.T, p.1 = Pt → p.2 = q
theorem esd {X : Cx} {Γ : Ct} {B : Bs} {W : WX} {k kw : Nat} {gb : EX} {word : Ex → Option D} {f a x we wd q : Str} {st : Stmt} {params : Arguments} {body : Expr} {scope : Scope} {p lpos pos : Pos} {j0 k0 : Nat} {q0 q1 q2 q3 q4 q5 q6 q7 q8 q9 q10 q11 : Pos}
    (O : XO X Γ W k) (Sd : SaidK X.prog X.w Γ X.mg X.base f a we wd st kw word) (Lm : LamK X Γ q)
    (he : ∀ (A : Around) (outer : List Env) (s : Shared) (H : Hp) (E : XK) (f c' : Addr) (B : Bs), XO (lamN X A outer s H E scope f c') Γ (fun cls d _ H => E cls d H) (k - 2) → PE (lamN X A outer s H E scope f c') body (tX Γ B (fun cls d _ H => E cls d H) gb))
    (Sg : FnScope [a, x] [a] (defScope st))
    (txt : defBody st = [.Try [.Return (some (.Tuple [.Constant (.str "told") j0 q0, .Call (.Name a q1) [] [] q2] k0 q3)) q4] [.ExceptHandler (some (.Name we q5)) (some x) [.Return (some (.Call (.Name wd q6) [.Name x q7] [] q8)) q9] q10] [] [] q11] := by rfl)
    (la : (defScope st).names.lookup a = some .local := by rfl) (lx : (defScope st).names.lookup x = some .local := by rfl) (lw : (defScope st).names.lookup we = some .globalImplicit := by rfl) (ld : (defScope st).names.lookup wd = some .globalImplicit := by rfl)
    (dbg : (f == ("__debug__" : Str)) = false ∧ (a == ("__debug__" : Str)) = false ∧ (a == ("__classdict__" : Str)) = false ∧ (x == ("__debug__" : Str)) = false ∧ (x == ("__classdict__" : Str)) = false ∧ (we == ("__debug__" : Str)) = false ∧ (wd == ("__debug__" : Str)) = false := by decide)
    (hk : kw + 2 ≤ k := by decide) (hk3 : 3 ≤ k := by decide) (hg : Gl X f := by rfl) (eq : X.env.qual ++ "<lambda>" = q := by first | rfl | kernel_rfl) (L : lamSB X.env.scope scope = true := by first | kernel_rfl | rfl) (nodef : defaultsOf params X.env = ([], []) := by rfl)
    (noargs : ∀ (q : Str) (cl : List (Str × Addr)) (pm cv ctv : Value), bindArgs (PySem.W.kla_fn "<lambda>" q params body scope cl pm cv ctv) ⟨[], []⟩ = pure [] := by intro _ _ _ _ _; rfl) :
    PE X (.Call (.Name f p) [.Lambda params body scope lpos] [] pos) (tX Γ B W (gSaid word gb)) := by
  obtain ⟨g, fd, FF, hm, hb⟩ := Sd.ex
  obtain ⟨CW, mw⟩ := Sd.mw
  obtain ⟨c, Pt, TB, code, mT, sole⟩ := Lm.ex
  subst eq
  exact x_said O FF hm hb Sg txt la lx lw ld dbg mw Sd.wk hk hk3 hg TB code mT sole (lamS_by L) nodef noargs he
end Fw

set_option Elab.async false
set_option linter.all false
set_option maxRecDepth 100000
set_option maxHeartbeats 2000000
/-! Fw23: what the head has written, put together. -/
namespace Fw
open PySem PySem.Spec PyProof.Rows L2 LamX L2H
structure FunK (K : PySem.W.Frag) (mg : Str → Option Value) (x : Str) (st : Stmt) : Prop where
  ex : ∃ f fd, L2.Fun K x x st f fd ∧ mg x = some (.ref f)
theorem funK_mk {K : PySem.W.Frag} {h : Heap} {mg : Str → Option Value} {x : Str} {st : Stmt} {f : Addr} {oc : Value} {od an : Option Addr} {osl : Array (Option Value)} {kV doc pm cdv ct : Value} (KX : K.In h) (G : h.Ns mainGlobals mg) (a : PySem.W.nsIn K mainGlobals x = some (some (.ref f)))
    (l : K.lookup f = some ⟨oc, od, .func (PySem.W.fnOf x x (defArgs st) (defBody st) (defScope st) .none kV doc pm an cdv ct), osl⟩) (c : PySem.W.codeIn K cdv x = true) (k : PySem.W.keepIn K (.ref f) = true) : FunK K mg x st := ⟨f, _, fun_mk l c k, PySem.W.mg_of KX G a⟩
def clsOf (K : PySem.W.Frag) (c : Str) : Addr := match PySem.W.nsIn K mainGlobals c with
  | some (some (.ref a)) => a
  | _ => 0
theorem clsOf_is {K : PySem.W.Frag} {c : Str} {A : Addr} (a : PySem.W.nsIn K mainGlobals c = some (some (.ref A))) : clsOf K c = A := by unfold clsOf; rw [a]
theorem exK_mk {K : PySem.W.Frag} {h : Heap} {mg : Str → Option Value} {T : List (Addr × Str)} {c : Str} {A : Addr} (KX : K.In h) (G : h.Ns mainGlobals mg) (a : PySem.W.nsIn K mainGlobals c = some (some (.ref A))) (e : PySem.W.excIn K A [.type "ValueError", .type "Exception", .type "BaseException", .type "object"] "ValueError.__new__" = true)
    (kp : PySem.W.keepIn K (.ref A) = true) (sub : PySem.W.subIn K (.ref A) (.type "BaseException") = some true) (ty : PySem.W.typeIn K (.ref A) = some (.type "type")) : ExK ⟨K, T, clsOf K⟩ mg c := by
  have i := clsOf_is a
  exact ⟨by show mg c = some (.ref (clsOf K c)); rw [i]; exact PySem.W.mg_of KX G a, by show PySem.W.excIn K (clsOf K c) _ _ = true; rw [i]; exact e, by show PySem.W.keepIn K (.ref (clsOf K c)) = true; rw [i]; exact kp,
    by show PySem.W.subIn K (.ref (clsOf K c)) _ = _; rw [i]; exact sub, by show PySem.W.typeIn K (.ref (clsOf K c)) = _; rw [i]; exact ty⟩
theorem kit_mk {K : PySem.W.Frag} {D C : Addr} {b : Bool} (hd : PySem.W.hasDictIn K C = true) (ht : PySem.W.typeIn K (.ref C) = some (.type "type")) (hs : PySem.W.subIn K (.ref D) (.ref C) = some b) (hb : D ≠ C ∨ b = true) : PySem.W.kitOne K (.ref D) (.ref C) = some b := by
  unfold PySem.W.kitOne
  by_cases e : D = C
  · subst e
    rcases hb with z | z
    · exact absurd rfl z
    · rw [z, if_pos (by simp)]
  · rw [if_neg (by simp [e])]
    unfold PySem.W.kitCls
    have h1 : (PySem.W.clsIn K C).isSome = true := by
      unfold PySem.W.hasDictIn at hd
      cases q : PySem.W.clsIn K C with
      | none => rw [q] at hd; cases hd
      | some cd => rfl
    simp only [h1, ht, hs, beq_self_eq_true, Bool.and_self, if_true]
theorem kit_ve {K : PySem.W.Frag} {D : Addr} (hs : PySem.W.subIn K (.ref D) (.type "ValueError") = some true) : PySem.W.kitOne K (.ref D) (.type "ValueError") = some true := by
  unfold PySem.W.kitOne
  rw [if_neg (by simp)]
  show (if PySem.W.kitMeta "ValueError" = true then PySem.W.subIn K (.ref D) (.type "ValueError") else none) = some true
  rw [if_pos (by decide +kernel), hs]
def tabO (o : Obj) : Addr := match o.data with
  | .fields vs => match (vs[11]? : Option Value) with
    | some (.ref P) => P
    | _ => 0
  | _ => 0
def codeO (o : Obj) (c : Addr) : Bool := match o with
  | ⟨.type "code", _, .fields vs, _⟩ => (match (vs[11]? : Option Value) with | some (.ref P') => P' == tabO o | _ => false) &&
      (match vs.getD 18 .none with | .str _ _ => true | _ => false) && (match vs.getD 7 .none with | .int _ _ => true | _ => false) &&
      (match vs.getD 9 .none with | .bool _ => true | _ => false) && (match vs.getD 10 .none with | .int _ _ => true | _ => false) && c != tabO o
  | _ => false
theorem codeHd_mk {K : PySem.W.Frag} {h : Heap} {c : Addr} {o : Obj} (KX : K.In h) (l : K.lookup c = some o) (e : codeO o c = true) : PySem.W.CodeHd h c (tabO o) := by
  refine PySem.W.codeHd_of_K KX ?_
  unfold PySem.W.codeHdIn
  rw [l]
  unfold codeO at e
  split at e
  · exact e
  · cases e
end Fw
namespace Fw
open PySem PySem.Spec PyProof.Rows L2 LamX L2H
def clsStmt (s : Stmt) (j : Nat) : Stmt := match s with
  | .ClassDef _ _ _ body .. => body.getD j (.Pass ⟨0, 0, 0, 0⟩)
  | _ => .Pass ⟨0, 0, 0, 0⟩
theorem ini_ok {P : Program} {w : World} {Γ : Ct} {mg : Str → Option Value} {base : Heap} {qual : Str} {st : Stmt} {f D : Addr} {fd : FuncData} {mc : Value} {p1 p2 p3 p4 p5 p6 p7 p8 p9 p10 : Pos} (FF : L2.Fun Γ.K "__init__" qual st f fd) (hS : FnScope ["self", "line"] ["self", "line"] (defScope st))
    (txt : defBody st = [.Expr (.Call (.Attribute (.Name "WaterError" p1) "__init__" p2) [.Name "self" p3, .Name "line" p4] [] p5) p6, .Assign [.Attribute (.Name "self" p7) "line" p8] (.Name "line" p9) p10])
    (l1 : (defScope st).names.lookup ("self" : Str) = some .local) (l2 : (defScope st).names.lookup ("line" : Str) = some .local) (l3 : (defScope st).names.lookup ("WaterError" : Str) = some .globalImplicit) (hm : mg "WaterError" = some (.ref D)) (dbg : (("WaterError" : Str) == ("__debug__" : Str)) = false ∧ (("line" : Str) == ("__debug__" : Str)) = false ∧ (("line" : Str) == ("__classdict__" : Str)) = false)
    (ga : PySem.W.specialIn Γ.K (.ref D) "__getattribute__" = some (some (.builtin "type.__getattribute__"))) (tm : PySem.W.typeIn Γ.K (.ref D) = some mc) (rd : PySem.W.readsIn Γ.K D mc = true) (fv : PySem.W.findCls Γ.K (.ref D) mc "__init__" = some (.val (.builtin "ValueError.__init__")))
    {pl : Env → Sem Bool} (hc : ∀ env : Env, eval (.Call (.Attribute (.Name "WaterError" p1) "__init__" p2) [.Name "self" p3, .Name "line" p4] [] p5) env = (do
      let ov ← eval (.Name "WaterError" p1) env
      standAt p2.atName
      let (f, first) ← holding [ov] (getMethod ov "__init__" (pl env))
      callWith p5 f first (backTo p5 (starEach [.Name "self" p3, .Name "line" p4] env)) (backToKw p5 (keywordEach [] env))) := by intro _; rfl) :
    FnOk P w Γ.K mg base (L2N.CX P w) 1 f fd ["self", "line"] (spIni Γ.K "line") := by
  obtain ⟨oc, od, kV, doc, pm, an, cdv, ct, osl, rfl, lk, rec⟩ := FF.ex
  refine fn_of (k := 0) lk rec hS (fun vs H Q E h => by obtain ⟨a, C, y, rfl, _⟩ := h; rfl) fun A outer s H vs Q E hr hsp => ?_
  obtain ⟨a, C, y, rfl, T, hno, ha, q⟩ := hsp
  rw [txt]
  refine ⟨_, pss_cons (ps_expr (pe_baseInit (pl := pl _) l3 hm dbg.1 ga tm rd fv (pa_cons (pe_var (i := 0) rfl (.inl l1)) (pa_cons (pe_var (i := 1) rfl (.inl l2) dbg.2.1 dbg.2.2) pa_nil)) (hc _) rfl rfl)) (pss_one (ps_ost (pe_var (i := 0) rfl (.inl l1)) (pe_var (i := 1) rfl (.inl l2) dbg.2.1 dbg.2.2))), ?_⟩
  exact ⟨.ref a, rfl, y, rfl, a, C, [y], rfl, by simp, T, ha, y, rfl, .ref a, rfl, a, C, rfl, T, hno, .inl ⟨ha, fun dx n ne => q dx n ne⟩⟩
end Fw

set_option Elab.async false
set_option linter.all false
set_option maxRecDepth 100000
set_option maxHeartbeats 2000000
/-! Fw24: the law's def at the head. -/
namespace Fw
open PySem PySem.Spec PyProof.Rows L2 LamX L2H
/-- what the law's reading must come to -/
def Wish (n : Nat) (fn : Fn) : Prop := ∀ ns : List Int, ns.length ≤ n → (∀ z ∈ ns, Builtin.Int.intBits z ≤ 1048576) → ∃ st', fn [.scr ns] [] = .ok (.fz (.bl true)) st'
theorem lawG_mk1 {P : Program} {w : World} {K : PySem.W.Frag} {h : Heap} {mg : Str → Option Value} {n kk : Nat} {x q : Str} {st : Stmt} {fa f c : Addr} {oc : Value} {od an : Option Addr} {osl : Array (Option Value)} {kV doc pm ct : Value} {o : Obj} {fn : Fn} (KX : K.In h) (G : h.Ns mainGlobals mg) (hmg : mg "law" = some (.ref fa))
    (a : PySem.W.nsIn K mainGlobals "law" = some (some (.ref f))) (l : K.lookup f = some ⟨oc, od, .func (PySem.W.fnOf "law" "law" (defArgs st) (defBody st) (defScope st) .none kV doc pm an (.ref c) ct), osl⟩) (cc : PySem.W.codeIn K (.ref c) "law" = true) (k : PySem.W.keepIn K (.ref f) = true) (lc : K.lookup c = some o)
    (ok : codeO o c = true) (tb : h.get? (tabO o) = some { cls := .none, data := .fields #[] }) (nk : K.lookup (tabO o) = none) (binds : ∀ (kV doc pm : Value) (an : Option Addr) (cd ct : Value) (s : Shared) (v : Value), BindsTo s (PySem.W.fnOf "law" "law" (defArgs st) (defBody st) (defScope st) .none kV doc pm an cd ct) ⟨[v], []⟩ [(x, v)]) (wish : Wish n fn)
    (rest : ∀ (fd : FuncData) (base : Heap), L2.Fun K "law" "law" st fa fd → K.In base → base.Ns mainGlobals mg → (∃ c Pt, fd.code = .ref c ∧ TabB base mg c Pt ∧ (Pt, q) ∈ [(tabO o, q)] ∧ ∀ p ∈ [(tabO o, q)], p.1 = Pt → p.2 = q) → FnG P w ⟨K, [(tabO o, q)], clsOf K⟩ mg base kk fa fd [x] fn) :
    LawG P w K kk n x mg fa h := by
  have e := hmg.symm.trans (PySem.W.mg_of KX G a)
  cases e
  refine ⟨⟨K, [(tabO o, q)], clsOf K⟩, _, [(c, tabO o)], fn, rfl, fun p hp => ?_, fun p hp => ?_, fun p hp => ?_, binds kV doc pm an (.ref c) ct, fun p hp => ?_, fun p hp => ?_, wish, fun base kb gb TB => rest _ base (fun_mk l cc k) kb gb ⟨c, tabO o, rfl, TB (c, tabO o) (List.mem_singleton.mpr rfl), List.mem_singleton.mpr rfl, fun p hp _ => by rw [List.mem_singleton.mp hp]⟩⟩
  · rw [List.mem_singleton.mp hp]; exact tb
  · rw [List.mem_singleton.mp hp]; exact nk
  · rw [List.mem_singleton.mp hp]; exact codeHd_mk KX lc ok
  · rw [List.mem_singleton.mp hp]; simp
  · rw [List.mem_singleton.mp hp]; exact ⟨q, List.mem_singleton.mpr rfl⟩
theorem lawG_mk0 {P : Program} {w : World} {K : PySem.W.Frag} {h : Heap} {mg : Str → Option Value} {n kk : Nat} {x : Str} {st : Stmt} {fa f : Addr} {oc : Value} {od an : Option Addr} {osl : Array (Option Value)} {kV doc pm cd ct : Value} {fn : Fn} (KX : K.In h) (G : h.Ns mainGlobals mg) (hmg : mg "law" = some (.ref fa))
    (a : PySem.W.nsIn K mainGlobals "law" = some (some (.ref f))) (l : K.lookup f = some ⟨oc, od, .func (PySem.W.fnOf "law" "law" (defArgs st) (defBody st) (defScope st) .none kV doc pm an cd ct), osl⟩) (cc : PySem.W.codeIn K cd "law" = true) (k : PySem.W.keepIn K (.ref f) = true)
    (binds : ∀ (kV doc pm : Value) (an : Option Addr) (cd ct : Value) (s : Shared) (v : Value), BindsTo s (PySem.W.fnOf "law" "law" (defArgs st) (defBody st) (defScope st) .none kV doc pm an cd ct) ⟨[v], []⟩ [(x, v)]) (wish : Wish n fn)
    (rest : ∀ (fd : FuncData) (base : Heap), L2.Fun K "law" "law" st fa fd → K.In base → base.Ns mainGlobals mg → FnG P w ⟨K, [], clsOf K⟩ mg base kk fa fd [x] fn) :
    LawG P w K kk n x mg fa h := by
  have e := hmg.symm.trans (PySem.W.mg_of KX G a)
  cases e
  exact ⟨⟨K, [], clsOf K⟩, _, [], fn, rfl, fun p hp => absurd hp List.not_mem_nil, fun p hp => absurd hp List.not_mem_nil, fun p hp => absurd hp List.not_mem_nil, binds kV doc pm an cd ct, fun p hp => absurd hp List.not_mem_nil, fun p hp => absurd hp List.not_mem_nil, wish, fun base kb gb _ => rest _ base (fun_mk l cc k) kb gb⟩
/-- an exception's class, as isinstance asks of it -/
theorem excC_mk {K : PySem.W.Frag} {A : Addr} (h1 : PySem.W.findIn K (.ref A) "__getattribute__" = some (some (.builtin "BaseException.__getattribute__"))) (h2 : PySem.W.findIn K (.ref A) "__getattr__" = some none) (h3 : PySem.W.subIn K (.ref A) (.type "BaseException") = some true) (h4 : PySem.W.hasDictIn K A = true)
    (h5 : PySem.W.findIn K (.ref A) "__class__" = some (some (.builtin "object.__class__"))) (h6 : PySem.W.specialIn K (.builtin "object.__class__") "__get__" = some (some (.builtin "getset_descriptor.__get__"))) (h7 : PySem.W.takesIn K (.builtin "object.__class__") = some true) (h8 : PySem.W.mroIn K A (.type "object") = some true) : ExcC K A := ⟨h1, h2, h3, h4, h5, h6, h7, h8⟩
end Fw

set_option Elab.async false
set_option linter.all false
set_option maxRecDepth 100000
set_option maxHeartbeats 2000000
/-! Fw25: the classes of exceptions at the head. -/
namespace Fw
open PySem PySem.Spec PyProof.Rows L2 LamX L2H
section
variable {K : PySem.W.Frag} {h : Heap} {mg : Str → Option Value} {cc C : Str} {A A2 : Addr} {b : Bool}
theorem kitC_mk (KX : K.In h) (G : h.Ns mainGlobals mg) (a : PySem.W.nsIn K mainGlobals cc = some (some (.ref A))) (a2 : PySem.W.nsIn K mainGlobals C = some (some (.ref A2))) (hd : PySem.W.hasDictIn K A2 = true) (ht : PySem.W.typeIn K (.ref A2) = some (.type "type")) (hs : PySem.W.subIn K (.ref A) (.ref A2) = some b) (hb : A ≠ A2 ∨ b = true) (hT : (C == cc) = b) :
    mg C = some (.ref (clsOf K C)) ∧ PySem.W.kitOne K (.ref (clsOf K cc)) (.ref (clsOf K C)) = some (C == cc) := by
  rw [clsOf_is a, clsOf_is a2, hT]
  exact ⟨PySem.W.mg_of KX G a2, kit_mk hd ht hs hb⟩
theorem kitV_mk (KX : K.In h) (a : PySem.W.nsIn K mainGlobals cc = some (some (.ref A))) (hs : PySem.W.subIn K (.ref A) (.type "ValueError") = some true) : PySem.W.kitOne K (.ref (clsOf K cc)) (.type "ValueError") = some true := by
  rw [clsOf_is a]; exact kit_ve hs
theorem excA_mk (KX : K.In h) (a : PySem.W.nsIn K mainGlobals cc = some (some (.ref A))) (h1 : PySem.W.findIn K (.ref A) "__getattribute__" = some (some (.builtin "BaseException.__getattribute__"))) (h2 : PySem.W.findIn K (.ref A) "__getattr__" = some none) (h3 : PySem.W.subIn K (.ref A) (.type "BaseException") = some true) (h4 : PySem.W.hasDictIn K A = true)
    (h5 : PySem.W.findIn K (.ref A) "__class__" = some (some (.builtin "object.__class__"))) (h6 : PySem.W.specialIn K (.builtin "object.__class__") "__get__" = some (some (.builtin "getset_descriptor.__get__"))) (h7 : PySem.W.takesIn K (.builtin "object.__class__") = some true) (h8 : PySem.W.mroIn K A (.type "object") = some true) : ExcC K (clsOf K cc) := by
  rw [clsOf_is a]; exact ⟨h1, h2, h3, h4, h5, h6, h7, h8⟩
theorem hno_mk {c f : Str} (KX : K.In h) (a : PySem.W.nsIn K mainGlobals c = some (some (.ref A))) (n : PySem.W.findIn K (.ref A) f = some none) : PySem.W.findIn K (.ref (clsOf K c)) f = some none := by
  rw [clsOf_is a]; exact n
theorem exmC_mk (KX : K.In h) (G : h.Ns mainGlobals mg) (a : PySem.W.nsIn K mainGlobals cc = some (some (.ref A))) (a2 : PySem.W.nsIn K mainGlobals C = some (some (.ref A2))) (h1 : PySem.W.subIn K (.ref A2) (.type "BaseException") = some true) (hd : PySem.W.hasDictIn K A2 = true) (ht : PySem.W.typeIn K (.ref A2) = some (.type "type")) (h4 : PySem.W.subIn K (.ref A) (.ref A2) = some true) :
    ∃ B, mg C = some (.ref B) ∧ PySem.W.exmOne K (.ref (clsOf K cc)) (.ref B) = some true := by
  rw [clsOf_is a]
  exact ⟨A2, PySem.W.mg_of KX G a2, PySem.W.exm_ref h1 hd ht h4⟩
/-- the class with its own __init__ -/
theorem exT_mk {st : Stmt} {qual c : Str} {T : List (Addr × Str)} {fI D : Addr} {mc : Value} {nm q : Str} {N : Addr} {bs bm : List Value} {sn : List Str} {sub : List Value} {ab : Bool} {col : Option Bool} {dd : Option Addr} {k0 k1 k2 k3 k5 : Option Value} {oc : Value} {od an : Option Addr} {osl : Array (Option Value)} {kV doc pm cdv ct : Value}
    {p1 p2 p3 p4 p5 p6 p7 p8 p9 p10 : Pos} {pl : Env → Sem Bool} (KX : K.In h) (G : h.Ns mainGlobals mg) (a : PySem.W.nsIn K mainGlobals c = some (some (.ref A)))
    (cls : K.lookup A = some (excClassObj nm q A N bs bm true sn sub ab col dd k0 k1 k2 k3 k5 "ValueError.__new__")) (sa : PySem.W.findIn K (.ref A) "__setattr__" = some (some (.builtin "object.__setattr__"))) (exC : PySem.W.subIn K (.ref A) (.type "BaseException") = some true) (tyC : PySem.W.typeIn K (.ref A) = some (.type "type"))
    (kC : PySem.W.keepIn K (.ref A) = true) (no : PySem.W.findIn K (.ref A) "line" = some none) (iC : PySem.W.findIn K (.ref A) "__init__" = some (some (.ref fI))) (tI : PySem.W.typeIn K (.ref fI) = some (.type "function"))
    (l : K.lookup fI = some ⟨oc, od, .func (PySem.W.fnOf "__init__" qual (defArgs st) (defBody st) (defScope st) .none kV doc pm an cdv ct), osl⟩) (cI : PySem.W.codeIn K cdv qual = true) (kI : PySem.W.keepIn K (.ref fI) = true)
    (aW : PySem.W.nsIn K mainGlobals "WaterError" = some (some (.ref D))) (ga : PySem.W.specialIn K (.ref D) "__getattribute__" = some (some (.builtin "type.__getattribute__"))) (tm : PySem.W.typeIn K (.ref D) = some mc) (rd : PySem.W.readsIn K D mc = true) (fv : PySem.W.findCls K (.ref D) mc "__init__" = some (.val (.builtin "ValueError.__init__")))
    (refs : PySem.HandSPX.refsVE bm = true) (hS : FnScope ["self", "line"] ["self", "line"] (defScope st))
    (txt : defBody st = [.Expr (.Call (.Attribute (.Name "WaterError" p1) "__init__" p2) [.Name "self" p3, .Name "line" p4] [] p5) p6, .Assign [.Attribute (.Name "self" p7) "line" p8] (.Name "line" p9) p10])
    (l1 : (defScope st).names.lookup ("self" : Str) = some .local) (l2 : (defScope st).names.lookup ("line" : Str) = some .local) (l3 : (defScope st).names.lookup ("WaterError" : Str) = some .globalImplicit)
    (hc : ∀ env : Env, eval (.Call (.Attribute (.Name "WaterError" p1) "__init__" p2) [.Name "self" p3, .Name "line" p4] [] p5) env = (do
      let ov ← eval (.Name "WaterError" p1) env
      standAt p2.atName
      let (f, first) ← holding [ov] (getMethod ov "__init__" (pl env))
      callWith p5 f first (backTo p5 (starEach [.Name "self" p3, .Name "line" p4] env)) (backToKw p5 (keywordEach [] env))))
    (hb : ∀ (kV doc pm : Value) (an : Option Addr) (cdv ct : Value) (us : List Value), us.length = (["self", "line"] : List Str).length → bindArgs (PySem.W.fnOf "__init__" qual (defArgs st) (defBody st) (defScope st) .none kV doc pm an cdv ct) ⟨us, []⟩ = pure ((["self", "line"] : List Str).zip us)) :
    ∀ (P : Program) (w : World) (base : Heap), ExT P w ⟨K, T, clsOf K⟩ mg base c "line" := fun P w base => by
  have e := clsOf_is a
  have F := fun_mk (st := st) l cI kI
  refine ⟨?_, ?_, ?_, ?_⟩
  · show mg c = some (.ref (clsOf K c)); rw [e]; exact PySem.W.mg_of KX G a
  · show OexC K (clsOf K c); rw [e]
    exact ⟨⟨nm, q, N, bs, bm, sn, sub, ab, col, dd, k0, k1, k2, k3, k5, cls, refs⟩, sa, exC, tyC, kC⟩
  · show PySem.W.findIn K (.ref (clsOf K c)) "line" = some none; rw [e]; exact no
  · show ∃ fI fd ps, PySem.W.findIn K (.ref (clsOf K c)) "__init__" = some (some (.ref fI)) ∧ _
    rw [e]
    exact ⟨fI, _, _, iC, tI, ini_ok (Γ := ⟨K, T, clsOf K⟩) (pl := pl) F hS txt l1 l2 l3 (PySem.W.mg_of KX G aW) ⟨by decide, by decide, by decide⟩ ga tm rd fv hc, F.binds hb⟩
theorem knoK_mk {P : Program} {w : World} {Γ : Ct} {base : Heap} {x : Str} {ps ks : List Str} {d : Nat} {fn : Fn} (Kn : ∃ f fd, FnOk P w Γ.K mg base (L2N.CX P w) d f fd ps (spD Γ ps.length fn) ∧ mg x = some (.ref f) ∧ PySem.W.keepIn Γ.K (.ref f) = true ∧ KBinds Γ.K fd ps ks (fun us ws => us ++ ws) (fun vs zs => vs ++ zs)) : KnoK P w Γ mg base x ps ks d fn := ⟨Kn⟩
end
theorem kb1 {K : PySem.W.Frag} {fd : FuncData} {a : Str} (h : ∀ (s : Shared) (u : Value), K.In s.heap → BindsTo s fd ⟨[], [(a, u)]⟩ [(a, u)]) (h0 : ∀ (s : Shared) (u : Value), K.In s.heap → BindsTo s fd ⟨[u], []⟩ [(a, u)]) : KBinds K fd [a] [a] (fun us ws => us ++ ws) (fun vs zs => vs ++ zs) where
  to := fun s us ws kin hl => by
    rcases us with _ | ⟨u, us⟩
    · rcases ws with _ | ⟨v, _ | ⟨v2, ws⟩⟩
      · simp at hl
      · exact h s v kin
      · simp at hl
    · rcases us with _ | ⟨u2, us⟩
      · rcases ws with _ | ⟨v, ws⟩
        · exact h0 s u kin
        · simp at hl
      · simp at hl
  rel := fun r q => r.append q
end Fw
namespace Fw
open PySem PySem.Spec PyProof.Rows L2
/-- a constant of the module -/
theorem con_mk {K : PySem.W.Frag} {h : Heap} {mg : Str → Option Value} {c : Str} {u : Value} {d : D} (KX : K.In h) (G : h.Ns mainGlobals mg) (a : PySem.W.nsIn K mainGlobals c = some (some u)) (e : kD 9 K u = some d) : ∃ u, mg c = some u ∧ KRep K u d := ⟨u, PySem.W.mg_of KX G a, kD_ok 9 e⟩
end Fw

set_option Elab.async false
set_option linter.all false
set_option maxRecDepth 100000
set_option maxHeartbeats 4000000
/-! En1: readings run from the root: what must hold of what comes next. -/
namespace En
open PySem PySem.Spec PyProof.Rows L2 Fw
/-- a mark by which simp leaves an argument alone -/
class Fx {A : Type} (a : A) : Type where
  x : Unit := ()
instance fx {A : Type} (a : A) : Fx a := ⟨()⟩
def wR {b : Type} (r : R b) (K : b → S → Prop) (E : Ex → S → Prop) [Fx K] [Fx E] : Prop := match r with
  | .ok x s => K x s
  | .ex x s => E x s
  | .bad => False
def wF (r : FR) (K : RV → List Cell → Prop) (E : Ex → List Cell → Prop) [Fx K] [Fx E] : Prop := match r with
  | .ok (.fz d) st => K (.fz d) st
  | .ok (.ow d) st => K (.ow d) st
  | .ok (.ln _) _ => False
  | .ex x st => E x st
  | .bad => False
def wS (r : RS) (N : S → Prop) (T : RV → S → Prop) (B C : S → Prop) (E : Ex → S → Prop) [Fx N] [Fx T] [Fx B] [Fx C] [Fx E] : Prop := match r with
  | .nx s => N s
  | .rt x s => T x s
  | .bk s => B s
  | .ct s => C s
  | .ex x s => E x s
  | .bad => False
def wL (s : S) (r : RV) (K : D → Prop) [Fx s] [Fx K] : Prop := match look s r with
  | some d => K d
  | none => False
def wLs0 (s : S) : List RV → (List D → Prop) → Prop
  | [], K => K []
  | r :: rs, K => wL s r fun d => wLs0 s rs fun ds => K (d :: ds)
def wLs (s : S) (rs : List RV) (K : List D → Prop) [Fx s] [Fx K] : Prop := wLs0 s rs K
def wK (r : RV) (K : RV → Prop) [Fx K] : Prop := K r.keep
def wT (g : EX) (s : S) (L : Bool → S → Prop) (E : Ex → S → Prop) [Fx s] [Fx L] [Fx E] : Prop := wR (toT g s) L E
def wSt (r : RV) (s : S) (K : D → S → Prop) [Fx s] [Fx K] : Prop := match Fw.settle r s with
  | some (d, s') => K d s'
  | none => False
def wSA0 : List RV → S → (List D → S → Prop) → Prop
  | [], s, K => K [] s
  | r :: rs, s, K => wSt r s fun d s1 => wSA0 rs s1 fun ds s2 => K (d :: ds) s2
def wSA (rs : List RV) (s : S) (K : List D → S → Prop) [Fx s] [Fx K] : Prop := wSA0 rs s K
def wO (o : Out) (s : S) (K : RV → S → Prop) [Fx s] [Fx K] : Prop := match o with
  | .val d => K (.fz d) s
  | .nt ds => K (.fz (.tup ds)) s
  | .nl ds => K (.ow (.lst ds)) s
  | .no => False
def wTr (d : D) (K : Bool → Prop) [Fx K] : Prop := match truD d with
  | some b => K b
  | none => False
def cnd (b : Bool) (p q : Prop) [Fx p] [Fx q] : Prop := match b with
  | true => p
  | false => q
def wSto (i : Nat) (r : RV) (s : S) (N : S → Prop) [Fx N] : Prop := match store i r s with
  | some s' => N s'
  | none => False
def wG (p : GX) (r : RV) (s : S) (N : S → Prop) [Fx s] [Fx N] : Prop := match p r s with
  | .ok _ s' => N s'
  | _ => False
def wTup (d : D) (K : List D → Prop) [Fx K] : Prop := match d with
  | .tup ds => K ds
  | _ => False
def wGs0 : List GX → List D → S → (S → Prop) → Prop
  | [], [], s, N => N s
  | p :: ps, d :: ds, s, N => wG p (.fz d) s fun s1 => wGs0 ps ds s1 N
  | _, _, _, _ => False
def wGs (ps : List GX) (ds : List D) (s : S) (N : S → Prop) [Fx ps] [Fx s] [Fx N] : Prop := wGs0 ps ds s N
def wCh (f : D → Option D) (r : RV) (s : S) (N : S → Prop) [Fx s] [Fx N] : Prop := match change f r s with
  | some s' => N s'
  | none => False
def wOp (o : Option D) (K : D → Prop) [Fx K] : Prop := match o with
  | some d => K d
  | none => False
def wHo (r : RV) (s : S) (K : Sl → S → Prop) [Fx s] [Fx K] : Prop := match hold r s with
  | some (x, s') => K x s'
  | none => False
def wSet (is : List Nat) (xs : List Sl) (s : S) (N : S → Prop) [Fx s] [Fx N] : Prop := N (setAll is xs s)
def wS1 (i : Nat) (x : Sl) (s : S) (N : S → Prop) [Fx N] : Prop := N { s with sl := s.sl.set i x }
def wTA (ps : List GX) (xs : List Sl) (s : S) (N : S → Prop) [Fx s] [Fx N] : Prop := match tgtAll ps xs s with
  | .ok _ s' => N s'
  | _ => False
def wIs (b : Bool) (p : Prop) [Fx p] : Prop := match b with
  | true => p
  | false => False
def wPro (r : RV) (s : S) (K : RV → S → Prop) [Fx K] : Prop := match r with
  | .ow (.lst ds) => K (.fz (.obj s.st.length)) { s with st := s.st ++ [.lst ds] }
  | _ => False
def wInt (d : D) (K : Int → Prop) [Fx K] : Prop := match d with
  | .int i => K i
  | _ => False
def wItems (d : D) (K : List D → Prop) [Fx K] : Prop := match itemsD d with
  | some ds => K ds
  | none => False
def wStr (d : D) (K : Str → Prop) [Fx K] : Prop := match d with
  | .str x => K x
  | _ => False
def wRet (r : RV) (s : S) (T : RV → S → Prop) [Fx s] [Fx T] : Prop := match r with
  | .ln i => match s.sl[i]? with
    | some (.ow d) => T (.ow d) s
    | some (.fz d) => T (.fz d) s
    | _ => False
  | r => T r s
def wFo (r : RV) (st : List Cell) (K : RV → List Cell → Prop) [Fx st] [Fx K] : Prop := match r with
  | .fz d => K (.fz d) st
  | .ow d => K (.ow d) st
  | .ln _ => False
def isObj : D → Bool
  | .obj _ => true
  | _ => false
variable {b g : Type} {K : RV → S → Prop} {E : Ex → S → Prop} {N B C : S → Prop} {TT : RV → S → Prop} {s : S} {sl : List Sl} {st : List Cell} {d : D} {ga gb gc : EX} {gs : List EX} {h k : SX} {r : RV} {p q : Prop}
theorem cndP : cnd true p q = p := rfl
theorem cndQ : cnd false p q = q := rfl
theorem cndN {x : Bool} : cnd (!x) p q = cnd x q p := by cases x <;> rfl
theorem cnd_dec {c : Prop} [Decidable c] : cnd (decide c) p q = ((c → p) ∧ (¬c → q)) := by
  by_cases h : c
  · rw [decide_eq_true h]; exact propext ⟨fun x => ⟨fun _ => x, fun z => absurd h z⟩, fun x => x.1 h⟩
  · rw [decide_eq_false h]; exact propext ⟨fun x => ⟨fun z => absurd z h, fun _ => x⟩, fun x => x.2 h⟩
theorem cnd_if {c : Prop} [Decidable c] (hp : c → p) (hq : ¬c → q) : cnd (decide c) p q := by rw [cnd_dec]; exact ⟨hp, hq⟩
theorem cnd_of {x : Bool} (hp : x = true → p) (hq : x = false → q) : cnd x p q := by cases x; exact hq rfl; exact hp rfl
theorem wR_cg {r : R b} {K K1 : b → S → Prop} (h : ∀ x s, K x s = K1 x s) : wR r K E = wR r K1 E := by
  have e : K = K1 := funext fun x => funext fun s => h x s
  subst e; rfl
theorem wSA_cg {rs : List RV} {s : S} {K K1 : List D → S → Prop} (h : ∀ x s, K x s = K1 x s) : wSA rs s K = wSA rs s K1 := by
  have e : K = K1 := funext fun x => funext fun s => h x s
  subst e; rfl
theorem bindR {r : R b} {f : b → S → R g} {K : g → S → Prop} : wR (r.bind f) K E = wR r (fun x s1 => wR (f x s1) K E) E := by cases r <;> rfl
theorem toSR {r : R b} {f : b → S → RS} : wS (r.toS f) N TT B C E = wR r (fun x s1 => wS (f x s1) N TT B C E) E := by cases r <;> rfl
theorem l_non {L : D → Prop} : wL s (.fz (.non)) L = L (.non) := rfl
theorem l_bl {x : Bool}{L : D → Prop} : wL s (.fz (.bl x)) L = L (.bl x) := rfl
theorem l_int {x : Int}{L : D → Prop} : wL s (.fz (.int x)) L = L (.int x) := rfl
theorem l_str {x : Str}{L : D → Prop} : wL s (.fz (.str x)) L = L (.str x) := rfl
theorem l_tup {x : List D}{L : D → Prop} : wL s (.fz (.tup x)) L = L (.tup x) := rfl
theorem l_lst {x : List D}{L : D → Prop} : wL s (.fz (.lst x)) L = L (.lst x) := rfl
theorem l_dic {x : List (D × D)}{L : D → Prop} : wL s (.fz (.dic x)) L = L (.dic x) := rfl
theorem l_scr {x : List Int}{L : D → Prop} : wL s (.fz (.scr x)) L = L (.scr x) := rfl
theorem l_ty {x : String}{L : D → Prop} : wL s (.fz (.ty x)) L = L (.ty x) := rfl
theorem l_exc {x : Nat}{L : D → Prop} : wL s (.fz (.exc x)) L = L (.exc x) := rfl
theorem l_any {L : D → Prop} (hd : isObj d = false) : wL s (.fz d) L = L d := by cases d <;> first | rfl | (cases hd)
theorem l_ow {L : D → Prop} : wL s (.ow d) L = L d := rfl
theorem l_lnow0 {L : D → Prop} : wL ⟨.ow d :: sl, st⟩ (.ln 0) L = L d := rfl
theorem v_ow0 : wR (gVar 0 ⟨.ow d :: sl, st⟩) K E = K (.ln 0) ⟨.ow d :: sl, st⟩ := rfl
theorem st_lnow0 {L : D → S → Prop} : wSt (.ln 0) ⟨.ow d :: sl, st⟩ L = L d ⟨.fz d :: sl, st⟩ := rfl
theorem rt_lnow0 : wRet (.ln 0) ⟨.ow d :: sl, st⟩ TT = TT (.ow d) ⟨.ow d :: sl, st⟩ := rfl
theorem l_lnfz0 {L : D → Prop} : wL ⟨.fz d :: sl, st⟩ (.ln 0) L = L d := rfl
theorem v_fz0 : wR (gVar 0 ⟨.fz d :: sl, st⟩) K E = K (.fz d) ⟨.fz d :: sl, st⟩ := rfl
theorem st_lnfz0 {L : D → S → Prop} : wSt (.ln 0) ⟨.fz d :: sl, st⟩ L = L d ⟨.fz d :: sl, st⟩ := rfl
theorem rt_lnfz0 : wRet (.ln 0) ⟨.fz d :: sl, st⟩ TT = TT (.fz d) ⟨.fz d :: sl, st⟩ := rfl
theorem so_fz0 {y : Sl} : wSto 0 (.fz d) ⟨y :: sl, st⟩ N = N ⟨.fz d :: sl, st⟩ := rfl
theorem so_ow0 {y : Sl} : wSto 0 (.ow d) ⟨y :: sl, st⟩ N = N ⟨.ow d :: sl, st⟩ := rfl
theorem s1_0 {y z : Sl} : wS1 0 z ⟨y :: sl, st⟩ N = N ⟨z :: sl, st⟩ := rfl
theorem ch_ow0 {f : D → Option D} : wCh f (.ln 0) ⟨.ow d :: sl, st⟩ N = wOp (f d) fun d1 => N ⟨.ow d1 :: sl, st⟩ := by show (match (match f d with | some d1 => some _ | none => none) with | some s1 => N s1 | none => False) = (match f d with | some d1 => N _ | none => False); cases f d <;> rfl
theorem l_lnow1 {x0 : Sl} {L : D → Prop} : wL ⟨x0 :: .ow d :: sl, st⟩ (.ln 1) L = L d := rfl
theorem v_ow1 {x0 : Sl}  : wR (gVar 1 ⟨x0 :: .ow d :: sl, st⟩) K E = K (.ln 1) ⟨x0 :: .ow d :: sl, st⟩ := rfl
theorem st_lnow1 {x0 : Sl} {L : D → S → Prop} : wSt (.ln 1) ⟨x0 :: .ow d :: sl, st⟩ L = L d ⟨x0 :: .fz d :: sl, st⟩ := rfl
theorem rt_lnow1 {x0 : Sl}  : wRet (.ln 1) ⟨x0 :: .ow d :: sl, st⟩ TT = TT (.ow d) ⟨x0 :: .ow d :: sl, st⟩ := rfl
theorem l_lnfz1 {x0 : Sl} {L : D → Prop} : wL ⟨x0 :: .fz d :: sl, st⟩ (.ln 1) L = L d := rfl
theorem v_fz1 {x0 : Sl}  : wR (gVar 1 ⟨x0 :: .fz d :: sl, st⟩) K E = K (.fz d) ⟨x0 :: .fz d :: sl, st⟩ := rfl
theorem st_lnfz1 {x0 : Sl} {L : D → S → Prop} : wSt (.ln 1) ⟨x0 :: .fz d :: sl, st⟩ L = L d ⟨x0 :: .fz d :: sl, st⟩ := rfl
theorem rt_lnfz1 {x0 : Sl}  : wRet (.ln 1) ⟨x0 :: .fz d :: sl, st⟩ TT = TT (.fz d) ⟨x0 :: .fz d :: sl, st⟩ := rfl
theorem so_fz1 {x0 : Sl} {y : Sl} : wSto 1 (.fz d) ⟨x0 :: y :: sl, st⟩ N = N ⟨x0 :: .fz d :: sl, st⟩ := rfl
theorem so_ow1 {x0 : Sl} {y : Sl} : wSto 1 (.ow d) ⟨x0 :: y :: sl, st⟩ N = N ⟨x0 :: .ow d :: sl, st⟩ := rfl
theorem s1_1 {x0 : Sl} {y z : Sl} : wS1 1 z ⟨x0 :: y :: sl, st⟩ N = N ⟨x0 :: z :: sl, st⟩ := rfl
theorem ch_ow1 {x0 : Sl} {f : D → Option D} : wCh f (.ln 1) ⟨x0 :: .ow d :: sl, st⟩ N = wOp (f d) fun d1 => N ⟨x0 :: .ow d1 :: sl, st⟩ := by show (match (match f d with | some d1 => some _ | none => none) with | some s1 => N s1 | none => False) = (match f d with | some d1 => N _ | none => False); cases f d <;> rfl
theorem l_lnow2 {x0 x1 : Sl} {L : D → Prop} : wL ⟨x0 :: x1 :: .ow d :: sl, st⟩ (.ln 2) L = L d := rfl
theorem v_ow2 {x0 x1 : Sl}  : wR (gVar 2 ⟨x0 :: x1 :: .ow d :: sl, st⟩) K E = K (.ln 2) ⟨x0 :: x1 :: .ow d :: sl, st⟩ := rfl
theorem st_lnow2 {x0 x1 : Sl} {L : D → S → Prop} : wSt (.ln 2) ⟨x0 :: x1 :: .ow d :: sl, st⟩ L = L d ⟨x0 :: x1 :: .fz d :: sl, st⟩ := rfl
theorem rt_lnow2 {x0 x1 : Sl}  : wRet (.ln 2) ⟨x0 :: x1 :: .ow d :: sl, st⟩ TT = TT (.ow d) ⟨x0 :: x1 :: .ow d :: sl, st⟩ := rfl
theorem l_lnfz2 {x0 x1 : Sl} {L : D → Prop} : wL ⟨x0 :: x1 :: .fz d :: sl, st⟩ (.ln 2) L = L d := rfl
theorem v_fz2 {x0 x1 : Sl}  : wR (gVar 2 ⟨x0 :: x1 :: .fz d :: sl, st⟩) K E = K (.fz d) ⟨x0 :: x1 :: .fz d :: sl, st⟩ := rfl
theorem st_lnfz2 {x0 x1 : Sl} {L : D → S → Prop} : wSt (.ln 2) ⟨x0 :: x1 :: .fz d :: sl, st⟩ L = L d ⟨x0 :: x1 :: .fz d :: sl, st⟩ := rfl
theorem rt_lnfz2 {x0 x1 : Sl}  : wRet (.ln 2) ⟨x0 :: x1 :: .fz d :: sl, st⟩ TT = TT (.fz d) ⟨x0 :: x1 :: .fz d :: sl, st⟩ := rfl
theorem so_fz2 {x0 x1 : Sl} {y : Sl} : wSto 2 (.fz d) ⟨x0 :: x1 :: y :: sl, st⟩ N = N ⟨x0 :: x1 :: .fz d :: sl, st⟩ := rfl
theorem so_ow2 {x0 x1 : Sl} {y : Sl} : wSto 2 (.ow d) ⟨x0 :: x1 :: y :: sl, st⟩ N = N ⟨x0 :: x1 :: .ow d :: sl, st⟩ := rfl
theorem s1_2 {x0 x1 : Sl} {y z : Sl} : wS1 2 z ⟨x0 :: x1 :: y :: sl, st⟩ N = N ⟨x0 :: x1 :: z :: sl, st⟩ := rfl
theorem ch_ow2 {x0 x1 : Sl} {f : D → Option D} : wCh f (.ln 2) ⟨x0 :: x1 :: .ow d :: sl, st⟩ N = wOp (f d) fun d1 => N ⟨x0 :: x1 :: .ow d1 :: sl, st⟩ := by show (match (match f d with | some d1 => some _ | none => none) with | some s1 => N s1 | none => False) = (match f d with | some d1 => N _ | none => False); cases f d <;> rfl
theorem l_lnow3 {x0 x1 x2 : Sl} {L : D → Prop} : wL ⟨x0 :: x1 :: x2 :: .ow d :: sl, st⟩ (.ln 3) L = L d := rfl
theorem v_ow3 {x0 x1 x2 : Sl}  : wR (gVar 3 ⟨x0 :: x1 :: x2 :: .ow d :: sl, st⟩) K E = K (.ln 3) ⟨x0 :: x1 :: x2 :: .ow d :: sl, st⟩ := rfl
theorem st_lnow3 {x0 x1 x2 : Sl} {L : D → S → Prop} : wSt (.ln 3) ⟨x0 :: x1 :: x2 :: .ow d :: sl, st⟩ L = L d ⟨x0 :: x1 :: x2 :: .fz d :: sl, st⟩ := rfl
theorem rt_lnow3 {x0 x1 x2 : Sl}  : wRet (.ln 3) ⟨x0 :: x1 :: x2 :: .ow d :: sl, st⟩ TT = TT (.ow d) ⟨x0 :: x1 :: x2 :: .ow d :: sl, st⟩ := rfl
theorem l_lnfz3 {x0 x1 x2 : Sl} {L : D → Prop} : wL ⟨x0 :: x1 :: x2 :: .fz d :: sl, st⟩ (.ln 3) L = L d := rfl
theorem v_fz3 {x0 x1 x2 : Sl}  : wR (gVar 3 ⟨x0 :: x1 :: x2 :: .fz d :: sl, st⟩) K E = K (.fz d) ⟨x0 :: x1 :: x2 :: .fz d :: sl, st⟩ := rfl
theorem st_lnfz3 {x0 x1 x2 : Sl} {L : D → S → Prop} : wSt (.ln 3) ⟨x0 :: x1 :: x2 :: .fz d :: sl, st⟩ L = L d ⟨x0 :: x1 :: x2 :: .fz d :: sl, st⟩ := rfl
theorem rt_lnfz3 {x0 x1 x2 : Sl}  : wRet (.ln 3) ⟨x0 :: x1 :: x2 :: .fz d :: sl, st⟩ TT = TT (.fz d) ⟨x0 :: x1 :: x2 :: .fz d :: sl, st⟩ := rfl
theorem so_fz3 {x0 x1 x2 : Sl} {y : Sl} : wSto 3 (.fz d) ⟨x0 :: x1 :: x2 :: y :: sl, st⟩ N = N ⟨x0 :: x1 :: x2 :: .fz d :: sl, st⟩ := rfl
theorem so_ow3 {x0 x1 x2 : Sl} {y : Sl} : wSto 3 (.ow d) ⟨x0 :: x1 :: x2 :: y :: sl, st⟩ N = N ⟨x0 :: x1 :: x2 :: .ow d :: sl, st⟩ := rfl
theorem s1_3 {x0 x1 x2 : Sl} {y z : Sl} : wS1 3 z ⟨x0 :: x1 :: x2 :: y :: sl, st⟩ N = N ⟨x0 :: x1 :: x2 :: z :: sl, st⟩ := rfl
theorem ch_ow3 {x0 x1 x2 : Sl} {f : D → Option D} : wCh f (.ln 3) ⟨x0 :: x1 :: x2 :: .ow d :: sl, st⟩ N = wOp (f d) fun d1 => N ⟨x0 :: x1 :: x2 :: .ow d1 :: sl, st⟩ := by show (match (match f d with | some d1 => some _ | none => none) with | some s1 => N s1 | none => False) = (match f d with | some d1 => N _ | none => False); cases f d <;> rfl
theorem l_lnow4 {x0 x1 x2 x3 : Sl} {L : D → Prop} : wL ⟨x0 :: x1 :: x2 :: x3 :: .ow d :: sl, st⟩ (.ln 4) L = L d := rfl
theorem v_ow4 {x0 x1 x2 x3 : Sl}  : wR (gVar 4 ⟨x0 :: x1 :: x2 :: x3 :: .ow d :: sl, st⟩) K E = K (.ln 4) ⟨x0 :: x1 :: x2 :: x3 :: .ow d :: sl, st⟩ := rfl
theorem st_lnow4 {x0 x1 x2 x3 : Sl} {L : D → S → Prop} : wSt (.ln 4) ⟨x0 :: x1 :: x2 :: x3 :: .ow d :: sl, st⟩ L = L d ⟨x0 :: x1 :: x2 :: x3 :: .fz d :: sl, st⟩ := rfl
theorem rt_lnow4 {x0 x1 x2 x3 : Sl}  : wRet (.ln 4) ⟨x0 :: x1 :: x2 :: x3 :: .ow d :: sl, st⟩ TT = TT (.ow d) ⟨x0 :: x1 :: x2 :: x3 :: .ow d :: sl, st⟩ := rfl
theorem l_lnfz4 {x0 x1 x2 x3 : Sl} {L : D → Prop} : wL ⟨x0 :: x1 :: x2 :: x3 :: .fz d :: sl, st⟩ (.ln 4) L = L d := rfl
theorem v_fz4 {x0 x1 x2 x3 : Sl}  : wR (gVar 4 ⟨x0 :: x1 :: x2 :: x3 :: .fz d :: sl, st⟩) K E = K (.fz d) ⟨x0 :: x1 :: x2 :: x3 :: .fz d :: sl, st⟩ := rfl
theorem st_lnfz4 {x0 x1 x2 x3 : Sl} {L : D → S → Prop} : wSt (.ln 4) ⟨x0 :: x1 :: x2 :: x3 :: .fz d :: sl, st⟩ L = L d ⟨x0 :: x1 :: x2 :: x3 :: .fz d :: sl, st⟩ := rfl
theorem rt_lnfz4 {x0 x1 x2 x3 : Sl}  : wRet (.ln 4) ⟨x0 :: x1 :: x2 :: x3 :: .fz d :: sl, st⟩ TT = TT (.fz d) ⟨x0 :: x1 :: x2 :: x3 :: .fz d :: sl, st⟩ := rfl
theorem so_fz4 {x0 x1 x2 x3 : Sl} {y : Sl} : wSto 4 (.fz d) ⟨x0 :: x1 :: x2 :: x3 :: y :: sl, st⟩ N = N ⟨x0 :: x1 :: x2 :: x3 :: .fz d :: sl, st⟩ := rfl
theorem so_ow4 {x0 x1 x2 x3 : Sl} {y : Sl} : wSto 4 (.ow d) ⟨x0 :: x1 :: x2 :: x3 :: y :: sl, st⟩ N = N ⟨x0 :: x1 :: x2 :: x3 :: .ow d :: sl, st⟩ := rfl
theorem s1_4 {x0 x1 x2 x3 : Sl} {y z : Sl} : wS1 4 z ⟨x0 :: x1 :: x2 :: x3 :: y :: sl, st⟩ N = N ⟨x0 :: x1 :: x2 :: x3 :: z :: sl, st⟩ := rfl
theorem ch_ow4 {x0 x1 x2 x3 : Sl} {f : D → Option D} : wCh f (.ln 4) ⟨x0 :: x1 :: x2 :: x3 :: .ow d :: sl, st⟩ N = wOp (f d) fun d1 => N ⟨x0 :: x1 :: x2 :: x3 :: .ow d1 :: sl, st⟩ := by show (match (match f d with | some d1 => some _ | none => none) with | some s1 => N s1 | none => False) = (match f d with | some d1 => N _ | none => False); cases f d <;> rfl
theorem l_lnow5 {x0 x1 x2 x3 x4 : Sl} {L : D → Prop} : wL ⟨x0 :: x1 :: x2 :: x3 :: x4 :: .ow d :: sl, st⟩ (.ln 5) L = L d := rfl
theorem v_ow5 {x0 x1 x2 x3 x4 : Sl}  : wR (gVar 5 ⟨x0 :: x1 :: x2 :: x3 :: x4 :: .ow d :: sl, st⟩) K E = K (.ln 5) ⟨x0 :: x1 :: x2 :: x3 :: x4 :: .ow d :: sl, st⟩ := rfl
theorem st_lnow5 {x0 x1 x2 x3 x4 : Sl} {L : D → S → Prop} : wSt (.ln 5) ⟨x0 :: x1 :: x2 :: x3 :: x4 :: .ow d :: sl, st⟩ L = L d ⟨x0 :: x1 :: x2 :: x3 :: x4 :: .fz d :: sl, st⟩ := rfl
theorem rt_lnow5 {x0 x1 x2 x3 x4 : Sl}  : wRet (.ln 5) ⟨x0 :: x1 :: x2 :: x3 :: x4 :: .ow d :: sl, st⟩ TT = TT (.ow d) ⟨x0 :: x1 :: x2 :: x3 :: x4 :: .ow d :: sl, st⟩ := rfl
theorem l_lnfz5 {x0 x1 x2 x3 x4 : Sl} {L : D → Prop} : wL ⟨x0 :: x1 :: x2 :: x3 :: x4 :: .fz d :: sl, st⟩ (.ln 5) L = L d := rfl
theorem v_fz5 {x0 x1 x2 x3 x4 : Sl}  : wR (gVar 5 ⟨x0 :: x1 :: x2 :: x3 :: x4 :: .fz d :: sl, st⟩) K E = K (.fz d) ⟨x0 :: x1 :: x2 :: x3 :: x4 :: .fz d :: sl, st⟩ := rfl
theorem st_lnfz5 {x0 x1 x2 x3 x4 : Sl} {L : D → S → Prop} : wSt (.ln 5) ⟨x0 :: x1 :: x2 :: x3 :: x4 :: .fz d :: sl, st⟩ L = L d ⟨x0 :: x1 :: x2 :: x3 :: x4 :: .fz d :: sl, st⟩ := rfl
theorem rt_lnfz5 {x0 x1 x2 x3 x4 : Sl}  : wRet (.ln 5) ⟨x0 :: x1 :: x2 :: x3 :: x4 :: .fz d :: sl, st⟩ TT = TT (.fz d) ⟨x0 :: x1 :: x2 :: x3 :: x4 :: .fz d :: sl, st⟩ := rfl
theorem so_fz5 {x0 x1 x2 x3 x4 : Sl} {y : Sl} : wSto 5 (.fz d) ⟨x0 :: x1 :: x2 :: x3 :: x4 :: y :: sl, st⟩ N = N ⟨x0 :: x1 :: x2 :: x3 :: x4 :: .fz d :: sl, st⟩ := rfl
theorem so_ow5 {x0 x1 x2 x3 x4 : Sl} {y : Sl} : wSto 5 (.ow d) ⟨x0 :: x1 :: x2 :: x3 :: x4 :: y :: sl, st⟩ N = N ⟨x0 :: x1 :: x2 :: x3 :: x4 :: .ow d :: sl, st⟩ := rfl
theorem s1_5 {x0 x1 x2 x3 x4 : Sl} {y z : Sl} : wS1 5 z ⟨x0 :: x1 :: x2 :: x3 :: x4 :: y :: sl, st⟩ N = N ⟨x0 :: x1 :: x2 :: x3 :: x4 :: z :: sl, st⟩ := rfl
theorem ch_ow5 {x0 x1 x2 x3 x4 : Sl} {f : D → Option D} : wCh f (.ln 5) ⟨x0 :: x1 :: x2 :: x3 :: x4 :: .ow d :: sl, st⟩ N = wOp (f d) fun d1 => N ⟨x0 :: x1 :: x2 :: x3 :: x4 :: .ow d1 :: sl, st⟩ := by show (match (match f d with | some d1 => some _ | none => none) with | some s1 => N s1 | none => False) = (match f d with | some d1 => N _ | none => False); cases f d <;> rfl
theorem l_lnow6 {x0 x1 x2 x3 x4 x5 : Sl} {L : D → Prop} : wL ⟨x0 :: x1 :: x2 :: x3 :: x4 :: x5 :: .ow d :: sl, st⟩ (.ln 6) L = L d := rfl
theorem v_ow6 {x0 x1 x2 x3 x4 x5 : Sl}  : wR (gVar 6 ⟨x0 :: x1 :: x2 :: x3 :: x4 :: x5 :: .ow d :: sl, st⟩) K E = K (.ln 6) ⟨x0 :: x1 :: x2 :: x3 :: x4 :: x5 :: .ow d :: sl, st⟩ := rfl
theorem st_lnow6 {x0 x1 x2 x3 x4 x5 : Sl} {L : D → S → Prop} : wSt (.ln 6) ⟨x0 :: x1 :: x2 :: x3 :: x4 :: x5 :: .ow d :: sl, st⟩ L = L d ⟨x0 :: x1 :: x2 :: x3 :: x4 :: x5 :: .fz d :: sl, st⟩ := rfl
theorem rt_lnow6 {x0 x1 x2 x3 x4 x5 : Sl}  : wRet (.ln 6) ⟨x0 :: x1 :: x2 :: x3 :: x4 :: x5 :: .ow d :: sl, st⟩ TT = TT (.ow d) ⟨x0 :: x1 :: x2 :: x3 :: x4 :: x5 :: .ow d :: sl, st⟩ := rfl
theorem l_lnfz6 {x0 x1 x2 x3 x4 x5 : Sl} {L : D → Prop} : wL ⟨x0 :: x1 :: x2 :: x3 :: x4 :: x5 :: .fz d :: sl, st⟩ (.ln 6) L = L d := rfl
theorem v_fz6 {x0 x1 x2 x3 x4 x5 : Sl}  : wR (gVar 6 ⟨x0 :: x1 :: x2 :: x3 :: x4 :: x5 :: .fz d :: sl, st⟩) K E = K (.fz d) ⟨x0 :: x1 :: x2 :: x3 :: x4 :: x5 :: .fz d :: sl, st⟩ := rfl
theorem st_lnfz6 {x0 x1 x2 x3 x4 x5 : Sl} {L : D → S → Prop} : wSt (.ln 6) ⟨x0 :: x1 :: x2 :: x3 :: x4 :: x5 :: .fz d :: sl, st⟩ L = L d ⟨x0 :: x1 :: x2 :: x3 :: x4 :: x5 :: .fz d :: sl, st⟩ := rfl
theorem rt_lnfz6 {x0 x1 x2 x3 x4 x5 : Sl}  : wRet (.ln 6) ⟨x0 :: x1 :: x2 :: x3 :: x4 :: x5 :: .fz d :: sl, st⟩ TT = TT (.fz d) ⟨x0 :: x1 :: x2 :: x3 :: x4 :: x5 :: .fz d :: sl, st⟩ := rfl
theorem so_fz6 {x0 x1 x2 x3 x4 x5 : Sl} {y : Sl} : wSto 6 (.fz d) ⟨x0 :: x1 :: x2 :: x3 :: x4 :: x5 :: y :: sl, st⟩ N = N ⟨x0 :: x1 :: x2 :: x3 :: x4 :: x5 :: .fz d :: sl, st⟩ := rfl
theorem so_ow6 {x0 x1 x2 x3 x4 x5 : Sl} {y : Sl} : wSto 6 (.ow d) ⟨x0 :: x1 :: x2 :: x3 :: x4 :: x5 :: y :: sl, st⟩ N = N ⟨x0 :: x1 :: x2 :: x3 :: x4 :: x5 :: .ow d :: sl, st⟩ := rfl
theorem s1_6 {x0 x1 x2 x3 x4 x5 : Sl} {y z : Sl} : wS1 6 z ⟨x0 :: x1 :: x2 :: x3 :: x4 :: x5 :: y :: sl, st⟩ N = N ⟨x0 :: x1 :: x2 :: x3 :: x4 :: x5 :: z :: sl, st⟩ := rfl
theorem ch_ow6 {x0 x1 x2 x3 x4 x5 : Sl} {f : D → Option D} : wCh f (.ln 6) ⟨x0 :: x1 :: x2 :: x3 :: x4 :: x5 :: .ow d :: sl, st⟩ N = wOp (f d) fun d1 => N ⟨x0 :: x1 :: x2 :: x3 :: x4 :: x5 :: .ow d1 :: sl, st⟩ := by show (match (match f d with | some d1 => some _ | none => none) with | some s1 => N s1 | none => False) = (match f d with | some d1 => N _ | none => False); cases f d <;> rfl
theorem l_lnow7 {x0 x1 x2 x3 x4 x5 x6 : Sl} {L : D → Prop} : wL ⟨x0 :: x1 :: x2 :: x3 :: x4 :: x5 :: x6 :: .ow d :: sl, st⟩ (.ln 7) L = L d := rfl
theorem v_ow7 {x0 x1 x2 x3 x4 x5 x6 : Sl}  : wR (gVar 7 ⟨x0 :: x1 :: x2 :: x3 :: x4 :: x5 :: x6 :: .ow d :: sl, st⟩) K E = K (.ln 7) ⟨x0 :: x1 :: x2 :: x3 :: x4 :: x5 :: x6 :: .ow d :: sl, st⟩ := rfl
theorem st_lnow7 {x0 x1 x2 x3 x4 x5 x6 : Sl} {L : D → S → Prop} : wSt (.ln 7) ⟨x0 :: x1 :: x2 :: x3 :: x4 :: x5 :: x6 :: .ow d :: sl, st⟩ L = L d ⟨x0 :: x1 :: x2 :: x3 :: x4 :: x5 :: x6 :: .fz d :: sl, st⟩ := rfl
theorem rt_lnow7 {x0 x1 x2 x3 x4 x5 x6 : Sl}  : wRet (.ln 7) ⟨x0 :: x1 :: x2 :: x3 :: x4 :: x5 :: x6 :: .ow d :: sl, st⟩ TT = TT (.ow d) ⟨x0 :: x1 :: x2 :: x3 :: x4 :: x5 :: x6 :: .ow d :: sl, st⟩ := rfl
theorem l_lnfz7 {x0 x1 x2 x3 x4 x5 x6 : Sl} {L : D → Prop} : wL ⟨x0 :: x1 :: x2 :: x3 :: x4 :: x5 :: x6 :: .fz d :: sl, st⟩ (.ln 7) L = L d := rfl
theorem v_fz7 {x0 x1 x2 x3 x4 x5 x6 : Sl}  : wR (gVar 7 ⟨x0 :: x1 :: x2 :: x3 :: x4 :: x5 :: x6 :: .fz d :: sl, st⟩) K E = K (.fz d) ⟨x0 :: x1 :: x2 :: x3 :: x4 :: x5 :: x6 :: .fz d :: sl, st⟩ := rfl
theorem st_lnfz7 {x0 x1 x2 x3 x4 x5 x6 : Sl} {L : D → S → Prop} : wSt (.ln 7) ⟨x0 :: x1 :: x2 :: x3 :: x4 :: x5 :: x6 :: .fz d :: sl, st⟩ L = L d ⟨x0 :: x1 :: x2 :: x3 :: x4 :: x5 :: x6 :: .fz d :: sl, st⟩ := rfl
theorem rt_lnfz7 {x0 x1 x2 x3 x4 x5 x6 : Sl}  : wRet (.ln 7) ⟨x0 :: x1 :: x2 :: x3 :: x4 :: x5 :: x6 :: .fz d :: sl, st⟩ TT = TT (.fz d) ⟨x0 :: x1 :: x2 :: x3 :: x4 :: x5 :: x6 :: .fz d :: sl, st⟩ := rfl
theorem so_fz7 {x0 x1 x2 x3 x4 x5 x6 : Sl} {y : Sl} : wSto 7 (.fz d) ⟨x0 :: x1 :: x2 :: x3 :: x4 :: x5 :: x6 :: y :: sl, st⟩ N = N ⟨x0 :: x1 :: x2 :: x3 :: x4 :: x5 :: x6 :: .fz d :: sl, st⟩ := rfl
theorem so_ow7 {x0 x1 x2 x3 x4 x5 x6 : Sl} {y : Sl} : wSto 7 (.ow d) ⟨x0 :: x1 :: x2 :: x3 :: x4 :: x5 :: x6 :: y :: sl, st⟩ N = N ⟨x0 :: x1 :: x2 :: x3 :: x4 :: x5 :: x6 :: .ow d :: sl, st⟩ := rfl
theorem s1_7 {x0 x1 x2 x3 x4 x5 x6 : Sl} {y z : Sl} : wS1 7 z ⟨x0 :: x1 :: x2 :: x3 :: x4 :: x5 :: x6 :: y :: sl, st⟩ N = N ⟨x0 :: x1 :: x2 :: x3 :: x4 :: x5 :: x6 :: z :: sl, st⟩ := rfl
theorem ch_ow7 {x0 x1 x2 x3 x4 x5 x6 : Sl} {f : D → Option D} : wCh f (.ln 7) ⟨x0 :: x1 :: x2 :: x3 :: x4 :: x5 :: x6 :: .ow d :: sl, st⟩ N = wOp (f d) fun d1 => N ⟨x0 :: x1 :: x2 :: x3 :: x4 :: x5 :: x6 :: .ow d1 :: sl, st⟩ := by show (match (match f d with | some d1 => some _ | none => none) with | some s1 => N s1 | none => False) = (match f d with | some d1 => N _ | none => False); cases f d <;> rfl
theorem l_lnow8 {x0 x1 x2 x3 x4 x5 x6 x7 : Sl} {L : D → Prop} : wL ⟨x0 :: x1 :: x2 :: x3 :: x4 :: x5 :: x6 :: x7 :: .ow d :: sl, st⟩ (.ln 8) L = L d := rfl
theorem v_ow8 {x0 x1 x2 x3 x4 x5 x6 x7 : Sl}  : wR (gVar 8 ⟨x0 :: x1 :: x2 :: x3 :: x4 :: x5 :: x6 :: x7 :: .ow d :: sl, st⟩) K E = K (.ln 8) ⟨x0 :: x1 :: x2 :: x3 :: x4 :: x5 :: x6 :: x7 :: .ow d :: sl, st⟩ := rfl
theorem st_lnow8 {x0 x1 x2 x3 x4 x5 x6 x7 : Sl} {L : D → S → Prop} : wSt (.ln 8) ⟨x0 :: x1 :: x2 :: x3 :: x4 :: x5 :: x6 :: x7 :: .ow d :: sl, st⟩ L = L d ⟨x0 :: x1 :: x2 :: x3 :: x4 :: x5 :: x6 :: x7 :: .fz d :: sl, st⟩ := rfl
theorem rt_lnow8 {x0 x1 x2 x3 x4 x5 x6 x7 : Sl}  : wRet (.ln 8) ⟨x0 :: x1 :: x2 :: x3 :: x4 :: x5 :: x6 :: x7 :: .ow d :: sl, st⟩ TT = TT (.ow d) ⟨x0 :: x1 :: x2 :: x3 :: x4 :: x5 :: x6 :: x7 :: .ow d :: sl, st⟩ := rfl
theorem l_lnfz8 {x0 x1 x2 x3 x4 x5 x6 x7 : Sl} {L : D → Prop} : wL ⟨x0 :: x1 :: x2 :: x3 :: x4 :: x5 :: x6 :: x7 :: .fz d :: sl, st⟩ (.ln 8) L = L d := rfl
theorem v_fz8 {x0 x1 x2 x3 x4 x5 x6 x7 : Sl}  : wR (gVar 8 ⟨x0 :: x1 :: x2 :: x3 :: x4 :: x5 :: x6 :: x7 :: .fz d :: sl, st⟩) K E = K (.fz d) ⟨x0 :: x1 :: x2 :: x3 :: x4 :: x5 :: x6 :: x7 :: .fz d :: sl, st⟩ := rfl
theorem st_lnfz8 {x0 x1 x2 x3 x4 x5 x6 x7 : Sl} {L : D → S → Prop} : wSt (.ln 8) ⟨x0 :: x1 :: x2 :: x3 :: x4 :: x5 :: x6 :: x7 :: .fz d :: sl, st⟩ L = L d ⟨x0 :: x1 :: x2 :: x3 :: x4 :: x5 :: x6 :: x7 :: .fz d :: sl, st⟩ := rfl
theorem rt_lnfz8 {x0 x1 x2 x3 x4 x5 x6 x7 : Sl}  : wRet (.ln 8) ⟨x0 :: x1 :: x2 :: x3 :: x4 :: x5 :: x6 :: x7 :: .fz d :: sl, st⟩ TT = TT (.fz d) ⟨x0 :: x1 :: x2 :: x3 :: x4 :: x5 :: x6 :: x7 :: .fz d :: sl, st⟩ := rfl
theorem so_fz8 {x0 x1 x2 x3 x4 x5 x6 x7 : Sl} {y : Sl} : wSto 8 (.fz d) ⟨x0 :: x1 :: x2 :: x3 :: x4 :: x5 :: x6 :: x7 :: y :: sl, st⟩ N = N ⟨x0 :: x1 :: x2 :: x3 :: x4 :: x5 :: x6 :: x7 :: .fz d :: sl, st⟩ := rfl
theorem so_ow8 {x0 x1 x2 x3 x4 x5 x6 x7 : Sl} {y : Sl} : wSto 8 (.ow d) ⟨x0 :: x1 :: x2 :: x3 :: x4 :: x5 :: x6 :: x7 :: y :: sl, st⟩ N = N ⟨x0 :: x1 :: x2 :: x3 :: x4 :: x5 :: x6 :: x7 :: .ow d :: sl, st⟩ := rfl
theorem s1_8 {x0 x1 x2 x3 x4 x5 x6 x7 : Sl} {y z : Sl} : wS1 8 z ⟨x0 :: x1 :: x2 :: x3 :: x4 :: x5 :: x6 :: x7 :: y :: sl, st⟩ N = N ⟨x0 :: x1 :: x2 :: x3 :: x4 :: x5 :: x6 :: x7 :: z :: sl, st⟩ := rfl
theorem ch_ow8 {x0 x1 x2 x3 x4 x5 x6 x7 : Sl} {f : D → Option D} : wCh f (.ln 8) ⟨x0 :: x1 :: x2 :: x3 :: x4 :: x5 :: x6 :: x7 :: .ow d :: sl, st⟩ N = wOp (f d) fun d1 => N ⟨x0 :: x1 :: x2 :: x3 :: x4 :: x5 :: x6 :: x7 :: .ow d1 :: sl, st⟩ := by show (match (match f d with | some d1 => some _ | none => none) with | some s1 => N s1 | none => False) = (match f d with | some d1 => N _ | none => False); cases f d <;> rfl
theorem l_lnow9 {x0 x1 x2 x3 x4 x5 x6 x7 x8 : Sl} {L : D → Prop} : wL ⟨x0 :: x1 :: x2 :: x3 :: x4 :: x5 :: x6 :: x7 :: x8 :: .ow d :: sl, st⟩ (.ln 9) L = L d := rfl
theorem v_ow9 {x0 x1 x2 x3 x4 x5 x6 x7 x8 : Sl}  : wR (gVar 9 ⟨x0 :: x1 :: x2 :: x3 :: x4 :: x5 :: x6 :: x7 :: x8 :: .ow d :: sl, st⟩) K E = K (.ln 9) ⟨x0 :: x1 :: x2 :: x3 :: x4 :: x5 :: x6 :: x7 :: x8 :: .ow d :: sl, st⟩ := rfl
theorem st_lnow9 {x0 x1 x2 x3 x4 x5 x6 x7 x8 : Sl} {L : D → S → Prop} : wSt (.ln 9) ⟨x0 :: x1 :: x2 :: x3 :: x4 :: x5 :: x6 :: x7 :: x8 :: .ow d :: sl, st⟩ L = L d ⟨x0 :: x1 :: x2 :: x3 :: x4 :: x5 :: x6 :: x7 :: x8 :: .fz d :: sl, st⟩ := rfl
theorem rt_lnow9 {x0 x1 x2 x3 x4 x5 x6 x7 x8 : Sl}  : wRet (.ln 9) ⟨x0 :: x1 :: x2 :: x3 :: x4 :: x5 :: x6 :: x7 :: x8 :: .ow d :: sl, st⟩ TT = TT (.ow d) ⟨x0 :: x1 :: x2 :: x3 :: x4 :: x5 :: x6 :: x7 :: x8 :: .ow d :: sl, st⟩ := rfl
theorem l_lnfz9 {x0 x1 x2 x3 x4 x5 x6 x7 x8 : Sl} {L : D → Prop} : wL ⟨x0 :: x1 :: x2 :: x3 :: x4 :: x5 :: x6 :: x7 :: x8 :: .fz d :: sl, st⟩ (.ln 9) L = L d := rfl
theorem v_fz9 {x0 x1 x2 x3 x4 x5 x6 x7 x8 : Sl}  : wR (gVar 9 ⟨x0 :: x1 :: x2 :: x3 :: x4 :: x5 :: x6 :: x7 :: x8 :: .fz d :: sl, st⟩) K E = K (.fz d) ⟨x0 :: x1 :: x2 :: x3 :: x4 :: x5 :: x6 :: x7 :: x8 :: .fz d :: sl, st⟩ := rfl
theorem st_lnfz9 {x0 x1 x2 x3 x4 x5 x6 x7 x8 : Sl} {L : D → S → Prop} : wSt (.ln 9) ⟨x0 :: x1 :: x2 :: x3 :: x4 :: x5 :: x6 :: x7 :: x8 :: .fz d :: sl, st⟩ L = L d ⟨x0 :: x1 :: x2 :: x3 :: x4 :: x5 :: x6 :: x7 :: x8 :: .fz d :: sl, st⟩ := rfl
theorem rt_lnfz9 {x0 x1 x2 x3 x4 x5 x6 x7 x8 : Sl}  : wRet (.ln 9) ⟨x0 :: x1 :: x2 :: x3 :: x4 :: x5 :: x6 :: x7 :: x8 :: .fz d :: sl, st⟩ TT = TT (.fz d) ⟨x0 :: x1 :: x2 :: x3 :: x4 :: x5 :: x6 :: x7 :: x8 :: .fz d :: sl, st⟩ := rfl
theorem so_fz9 {x0 x1 x2 x3 x4 x5 x6 x7 x8 : Sl} {y : Sl} : wSto 9 (.fz d) ⟨x0 :: x1 :: x2 :: x3 :: x4 :: x5 :: x6 :: x7 :: x8 :: y :: sl, st⟩ N = N ⟨x0 :: x1 :: x2 :: x3 :: x4 :: x5 :: x6 :: x7 :: x8 :: .fz d :: sl, st⟩ := rfl
theorem so_ow9 {x0 x1 x2 x3 x4 x5 x6 x7 x8 : Sl} {y : Sl} : wSto 9 (.ow d) ⟨x0 :: x1 :: x2 :: x3 :: x4 :: x5 :: x6 :: x7 :: x8 :: y :: sl, st⟩ N = N ⟨x0 :: x1 :: x2 :: x3 :: x4 :: x5 :: x6 :: x7 :: x8 :: .ow d :: sl, st⟩ := rfl
theorem s1_9 {x0 x1 x2 x3 x4 x5 x6 x7 x8 : Sl} {y z : Sl} : wS1 9 z ⟨x0 :: x1 :: x2 :: x3 :: x4 :: x5 :: x6 :: x7 :: x8 :: y :: sl, st⟩ N = N ⟨x0 :: x1 :: x2 :: x3 :: x4 :: x5 :: x6 :: x7 :: x8 :: z :: sl, st⟩ := rfl
theorem ch_ow9 {x0 x1 x2 x3 x4 x5 x6 x7 x8 : Sl} {f : D → Option D} : wCh f (.ln 9) ⟨x0 :: x1 :: x2 :: x3 :: x4 :: x5 :: x6 :: x7 :: x8 :: .ow d :: sl, st⟩ N = wOp (f d) fun d1 => N ⟨x0 :: x1 :: x2 :: x3 :: x4 :: x5 :: x6 :: x7 :: x8 :: .ow d1 :: sl, st⟩ := by show (match (match f d with | some d1 => some _ | none => none) with | some s1 => N s1 | none => False) = (match f d with | some d1 => N _ | none => False); cases f d <;> rfl
theorem l_lnow10 {x0 x1 x2 x3 x4 x5 x6 x7 x8 x9 : Sl} {L : D → Prop} : wL ⟨x0 :: x1 :: x2 :: x3 :: x4 :: x5 :: x6 :: x7 :: x8 :: x9 :: .ow d :: sl, st⟩ (.ln 10) L = L d := rfl
theorem v_ow10 {x0 x1 x2 x3 x4 x5 x6 x7 x8 x9 : Sl}  : wR (gVar 10 ⟨x0 :: x1 :: x2 :: x3 :: x4 :: x5 :: x6 :: x7 :: x8 :: x9 :: .ow d :: sl, st⟩) K E = K (.ln 10) ⟨x0 :: x1 :: x2 :: x3 :: x4 :: x5 :: x6 :: x7 :: x8 :: x9 :: .ow d :: sl, st⟩ := rfl
theorem st_lnow10 {x0 x1 x2 x3 x4 x5 x6 x7 x8 x9 : Sl} {L : D → S → Prop} : wSt (.ln 10) ⟨x0 :: x1 :: x2 :: x3 :: x4 :: x5 :: x6 :: x7 :: x8 :: x9 :: .ow d :: sl, st⟩ L = L d ⟨x0 :: x1 :: x2 :: x3 :: x4 :: x5 :: x6 :: x7 :: x8 :: x9 :: .fz d :: sl, st⟩ := rfl
theorem rt_lnow10 {x0 x1 x2 x3 x4 x5 x6 x7 x8 x9 : Sl}  : wRet (.ln 10) ⟨x0 :: x1 :: x2 :: x3 :: x4 :: x5 :: x6 :: x7 :: x8 :: x9 :: .ow d :: sl, st⟩ TT = TT (.ow d) ⟨x0 :: x1 :: x2 :: x3 :: x4 :: x5 :: x6 :: x7 :: x8 :: x9 :: .ow d :: sl, st⟩ := rfl
theorem l_lnfz10 {x0 x1 x2 x3 x4 x5 x6 x7 x8 x9 : Sl} {L : D → Prop} : wL ⟨x0 :: x1 :: x2 :: x3 :: x4 :: x5 :: x6 :: x7 :: x8 :: x9 :: .fz d :: sl, st⟩ (.ln 10) L = L d := rfl
theorem v_fz10 {x0 x1 x2 x3 x4 x5 x6 x7 x8 x9 : Sl}  : wR (gVar 10 ⟨x0 :: x1 :: x2 :: x3 :: x4 :: x5 :: x6 :: x7 :: x8 :: x9 :: .fz d :: sl, st⟩) K E = K (.fz d) ⟨x0 :: x1 :: x2 :: x3 :: x4 :: x5 :: x6 :: x7 :: x8 :: x9 :: .fz d :: sl, st⟩ := rfl
theorem st_lnfz10 {x0 x1 x2 x3 x4 x5 x6 x7 x8 x9 : Sl} {L : D → S → Prop} : wSt (.ln 10) ⟨x0 :: x1 :: x2 :: x3 :: x4 :: x5 :: x6 :: x7 :: x8 :: x9 :: .fz d :: sl, st⟩ L = L d ⟨x0 :: x1 :: x2 :: x3 :: x4 :: x5 :: x6 :: x7 :: x8 :: x9 :: .fz d :: sl, st⟩ := rfl
theorem rt_lnfz10 {x0 x1 x2 x3 x4 x5 x6 x7 x8 x9 : Sl}  : wRet (.ln 10) ⟨x0 :: x1 :: x2 :: x3 :: x4 :: x5 :: x6 :: x7 :: x8 :: x9 :: .fz d :: sl, st⟩ TT = TT (.fz d) ⟨x0 :: x1 :: x2 :: x3 :: x4 :: x5 :: x6 :: x7 :: x8 :: x9 :: .fz d :: sl, st⟩ := rfl
theorem so_fz10 {x0 x1 x2 x3 x4 x5 x6 x7 x8 x9 : Sl} {y : Sl} : wSto 10 (.fz d) ⟨x0 :: x1 :: x2 :: x3 :: x4 :: x5 :: x6 :: x7 :: x8 :: x9 :: y :: sl, st⟩ N = N ⟨x0 :: x1 :: x2 :: x3 :: x4 :: x5 :: x6 :: x7 :: x8 :: x9 :: .fz d :: sl, st⟩ := rfl
theorem so_ow10 {x0 x1 x2 x3 x4 x5 x6 x7 x8 x9 : Sl} {y : Sl} : wSto 10 (.ow d) ⟨x0 :: x1 :: x2 :: x3 :: x4 :: x5 :: x6 :: x7 :: x8 :: x9 :: y :: sl, st⟩ N = N ⟨x0 :: x1 :: x2 :: x3 :: x4 :: x5 :: x6 :: x7 :: x8 :: x9 :: .ow d :: sl, st⟩ := rfl
theorem s1_10 {x0 x1 x2 x3 x4 x5 x6 x7 x8 x9 : Sl} {y z : Sl} : wS1 10 z ⟨x0 :: x1 :: x2 :: x3 :: x4 :: x5 :: x6 :: x7 :: x8 :: x9 :: y :: sl, st⟩ N = N ⟨x0 :: x1 :: x2 :: x3 :: x4 :: x5 :: x6 :: x7 :: x8 :: x9 :: z :: sl, st⟩ := rfl
theorem ch_ow10 {x0 x1 x2 x3 x4 x5 x6 x7 x8 x9 : Sl} {f : D → Option D} : wCh f (.ln 10) ⟨x0 :: x1 :: x2 :: x3 :: x4 :: x5 :: x6 :: x7 :: x8 :: x9 :: .ow d :: sl, st⟩ N = wOp (f d) fun d1 => N ⟨x0 :: x1 :: x2 :: x3 :: x4 :: x5 :: x6 :: x7 :: x8 :: x9 :: .ow d1 :: sl, st⟩ := by show (match (match f d with | some d1 => some _ | none => none) with | some s1 => N s1 | none => False) = (match f d with | some d1 => N _ | none => False); cases f d <;> rfl
theorem l_lnow11 {x0 x1 x2 x3 x4 x5 x6 x7 x8 x9 x10 : Sl} {L : D → Prop} : wL ⟨x0 :: x1 :: x2 :: x3 :: x4 :: x5 :: x6 :: x7 :: x8 :: x9 :: x10 :: .ow d :: sl, st⟩ (.ln 11) L = L d := rfl
theorem v_ow11 {x0 x1 x2 x3 x4 x5 x6 x7 x8 x9 x10 : Sl}  : wR (gVar 11 ⟨x0 :: x1 :: x2 :: x3 :: x4 :: x5 :: x6 :: x7 :: x8 :: x9 :: x10 :: .ow d :: sl, st⟩) K E = K (.ln 11) ⟨x0 :: x1 :: x2 :: x3 :: x4 :: x5 :: x6 :: x7 :: x8 :: x9 :: x10 :: .ow d :: sl, st⟩ := rfl
theorem st_lnow11 {x0 x1 x2 x3 x4 x5 x6 x7 x8 x9 x10 : Sl} {L : D → S → Prop} : wSt (.ln 11) ⟨x0 :: x1 :: x2 :: x3 :: x4 :: x5 :: x6 :: x7 :: x8 :: x9 :: x10 :: .ow d :: sl, st⟩ L = L d ⟨x0 :: x1 :: x2 :: x3 :: x4 :: x5 :: x6 :: x7 :: x8 :: x9 :: x10 :: .fz d :: sl, st⟩ := rfl
theorem rt_lnow11 {x0 x1 x2 x3 x4 x5 x6 x7 x8 x9 x10 : Sl}  : wRet (.ln 11) ⟨x0 :: x1 :: x2 :: x3 :: x4 :: x5 :: x6 :: x7 :: x8 :: x9 :: x10 :: .ow d :: sl, st⟩ TT = TT (.ow d) ⟨x0 :: x1 :: x2 :: x3 :: x4 :: x5 :: x6 :: x7 :: x8 :: x9 :: x10 :: .ow d :: sl, st⟩ := rfl
theorem l_lnfz11 {x0 x1 x2 x3 x4 x5 x6 x7 x8 x9 x10 : Sl} {L : D → Prop} : wL ⟨x0 :: x1 :: x2 :: x3 :: x4 :: x5 :: x6 :: x7 :: x8 :: x9 :: x10 :: .fz d :: sl, st⟩ (.ln 11) L = L d := rfl
theorem v_fz11 {x0 x1 x2 x3 x4 x5 x6 x7 x8 x9 x10 : Sl}  : wR (gVar 11 ⟨x0 :: x1 :: x2 :: x3 :: x4 :: x5 :: x6 :: x7 :: x8 :: x9 :: x10 :: .fz d :: sl, st⟩) K E = K (.fz d) ⟨x0 :: x1 :: x2 :: x3 :: x4 :: x5 :: x6 :: x7 :: x8 :: x9 :: x10 :: .fz d :: sl, st⟩ := rfl
theorem st_lnfz11 {x0 x1 x2 x3 x4 x5 x6 x7 x8 x9 x10 : Sl} {L : D → S → Prop} : wSt (.ln 11) ⟨x0 :: x1 :: x2 :: x3 :: x4 :: x5 :: x6 :: x7 :: x8 :: x9 :: x10 :: .fz d :: sl, st⟩ L = L d ⟨x0 :: x1 :: x2 :: x3 :: x4 :: x5 :: x6 :: x7 :: x8 :: x9 :: x10 :: .fz d :: sl, st⟩ := rfl
theorem rt_lnfz11 {x0 x1 x2 x3 x4 x5 x6 x7 x8 x9 x10 : Sl}  : wRet (.ln 11) ⟨x0 :: x1 :: x2 :: x3 :: x4 :: x5 :: x6 :: x7 :: x8 :: x9 :: x10 :: .fz d :: sl, st⟩ TT = TT (.fz d) ⟨x0 :: x1 :: x2 :: x3 :: x4 :: x5 :: x6 :: x7 :: x8 :: x9 :: x10 :: .fz d :: sl, st⟩ := rfl
theorem so_fz11 {x0 x1 x2 x3 x4 x5 x6 x7 x8 x9 x10 : Sl} {y : Sl} : wSto 11 (.fz d) ⟨x0 :: x1 :: x2 :: x3 :: x4 :: x5 :: x6 :: x7 :: x8 :: x9 :: x10 :: y :: sl, st⟩ N = N ⟨x0 :: x1 :: x2 :: x3 :: x4 :: x5 :: x6 :: x7 :: x8 :: x9 :: x10 :: .fz d :: sl, st⟩ := rfl
theorem so_ow11 {x0 x1 x2 x3 x4 x5 x6 x7 x8 x9 x10 : Sl} {y : Sl} : wSto 11 (.ow d) ⟨x0 :: x1 :: x2 :: x3 :: x4 :: x5 :: x6 :: x7 :: x8 :: x9 :: x10 :: y :: sl, st⟩ N = N ⟨x0 :: x1 :: x2 :: x3 :: x4 :: x5 :: x6 :: x7 :: x8 :: x9 :: x10 :: .ow d :: sl, st⟩ := rfl
theorem s1_11 {x0 x1 x2 x3 x4 x5 x6 x7 x8 x9 x10 : Sl} {y z : Sl} : wS1 11 z ⟨x0 :: x1 :: x2 :: x3 :: x4 :: x5 :: x6 :: x7 :: x8 :: x9 :: x10 :: y :: sl, st⟩ N = N ⟨x0 :: x1 :: x2 :: x3 :: x4 :: x5 :: x6 :: x7 :: x8 :: x9 :: x10 :: z :: sl, st⟩ := rfl
theorem ch_ow11 {x0 x1 x2 x3 x4 x5 x6 x7 x8 x9 x10 : Sl} {f : D → Option D} : wCh f (.ln 11) ⟨x0 :: x1 :: x2 :: x3 :: x4 :: x5 :: x6 :: x7 :: x8 :: x9 :: x10 :: .ow d :: sl, st⟩ N = wOp (f d) fun d1 => N ⟨x0 :: x1 :: x2 :: x3 :: x4 :: x5 :: x6 :: x7 :: x8 :: x9 :: x10 :: .ow d1 :: sl, st⟩ := by show (match (match f d with | some d1 => some _ | none => none) with | some s1 => N s1 | none => False) = (match f d with | some d1 => N _ | none => False); cases f d <;> rfl
theorem l_lnow12 {x0 x1 x2 x3 x4 x5 x6 x7 x8 x9 x10 x11 : Sl} {L : D → Prop} : wL ⟨x0 :: x1 :: x2 :: x3 :: x4 :: x5 :: x6 :: x7 :: x8 :: x9 :: x10 :: x11 :: .ow d :: sl, st⟩ (.ln 12) L = L d := rfl
theorem v_ow12 {x0 x1 x2 x3 x4 x5 x6 x7 x8 x9 x10 x11 : Sl}  : wR (gVar 12 ⟨x0 :: x1 :: x2 :: x3 :: x4 :: x5 :: x6 :: x7 :: x8 :: x9 :: x10 :: x11 :: .ow d :: sl, st⟩) K E = K (.ln 12) ⟨x0 :: x1 :: x2 :: x3 :: x4 :: x5 :: x6 :: x7 :: x8 :: x9 :: x10 :: x11 :: .ow d :: sl, st⟩ := rfl
theorem st_lnow12 {x0 x1 x2 x3 x4 x5 x6 x7 x8 x9 x10 x11 : Sl} {L : D → S → Prop} : wSt (.ln 12) ⟨x0 :: x1 :: x2 :: x3 :: x4 :: x5 :: x6 :: x7 :: x8 :: x9 :: x10 :: x11 :: .ow d :: sl, st⟩ L = L d ⟨x0 :: x1 :: x2 :: x3 :: x4 :: x5 :: x6 :: x7 :: x8 :: x9 :: x10 :: x11 :: .fz d :: sl, st⟩ := rfl
theorem rt_lnow12 {x0 x1 x2 x3 x4 x5 x6 x7 x8 x9 x10 x11 : Sl}  : wRet (.ln 12) ⟨x0 :: x1 :: x2 :: x3 :: x4 :: x5 :: x6 :: x7 :: x8 :: x9 :: x10 :: x11 :: .ow d :: sl, st⟩ TT = TT (.ow d) ⟨x0 :: x1 :: x2 :: x3 :: x4 :: x5 :: x6 :: x7 :: x8 :: x9 :: x10 :: x11 :: .ow d :: sl, st⟩ := rfl
theorem l_lnfz12 {x0 x1 x2 x3 x4 x5 x6 x7 x8 x9 x10 x11 : Sl} {L : D → Prop} : wL ⟨x0 :: x1 :: x2 :: x3 :: x4 :: x5 :: x6 :: x7 :: x8 :: x9 :: x10 :: x11 :: .fz d :: sl, st⟩ (.ln 12) L = L d := rfl
theorem v_fz12 {x0 x1 x2 x3 x4 x5 x6 x7 x8 x9 x10 x11 : Sl}  : wR (gVar 12 ⟨x0 :: x1 :: x2 :: x3 :: x4 :: x5 :: x6 :: x7 :: x8 :: x9 :: x10 :: x11 :: .fz d :: sl, st⟩) K E = K (.fz d) ⟨x0 :: x1 :: x2 :: x3 :: x4 :: x5 :: x6 :: x7 :: x8 :: x9 :: x10 :: x11 :: .fz d :: sl, st⟩ := rfl
theorem st_lnfz12 {x0 x1 x2 x3 x4 x5 x6 x7 x8 x9 x10 x11 : Sl} {L : D → S → Prop} : wSt (.ln 12) ⟨x0 :: x1 :: x2 :: x3 :: x4 :: x5 :: x6 :: x7 :: x8 :: x9 :: x10 :: x11 :: .fz d :: sl, st⟩ L = L d ⟨x0 :: x1 :: x2 :: x3 :: x4 :: x5 :: x6 :: x7 :: x8 :: x9 :: x10 :: x11 :: .fz d :: sl, st⟩ := rfl
theorem rt_lnfz12 {x0 x1 x2 x3 x4 x5 x6 x7 x8 x9 x10 x11 : Sl}  : wRet (.ln 12) ⟨x0 :: x1 :: x2 :: x3 :: x4 :: x5 :: x6 :: x7 :: x8 :: x9 :: x10 :: x11 :: .fz d :: sl, st⟩ TT = TT (.fz d) ⟨x0 :: x1 :: x2 :: x3 :: x4 :: x5 :: x6 :: x7 :: x8 :: x9 :: x10 :: x11 :: .fz d :: sl, st⟩ := rfl
theorem so_fz12 {x0 x1 x2 x3 x4 x5 x6 x7 x8 x9 x10 x11 : Sl} {y : Sl} : wSto 12 (.fz d) ⟨x0 :: x1 :: x2 :: x3 :: x4 :: x5 :: x6 :: x7 :: x8 :: x9 :: x10 :: x11 :: y :: sl, st⟩ N = N ⟨x0 :: x1 :: x2 :: x3 :: x4 :: x5 :: x6 :: x7 :: x8 :: x9 :: x10 :: x11 :: .fz d :: sl, st⟩ := rfl
theorem so_ow12 {x0 x1 x2 x3 x4 x5 x6 x7 x8 x9 x10 x11 : Sl} {y : Sl} : wSto 12 (.ow d) ⟨x0 :: x1 :: x2 :: x3 :: x4 :: x5 :: x6 :: x7 :: x8 :: x9 :: x10 :: x11 :: y :: sl, st⟩ N = N ⟨x0 :: x1 :: x2 :: x3 :: x4 :: x5 :: x6 :: x7 :: x8 :: x9 :: x10 :: x11 :: .ow d :: sl, st⟩ := rfl
theorem s1_12 {x0 x1 x2 x3 x4 x5 x6 x7 x8 x9 x10 x11 : Sl} {y z : Sl} : wS1 12 z ⟨x0 :: x1 :: x2 :: x3 :: x4 :: x5 :: x6 :: x7 :: x8 :: x9 :: x10 :: x11 :: y :: sl, st⟩ N = N ⟨x0 :: x1 :: x2 :: x3 :: x4 :: x5 :: x6 :: x7 :: x8 :: x9 :: x10 :: x11 :: z :: sl, st⟩ := rfl
theorem ch_ow12 {x0 x1 x2 x3 x4 x5 x6 x7 x8 x9 x10 x11 : Sl} {f : D → Option D} : wCh f (.ln 12) ⟨x0 :: x1 :: x2 :: x3 :: x4 :: x5 :: x6 :: x7 :: x8 :: x9 :: x10 :: x11 :: .ow d :: sl, st⟩ N = wOp (f d) fun d1 => N ⟨x0 :: x1 :: x2 :: x3 :: x4 :: x5 :: x6 :: x7 :: x8 :: x9 :: x10 :: x11 :: .ow d1 :: sl, st⟩ := by show (match (match f d with | some d1 => some _ | none => none) with | some s1 => N s1 | none => False) = (match f d with | some d1 => N _ | none => False); cases f d <;> rfl
theorem l_lnow13 {x0 x1 x2 x3 x4 x5 x6 x7 x8 x9 x10 x11 x12 : Sl} {L : D → Prop} : wL ⟨x0 :: x1 :: x2 :: x3 :: x4 :: x5 :: x6 :: x7 :: x8 :: x9 :: x10 :: x11 :: x12 :: .ow d :: sl, st⟩ (.ln 13) L = L d := rfl
theorem v_ow13 {x0 x1 x2 x3 x4 x5 x6 x7 x8 x9 x10 x11 x12 : Sl}  : wR (gVar 13 ⟨x0 :: x1 :: x2 :: x3 :: x4 :: x5 :: x6 :: x7 :: x8 :: x9 :: x10 :: x11 :: x12 :: .ow d :: sl, st⟩) K E = K (.ln 13) ⟨x0 :: x1 :: x2 :: x3 :: x4 :: x5 :: x6 :: x7 :: x8 :: x9 :: x10 :: x11 :: x12 :: .ow d :: sl, st⟩ := rfl
theorem st_lnow13 {x0 x1 x2 x3 x4 x5 x6 x7 x8 x9 x10 x11 x12 : Sl} {L : D → S → Prop} : wSt (.ln 13) ⟨x0 :: x1 :: x2 :: x3 :: x4 :: x5 :: x6 :: x7 :: x8 :: x9 :: x10 :: x11 :: x12 :: .ow d :: sl, st⟩ L = L d ⟨x0 :: x1 :: x2 :: x3 :: x4 :: x5 :: x6 :: x7 :: x8 :: x9 :: x10 :: x11 :: x12 :: .fz d :: sl, st⟩ := rfl
theorem rt_lnow13 {x0 x1 x2 x3 x4 x5 x6 x7 x8 x9 x10 x11 x12 : Sl}  : wRet (.ln 13) ⟨x0 :: x1 :: x2 :: x3 :: x4 :: x5 :: x6 :: x7 :: x8 :: x9 :: x10 :: x11 :: x12 :: .ow d :: sl, st⟩ TT = TT (.ow d) ⟨x0 :: x1 :: x2 :: x3 :: x4 :: x5 :: x6 :: x7 :: x8 :: x9 :: x10 :: x11 :: x12 :: .ow d :: sl, st⟩ := rfl
theorem l_lnfz13 {x0 x1 x2 x3 x4 x5 x6 x7 x8 x9 x10 x11 x12 : Sl} {L : D → Prop} : wL ⟨x0 :: x1 :: x2 :: x3 :: x4 :: x5 :: x6 :: x7 :: x8 :: x9 :: x10 :: x11 :: x12 :: .fz d :: sl, st⟩ (.ln 13) L = L d := rfl
theorem v_fz13 {x0 x1 x2 x3 x4 x5 x6 x7 x8 x9 x10 x11 x12 : Sl}  : wR (gVar 13 ⟨x0 :: x1 :: x2 :: x3 :: x4 :: x5 :: x6 :: x7 :: x8 :: x9 :: x10 :: x11 :: x12 :: .fz d :: sl, st⟩) K E = K (.fz d) ⟨x0 :: x1 :: x2 :: x3 :: x4 :: x5 :: x6 :: x7 :: x8 :: x9 :: x10 :: x11 :: x12 :: .fz d :: sl, st⟩ := rfl
theorem st_lnfz13 {x0 x1 x2 x3 x4 x5 x6 x7 x8 x9 x10 x11 x12 : Sl} {L : D → S → Prop} : wSt (.ln 13) ⟨x0 :: x1 :: x2 :: x3 :: x4 :: x5 :: x6 :: x7 :: x8 :: x9 :: x10 :: x11 :: x12 :: .fz d :: sl, st⟩ L = L d ⟨x0 :: x1 :: x2 :: x3 :: x4 :: x5 :: x6 :: x7 :: x8 :: x9 :: x10 :: x11 :: x12 :: .fz d :: sl, st⟩ := rfl
theorem rt_lnfz13 {x0 x1 x2 x3 x4 x5 x6 x7 x8 x9 x10 x11 x12 : Sl}  : wRet (.ln 13) ⟨x0 :: x1 :: x2 :: x3 :: x4 :: x5 :: x6 :: x7 :: x8 :: x9 :: x10 :: x11 :: x12 :: .fz d :: sl, st⟩ TT = TT (.fz d) ⟨x0 :: x1 :: x2 :: x3 :: x4 :: x5 :: x6 :: x7 :: x8 :: x9 :: x10 :: x11 :: x12 :: .fz d :: sl, st⟩ := rfl
theorem so_fz13 {x0 x1 x2 x3 x4 x5 x6 x7 x8 x9 x10 x11 x12 : Sl} {y : Sl} : wSto 13 (.fz d) ⟨x0 :: x1 :: x2 :: x3 :: x4 :: x5 :: x6 :: x7 :: x8 :: x9 :: x10 :: x11 :: x12 :: y :: sl, st⟩ N = N ⟨x0 :: x1 :: x2 :: x3 :: x4 :: x5 :: x6 :: x7 :: x8 :: x9 :: x10 :: x11 :: x12 :: .fz d :: sl, st⟩ := rfl
theorem so_ow13 {x0 x1 x2 x3 x4 x5 x6 x7 x8 x9 x10 x11 x12 : Sl} {y : Sl} : wSto 13 (.ow d) ⟨x0 :: x1 :: x2 :: x3 :: x4 :: x5 :: x6 :: x7 :: x8 :: x9 :: x10 :: x11 :: x12 :: y :: sl, st⟩ N = N ⟨x0 :: x1 :: x2 :: x3 :: x4 :: x5 :: x6 :: x7 :: x8 :: x9 :: x10 :: x11 :: x12 :: .ow d :: sl, st⟩ := rfl
theorem s1_13 {x0 x1 x2 x3 x4 x5 x6 x7 x8 x9 x10 x11 x12 : Sl} {y z : Sl} : wS1 13 z ⟨x0 :: x1 :: x2 :: x3 :: x4 :: x5 :: x6 :: x7 :: x8 :: x9 :: x10 :: x11 :: x12 :: y :: sl, st⟩ N = N ⟨x0 :: x1 :: x2 :: x3 :: x4 :: x5 :: x6 :: x7 :: x8 :: x9 :: x10 :: x11 :: x12 :: z :: sl, st⟩ := rfl
theorem ch_ow13 {x0 x1 x2 x3 x4 x5 x6 x7 x8 x9 x10 x11 x12 : Sl} {f : D → Option D} : wCh f (.ln 13) ⟨x0 :: x1 :: x2 :: x3 :: x4 :: x5 :: x6 :: x7 :: x8 :: x9 :: x10 :: x11 :: x12 :: .ow d :: sl, st⟩ N = wOp (f d) fun d1 => N ⟨x0 :: x1 :: x2 :: x3 :: x4 :: x5 :: x6 :: x7 :: x8 :: x9 :: x10 :: x11 :: x12 :: .ow d1 :: sl, st⟩ := by show (match (match f d with | some d1 => some _ | none => none) with | some s1 => N s1 | none => False) = (match f d with | some d1 => N _ | none => False); cases f d <;> rfl
theorem l_lnow14 {x0 x1 x2 x3 x4 x5 x6 x7 x8 x9 x10 x11 x12 x13 : Sl} {L : D → Prop} : wL ⟨x0 :: x1 :: x2 :: x3 :: x4 :: x5 :: x6 :: x7 :: x8 :: x9 :: x10 :: x11 :: x12 :: x13 :: .ow d :: sl, st⟩ (.ln 14) L = L d := rfl
theorem v_ow14 {x0 x1 x2 x3 x4 x5 x6 x7 x8 x9 x10 x11 x12 x13 : Sl}  : wR (gVar 14 ⟨x0 :: x1 :: x2 :: x3 :: x4 :: x5 :: x6 :: x7 :: x8 :: x9 :: x10 :: x11 :: x12 :: x13 :: .ow d :: sl, st⟩) K E = K (.ln 14) ⟨x0 :: x1 :: x2 :: x3 :: x4 :: x5 :: x6 :: x7 :: x8 :: x9 :: x10 :: x11 :: x12 :: x13 :: .ow d :: sl, st⟩ := rfl
theorem st_lnow14 {x0 x1 x2 x3 x4 x5 x6 x7 x8 x9 x10 x11 x12 x13 : Sl} {L : D → S → Prop} : wSt (.ln 14) ⟨x0 :: x1 :: x2 :: x3 :: x4 :: x5 :: x6 :: x7 :: x8 :: x9 :: x10 :: x11 :: x12 :: x13 :: .ow d :: sl, st⟩ L = L d ⟨x0 :: x1 :: x2 :: x3 :: x4 :: x5 :: x6 :: x7 :: x8 :: x9 :: x10 :: x11 :: x12 :: x13 :: .fz d :: sl, st⟩ := rfl
theorem rt_lnow14 {x0 x1 x2 x3 x4 x5 x6 x7 x8 x9 x10 x11 x12 x13 : Sl}  : wRet (.ln 14) ⟨x0 :: x1 :: x2 :: x3 :: x4 :: x5 :: x6 :: x7 :: x8 :: x9 :: x10 :: x11 :: x12 :: x13 :: .ow d :: sl, st⟩ TT = TT (.ow d) ⟨x0 :: x1 :: x2 :: x3 :: x4 :: x5 :: x6 :: x7 :: x8 :: x9 :: x10 :: x11 :: x12 :: x13 :: .ow d :: sl, st⟩ := rfl
theorem l_lnfz14 {x0 x1 x2 x3 x4 x5 x6 x7 x8 x9 x10 x11 x12 x13 : Sl} {L : D → Prop} : wL ⟨x0 :: x1 :: x2 :: x3 :: x4 :: x5 :: x6 :: x7 :: x8 :: x9 :: x10 :: x11 :: x12 :: x13 :: .fz d :: sl, st⟩ (.ln 14) L = L d := rfl
theorem v_fz14 {x0 x1 x2 x3 x4 x5 x6 x7 x8 x9 x10 x11 x12 x13 : Sl}  : wR (gVar 14 ⟨x0 :: x1 :: x2 :: x3 :: x4 :: x5 :: x6 :: x7 :: x8 :: x9 :: x10 :: x11 :: x12 :: x13 :: .fz d :: sl, st⟩) K E = K (.fz d) ⟨x0 :: x1 :: x2 :: x3 :: x4 :: x5 :: x6 :: x7 :: x8 :: x9 :: x10 :: x11 :: x12 :: x13 :: .fz d :: sl, st⟩ := rfl
theorem st_lnfz14 {x0 x1 x2 x3 x4 x5 x6 x7 x8 x9 x10 x11 x12 x13 : Sl} {L : D → S → Prop} : wSt (.ln 14) ⟨x0 :: x1 :: x2 :: x3 :: x4 :: x5 :: x6 :: x7 :: x8 :: x9 :: x10 :: x11 :: x12 :: x13 :: .fz d :: sl, st⟩ L = L d ⟨x0 :: x1 :: x2 :: x3 :: x4 :: x5 :: x6 :: x7 :: x8 :: x9 :: x10 :: x11 :: x12 :: x13 :: .fz d :: sl, st⟩ := rfl
theorem rt_lnfz14 {x0 x1 x2 x3 x4 x5 x6 x7 x8 x9 x10 x11 x12 x13 : Sl}  : wRet (.ln 14) ⟨x0 :: x1 :: x2 :: x3 :: x4 :: x5 :: x6 :: x7 :: x8 :: x9 :: x10 :: x11 :: x12 :: x13 :: .fz d :: sl, st⟩ TT = TT (.fz d) ⟨x0 :: x1 :: x2 :: x3 :: x4 :: x5 :: x6 :: x7 :: x8 :: x9 :: x10 :: x11 :: x12 :: x13 :: .fz d :: sl, st⟩ := rfl
theorem so_fz14 {x0 x1 x2 x3 x4 x5 x6 x7 x8 x9 x10 x11 x12 x13 : Sl} {y : Sl} : wSto 14 (.fz d) ⟨x0 :: x1 :: x2 :: x3 :: x4 :: x5 :: x6 :: x7 :: x8 :: x9 :: x10 :: x11 :: x12 :: x13 :: y :: sl, st⟩ N = N ⟨x0 :: x1 :: x2 :: x3 :: x4 :: x5 :: x6 :: x7 :: x8 :: x9 :: x10 :: x11 :: x12 :: x13 :: .fz d :: sl, st⟩ := rfl
theorem so_ow14 {x0 x1 x2 x3 x4 x5 x6 x7 x8 x9 x10 x11 x12 x13 : Sl} {y : Sl} : wSto 14 (.ow d) ⟨x0 :: x1 :: x2 :: x3 :: x4 :: x5 :: x6 :: x7 :: x8 :: x9 :: x10 :: x11 :: x12 :: x13 :: y :: sl, st⟩ N = N ⟨x0 :: x1 :: x2 :: x3 :: x4 :: x5 :: x6 :: x7 :: x8 :: x9 :: x10 :: x11 :: x12 :: x13 :: .ow d :: sl, st⟩ := rfl
theorem s1_14 {x0 x1 x2 x3 x4 x5 x6 x7 x8 x9 x10 x11 x12 x13 : Sl} {y z : Sl} : wS1 14 z ⟨x0 :: x1 :: x2 :: x3 :: x4 :: x5 :: x6 :: x7 :: x8 :: x9 :: x10 :: x11 :: x12 :: x13 :: y :: sl, st⟩ N = N ⟨x0 :: x1 :: x2 :: x3 :: x4 :: x5 :: x6 :: x7 :: x8 :: x9 :: x10 :: x11 :: x12 :: x13 :: z :: sl, st⟩ := rfl
theorem ch_ow14 {x0 x1 x2 x3 x4 x5 x6 x7 x8 x9 x10 x11 x12 x13 : Sl} {f : D → Option D} : wCh f (.ln 14) ⟨x0 :: x1 :: x2 :: x3 :: x4 :: x5 :: x6 :: x7 :: x8 :: x9 :: x10 :: x11 :: x12 :: x13 :: .ow d :: sl, st⟩ N = wOp (f d) fun d1 => N ⟨x0 :: x1 :: x2 :: x3 :: x4 :: x5 :: x6 :: x7 :: x8 :: x9 :: x10 :: x11 :: x12 :: x13 :: .ow d1 :: sl, st⟩ := by show (match (match f d with | some d1 => some _ | none => none) with | some s1 => N s1 | none => False) = (match f d with | some d1 => N _ | none => False); cases f d <;> rfl
theorem l_lnow15 {x0 x1 x2 x3 x4 x5 x6 x7 x8 x9 x10 x11 x12 x13 x14 : Sl} {L : D → Prop} : wL ⟨x0 :: x1 :: x2 :: x3 :: x4 :: x5 :: x6 :: x7 :: x8 :: x9 :: x10 :: x11 :: x12 :: x13 :: x14 :: .ow d :: sl, st⟩ (.ln 15) L = L d := rfl
theorem v_ow15 {x0 x1 x2 x3 x4 x5 x6 x7 x8 x9 x10 x11 x12 x13 x14 : Sl}  : wR (gVar 15 ⟨x0 :: x1 :: x2 :: x3 :: x4 :: x5 :: x6 :: x7 :: x8 :: x9 :: x10 :: x11 :: x12 :: x13 :: x14 :: .ow d :: sl, st⟩) K E = K (.ln 15) ⟨x0 :: x1 :: x2 :: x3 :: x4 :: x5 :: x6 :: x7 :: x8 :: x9 :: x10 :: x11 :: x12 :: x13 :: x14 :: .ow d :: sl, st⟩ := rfl
theorem st_lnow15 {x0 x1 x2 x3 x4 x5 x6 x7 x8 x9 x10 x11 x12 x13 x14 : Sl} {L : D → S → Prop} : wSt (.ln 15) ⟨x0 :: x1 :: x2 :: x3 :: x4 :: x5 :: x6 :: x7 :: x8 :: x9 :: x10 :: x11 :: x12 :: x13 :: x14 :: .ow d :: sl, st⟩ L = L d ⟨x0 :: x1 :: x2 :: x3 :: x4 :: x5 :: x6 :: x7 :: x8 :: x9 :: x10 :: x11 :: x12 :: x13 :: x14 :: .fz d :: sl, st⟩ := rfl
theorem rt_lnow15 {x0 x1 x2 x3 x4 x5 x6 x7 x8 x9 x10 x11 x12 x13 x14 : Sl}  : wRet (.ln 15) ⟨x0 :: x1 :: x2 :: x3 :: x4 :: x5 :: x6 :: x7 :: x8 :: x9 :: x10 :: x11 :: x12 :: x13 :: x14 :: .ow d :: sl, st⟩ TT = TT (.ow d) ⟨x0 :: x1 :: x2 :: x3 :: x4 :: x5 :: x6 :: x7 :: x8 :: x9 :: x10 :: x11 :: x12 :: x13 :: x14 :: .ow d :: sl, st⟩ := rfl
theorem l_lnfz15 {x0 x1 x2 x3 x4 x5 x6 x7 x8 x9 x10 x11 x12 x13 x14 : Sl} {L : D → Prop} : wL ⟨x0 :: x1 :: x2 :: x3 :: x4 :: x5 :: x6 :: x7 :: x8 :: x9 :: x10 :: x11 :: x12 :: x13 :: x14 :: .fz d :: sl, st⟩ (.ln 15) L = L d := rfl
theorem v_fz15 {x0 x1 x2 x3 x4 x5 x6 x7 x8 x9 x10 x11 x12 x13 x14 : Sl}  : wR (gVar 15 ⟨x0 :: x1 :: x2 :: x3 :: x4 :: x5 :: x6 :: x7 :: x8 :: x9 :: x10 :: x11 :: x12 :: x13 :: x14 :: .fz d :: sl, st⟩) K E = K (.fz d) ⟨x0 :: x1 :: x2 :: x3 :: x4 :: x5 :: x6 :: x7 :: x8 :: x9 :: x10 :: x11 :: x12 :: x13 :: x14 :: .fz d :: sl, st⟩ := rfl
theorem st_lnfz15 {x0 x1 x2 x3 x4 x5 x6 x7 x8 x9 x10 x11 x12 x13 x14 : Sl} {L : D → S → Prop} : wSt (.ln 15) ⟨x0 :: x1 :: x2 :: x3 :: x4 :: x5 :: x6 :: x7 :: x8 :: x9 :: x10 :: x11 :: x12 :: x13 :: x14 :: .fz d :: sl, st⟩ L = L d ⟨x0 :: x1 :: x2 :: x3 :: x4 :: x5 :: x6 :: x7 :: x8 :: x9 :: x10 :: x11 :: x12 :: x13 :: x14 :: .fz d :: sl, st⟩ := rfl
theorem rt_lnfz15 {x0 x1 x2 x3 x4 x5 x6 x7 x8 x9 x10 x11 x12 x13 x14 : Sl}  : wRet (.ln 15) ⟨x0 :: x1 :: x2 :: x3 :: x4 :: x5 :: x6 :: x7 :: x8 :: x9 :: x10 :: x11 :: x12 :: x13 :: x14 :: .fz d :: sl, st⟩ TT = TT (.fz d) ⟨x0 :: x1 :: x2 :: x3 :: x4 :: x5 :: x6 :: x7 :: x8 :: x9 :: x10 :: x11 :: x12 :: x13 :: x14 :: .fz d :: sl, st⟩ := rfl
theorem so_fz15 {x0 x1 x2 x3 x4 x5 x6 x7 x8 x9 x10 x11 x12 x13 x14 : Sl} {y : Sl} : wSto 15 (.fz d) ⟨x0 :: x1 :: x2 :: x3 :: x4 :: x5 :: x6 :: x7 :: x8 :: x9 :: x10 :: x11 :: x12 :: x13 :: x14 :: y :: sl, st⟩ N = N ⟨x0 :: x1 :: x2 :: x3 :: x4 :: x5 :: x6 :: x7 :: x8 :: x9 :: x10 :: x11 :: x12 :: x13 :: x14 :: .fz d :: sl, st⟩ := rfl
theorem so_ow15 {x0 x1 x2 x3 x4 x5 x6 x7 x8 x9 x10 x11 x12 x13 x14 : Sl} {y : Sl} : wSto 15 (.ow d) ⟨x0 :: x1 :: x2 :: x3 :: x4 :: x5 :: x6 :: x7 :: x8 :: x9 :: x10 :: x11 :: x12 :: x13 :: x14 :: y :: sl, st⟩ N = N ⟨x0 :: x1 :: x2 :: x3 :: x4 :: x5 :: x6 :: x7 :: x8 :: x9 :: x10 :: x11 :: x12 :: x13 :: x14 :: .ow d :: sl, st⟩ := rfl
theorem s1_15 {x0 x1 x2 x3 x4 x5 x6 x7 x8 x9 x10 x11 x12 x13 x14 : Sl} {y z : Sl} : wS1 15 z ⟨x0 :: x1 :: x2 :: x3 :: x4 :: x5 :: x6 :: x7 :: x8 :: x9 :: x10 :: x11 :: x12 :: x13 :: x14 :: y :: sl, st⟩ N = N ⟨x0 :: x1 :: x2 :: x3 :: x4 :: x5 :: x6 :: x7 :: x8 :: x9 :: x10 :: x11 :: x12 :: x13 :: x14 :: z :: sl, st⟩ := rfl
theorem ch_ow15 {x0 x1 x2 x3 x4 x5 x6 x7 x8 x9 x10 x11 x12 x13 x14 : Sl} {f : D → Option D} : wCh f (.ln 15) ⟨x0 :: x1 :: x2 :: x3 :: x4 :: x5 :: x6 :: x7 :: x8 :: x9 :: x10 :: x11 :: x12 :: x13 :: x14 :: .ow d :: sl, st⟩ N = wOp (f d) fun d1 => N ⟨x0 :: x1 :: x2 :: x3 :: x4 :: x5 :: x6 :: x7 :: x8 :: x9 :: x10 :: x11 :: x12 :: x13 :: x14 :: .ow d1 :: sl, st⟩ := by show (match (match f d with | some d1 => some _ | none => none) with | some s1 => N s1 | none => False) = (match f d with | some d1 => N _ | none => False); cases f d <;> rfl
theorem l_lnow16 {x0 x1 x2 x3 x4 x5 x6 x7 x8 x9 x10 x11 x12 x13 x14 x15 : Sl} {L : D → Prop} : wL ⟨x0 :: x1 :: x2 :: x3 :: x4 :: x5 :: x6 :: x7 :: x8 :: x9 :: x10 :: x11 :: x12 :: x13 :: x14 :: x15 :: .ow d :: sl, st⟩ (.ln 16) L = L d := rfl
theorem v_ow16 {x0 x1 x2 x3 x4 x5 x6 x7 x8 x9 x10 x11 x12 x13 x14 x15 : Sl}  : wR (gVar 16 ⟨x0 :: x1 :: x2 :: x3 :: x4 :: x5 :: x6 :: x7 :: x8 :: x9 :: x10 :: x11 :: x12 :: x13 :: x14 :: x15 :: .ow d :: sl, st⟩) K E = K (.ln 16) ⟨x0 :: x1 :: x2 :: x3 :: x4 :: x5 :: x6 :: x7 :: x8 :: x9 :: x10 :: x11 :: x12 :: x13 :: x14 :: x15 :: .ow d :: sl, st⟩ := rfl
theorem st_lnow16 {x0 x1 x2 x3 x4 x5 x6 x7 x8 x9 x10 x11 x12 x13 x14 x15 : Sl} {L : D → S → Prop} : wSt (.ln 16) ⟨x0 :: x1 :: x2 :: x3 :: x4 :: x5 :: x6 :: x7 :: x8 :: x9 :: x10 :: x11 :: x12 :: x13 :: x14 :: x15 :: .ow d :: sl, st⟩ L = L d ⟨x0 :: x1 :: x2 :: x3 :: x4 :: x5 :: x6 :: x7 :: x8 :: x9 :: x10 :: x11 :: x12 :: x13 :: x14 :: x15 :: .fz d :: sl, st⟩ := rfl
theorem rt_lnow16 {x0 x1 x2 x3 x4 x5 x6 x7 x8 x9 x10 x11 x12 x13 x14 x15 : Sl}  : wRet (.ln 16) ⟨x0 :: x1 :: x2 :: x3 :: x4 :: x5 :: x6 :: x7 :: x8 :: x9 :: x10 :: x11 :: x12 :: x13 :: x14 :: x15 :: .ow d :: sl, st⟩ TT = TT (.ow d) ⟨x0 :: x1 :: x2 :: x3 :: x4 :: x5 :: x6 :: x7 :: x8 :: x9 :: x10 :: x11 :: x12 :: x13 :: x14 :: x15 :: .ow d :: sl, st⟩ := rfl
theorem l_lnfz16 {x0 x1 x2 x3 x4 x5 x6 x7 x8 x9 x10 x11 x12 x13 x14 x15 : Sl} {L : D → Prop} : wL ⟨x0 :: x1 :: x2 :: x3 :: x4 :: x5 :: x6 :: x7 :: x8 :: x9 :: x10 :: x11 :: x12 :: x13 :: x14 :: x15 :: .fz d :: sl, st⟩ (.ln 16) L = L d := rfl
theorem v_fz16 {x0 x1 x2 x3 x4 x5 x6 x7 x8 x9 x10 x11 x12 x13 x14 x15 : Sl}  : wR (gVar 16 ⟨x0 :: x1 :: x2 :: x3 :: x4 :: x5 :: x6 :: x7 :: x8 :: x9 :: x10 :: x11 :: x12 :: x13 :: x14 :: x15 :: .fz d :: sl, st⟩) K E = K (.fz d) ⟨x0 :: x1 :: x2 :: x3 :: x4 :: x5 :: x6 :: x7 :: x8 :: x9 :: x10 :: x11 :: x12 :: x13 :: x14 :: x15 :: .fz d :: sl, st⟩ := rfl
theorem st_lnfz16 {x0 x1 x2 x3 x4 x5 x6 x7 x8 x9 x10 x11 x12 x13 x14 x15 : Sl} {L : D → S → Prop} : wSt (.ln 16) ⟨x0 :: x1 :: x2 :: x3 :: x4 :: x5 :: x6 :: x7 :: x8 :: x9 :: x10 :: x11 :: x12 :: x13 :: x14 :: x15 :: .fz d :: sl, st⟩ L = L d ⟨x0 :: x1 :: x2 :: x3 :: x4 :: x5 :: x6 :: x7 :: x8 :: x9 :: x10 :: x11 :: x12 :: x13 :: x14 :: x15 :: .fz d :: sl, st⟩ := rfl
theorem rt_lnfz16 {x0 x1 x2 x3 x4 x5 x6 x7 x8 x9 x10 x11 x12 x13 x14 x15 : Sl}  : wRet (.ln 16) ⟨x0 :: x1 :: x2 :: x3 :: x4 :: x5 :: x6 :: x7 :: x8 :: x9 :: x10 :: x11 :: x12 :: x13 :: x14 :: x15 :: .fz d :: sl, st⟩ TT = TT (.fz d) ⟨x0 :: x1 :: x2 :: x3 :: x4 :: x5 :: x6 :: x7 :: x8 :: x9 :: x10 :: x11 :: x12 :: x13 :: x14 :: x15 :: .fz d :: sl, st⟩ := rfl
theorem so_fz16 {x0 x1 x2 x3 x4 x5 x6 x7 x8 x9 x10 x11 x12 x13 x14 x15 : Sl} {y : Sl} : wSto 16 (.fz d) ⟨x0 :: x1 :: x2 :: x3 :: x4 :: x5 :: x6 :: x7 :: x8 :: x9 :: x10 :: x11 :: x12 :: x13 :: x14 :: x15 :: y :: sl, st⟩ N = N ⟨x0 :: x1 :: x2 :: x3 :: x4 :: x5 :: x6 :: x7 :: x8 :: x9 :: x10 :: x11 :: x12 :: x13 :: x14 :: x15 :: .fz d :: sl, st⟩ := rfl
theorem so_ow16 {x0 x1 x2 x3 x4 x5 x6 x7 x8 x9 x10 x11 x12 x13 x14 x15 : Sl} {y : Sl} : wSto 16 (.ow d) ⟨x0 :: x1 :: x2 :: x3 :: x4 :: x5 :: x6 :: x7 :: x8 :: x9 :: x10 :: x11 :: x12 :: x13 :: x14 :: x15 :: y :: sl, st⟩ N = N ⟨x0 :: x1 :: x2 :: x3 :: x4 :: x5 :: x6 :: x7 :: x8 :: x9 :: x10 :: x11 :: x12 :: x13 :: x14 :: x15 :: .ow d :: sl, st⟩ := rfl
theorem s1_16 {x0 x1 x2 x3 x4 x5 x6 x7 x8 x9 x10 x11 x12 x13 x14 x15 : Sl} {y z : Sl} : wS1 16 z ⟨x0 :: x1 :: x2 :: x3 :: x4 :: x5 :: x6 :: x7 :: x8 :: x9 :: x10 :: x11 :: x12 :: x13 :: x14 :: x15 :: y :: sl, st⟩ N = N ⟨x0 :: x1 :: x2 :: x3 :: x4 :: x5 :: x6 :: x7 :: x8 :: x9 :: x10 :: x11 :: x12 :: x13 :: x14 :: x15 :: z :: sl, st⟩ := rfl
theorem ch_ow16 {x0 x1 x2 x3 x4 x5 x6 x7 x8 x9 x10 x11 x12 x13 x14 x15 : Sl} {f : D → Option D} : wCh f (.ln 16) ⟨x0 :: x1 :: x2 :: x3 :: x4 :: x5 :: x6 :: x7 :: x8 :: x9 :: x10 :: x11 :: x12 :: x13 :: x14 :: x15 :: .ow d :: sl, st⟩ N = wOp (f d) fun d1 => N ⟨x0 :: x1 :: x2 :: x3 :: x4 :: x5 :: x6 :: x7 :: x8 :: x9 :: x10 :: x11 :: x12 :: x13 :: x14 :: x15 :: .ow d1 :: sl, st⟩ := by show (match (match f d with | some d1 => some _ | none => none) with | some s1 => N s1 | none => False) = (match f d with | some d1 => N _ | none => False); cases f d <;> rfl
theorem l_lnow17 {x0 x1 x2 x3 x4 x5 x6 x7 x8 x9 x10 x11 x12 x13 x14 x15 x16 : Sl} {L : D → Prop} : wL ⟨x0 :: x1 :: x2 :: x3 :: x4 :: x5 :: x6 :: x7 :: x8 :: x9 :: x10 :: x11 :: x12 :: x13 :: x14 :: x15 :: x16 :: .ow d :: sl, st⟩ (.ln 17) L = L d := rfl
theorem v_ow17 {x0 x1 x2 x3 x4 x5 x6 x7 x8 x9 x10 x11 x12 x13 x14 x15 x16 : Sl}  : wR (gVar 17 ⟨x0 :: x1 :: x2 :: x3 :: x4 :: x5 :: x6 :: x7 :: x8 :: x9 :: x10 :: x11 :: x12 :: x13 :: x14 :: x15 :: x16 :: .ow d :: sl, st⟩) K E = K (.ln 17) ⟨x0 :: x1 :: x2 :: x3 :: x4 :: x5 :: x6 :: x7 :: x8 :: x9 :: x10 :: x11 :: x12 :: x13 :: x14 :: x15 :: x16 :: .ow d :: sl, st⟩ := rfl
theorem st_lnow17 {x0 x1 x2 x3 x4 x5 x6 x7 x8 x9 x10 x11 x12 x13 x14 x15 x16 : Sl} {L : D → S → Prop} : wSt (.ln 17) ⟨x0 :: x1 :: x2 :: x3 :: x4 :: x5 :: x6 :: x7 :: x8 :: x9 :: x10 :: x11 :: x12 :: x13 :: x14 :: x15 :: x16 :: .ow d :: sl, st⟩ L = L d ⟨x0 :: x1 :: x2 :: x3 :: x4 :: x5 :: x6 :: x7 :: x8 :: x9 :: x10 :: x11 :: x12 :: x13 :: x14 :: x15 :: x16 :: .fz d :: sl, st⟩ := rfl
theorem rt_lnow17 {x0 x1 x2 x3 x4 x5 x6 x7 x8 x9 x10 x11 x12 x13 x14 x15 x16 : Sl}  : wRet (.ln 17) ⟨x0 :: x1 :: x2 :: x3 :: x4 :: x5 :: x6 :: x7 :: x8 :: x9 :: x10 :: x11 :: x12 :: x13 :: x14 :: x15 :: x16 :: .ow d :: sl, st⟩ TT = TT (.ow d) ⟨x0 :: x1 :: x2 :: x3 :: x4 :: x5 :: x6 :: x7 :: x8 :: x9 :: x10 :: x11 :: x12 :: x13 :: x14 :: x15 :: x16 :: .ow d :: sl, st⟩ := rfl
theorem l_lnfz17 {x0 x1 x2 x3 x4 x5 x6 x7 x8 x9 x10 x11 x12 x13 x14 x15 x16 : Sl} {L : D → Prop} : wL ⟨x0 :: x1 :: x2 :: x3 :: x4 :: x5 :: x6 :: x7 :: x8 :: x9 :: x10 :: x11 :: x12 :: x13 :: x14 :: x15 :: x16 :: .fz d :: sl, st⟩ (.ln 17) L = L d := rfl
theorem v_fz17 {x0 x1 x2 x3 x4 x5 x6 x7 x8 x9 x10 x11 x12 x13 x14 x15 x16 : Sl}  : wR (gVar 17 ⟨x0 :: x1 :: x2 :: x3 :: x4 :: x5 :: x6 :: x7 :: x8 :: x9 :: x10 :: x11 :: x12 :: x13 :: x14 :: x15 :: x16 :: .fz d :: sl, st⟩) K E = K (.fz d) ⟨x0 :: x1 :: x2 :: x3 :: x4 :: x5 :: x6 :: x7 :: x8 :: x9 :: x10 :: x11 :: x12 :: x13 :: x14 :: x15 :: x16 :: .fz d :: sl, st⟩ := rfl
theorem st_lnfz17 {x0 x1 x2 x3 x4 x5 x6 x7 x8 x9 x10 x11 x12 x13 x14 x15 x16 : Sl} {L : D → S → Prop} : wSt (.ln 17) ⟨x0 :: x1 :: x2 :: x3 :: x4 :: x5 :: x6 :: x7 :: x8 :: x9 :: x10 :: x11 :: x12 :: x13 :: x14 :: x15 :: x16 :: .fz d :: sl, st⟩ L = L d ⟨x0 :: x1 :: x2 :: x3 :: x4 :: x5 :: x6 :: x7 :: x8 :: x9 :: x10 :: x11 :: x12 :: x13 :: x14 :: x15 :: x16 :: .fz d :: sl, st⟩ := rfl
theorem rt_lnfz17 {x0 x1 x2 x3 x4 x5 x6 x7 x8 x9 x10 x11 x12 x13 x14 x15 x16 : Sl}  : wRet (.ln 17) ⟨x0 :: x1 :: x2 :: x3 :: x4 :: x5 :: x6 :: x7 :: x8 :: x9 :: x10 :: x11 :: x12 :: x13 :: x14 :: x15 :: x16 :: .fz d :: sl, st⟩ TT = TT (.fz d) ⟨x0 :: x1 :: x2 :: x3 :: x4 :: x5 :: x6 :: x7 :: x8 :: x9 :: x10 :: x11 :: x12 :: x13 :: x14 :: x15 :: x16 :: .fz d :: sl, st⟩ := rfl
theorem so_fz17 {x0 x1 x2 x3 x4 x5 x6 x7 x8 x9 x10 x11 x12 x13 x14 x15 x16 : Sl} {y : Sl} : wSto 17 (.fz d) ⟨x0 :: x1 :: x2 :: x3 :: x4 :: x5 :: x6 :: x7 :: x8 :: x9 :: x10 :: x11 :: x12 :: x13 :: x14 :: x15 :: x16 :: y :: sl, st⟩ N = N ⟨x0 :: x1 :: x2 :: x3 :: x4 :: x5 :: x6 :: x7 :: x8 :: x9 :: x10 :: x11 :: x12 :: x13 :: x14 :: x15 :: x16 :: .fz d :: sl, st⟩ := rfl
theorem so_ow17 {x0 x1 x2 x3 x4 x5 x6 x7 x8 x9 x10 x11 x12 x13 x14 x15 x16 : Sl} {y : Sl} : wSto 17 (.ow d) ⟨x0 :: x1 :: x2 :: x3 :: x4 :: x5 :: x6 :: x7 :: x8 :: x9 :: x10 :: x11 :: x12 :: x13 :: x14 :: x15 :: x16 :: y :: sl, st⟩ N = N ⟨x0 :: x1 :: x2 :: x3 :: x4 :: x5 :: x6 :: x7 :: x8 :: x9 :: x10 :: x11 :: x12 :: x13 :: x14 :: x15 :: x16 :: .ow d :: sl, st⟩ := rfl
theorem s1_17 {x0 x1 x2 x3 x4 x5 x6 x7 x8 x9 x10 x11 x12 x13 x14 x15 x16 : Sl} {y z : Sl} : wS1 17 z ⟨x0 :: x1 :: x2 :: x3 :: x4 :: x5 :: x6 :: x7 :: x8 :: x9 :: x10 :: x11 :: x12 :: x13 :: x14 :: x15 :: x16 :: y :: sl, st⟩ N = N ⟨x0 :: x1 :: x2 :: x3 :: x4 :: x5 :: x6 :: x7 :: x8 :: x9 :: x10 :: x11 :: x12 :: x13 :: x14 :: x15 :: x16 :: z :: sl, st⟩ := rfl
theorem ch_ow17 {x0 x1 x2 x3 x4 x5 x6 x7 x8 x9 x10 x11 x12 x13 x14 x15 x16 : Sl} {f : D → Option D} : wCh f (.ln 17) ⟨x0 :: x1 :: x2 :: x3 :: x4 :: x5 :: x6 :: x7 :: x8 :: x9 :: x10 :: x11 :: x12 :: x13 :: x14 :: x15 :: x16 :: .ow d :: sl, st⟩ N = wOp (f d) fun d1 => N ⟨x0 :: x1 :: x2 :: x3 :: x4 :: x5 :: x6 :: x7 :: x8 :: x9 :: x10 :: x11 :: x12 :: x13 :: x14 :: x15 :: x16 :: .ow d1 :: sl, st⟩ := by show (match (match f d with | some d1 => some _ | none => none) with | some s1 => N s1 | none => False) = (match f d with | some d1 => N _ | none => False); cases f d <;> rfl
theorem l_lnow18 {x0 x1 x2 x3 x4 x5 x6 x7 x8 x9 x10 x11 x12 x13 x14 x15 x16 x17 : Sl} {L : D → Prop} : wL ⟨x0 :: x1 :: x2 :: x3 :: x4 :: x5 :: x6 :: x7 :: x8 :: x9 :: x10 :: x11 :: x12 :: x13 :: x14 :: x15 :: x16 :: x17 :: .ow d :: sl, st⟩ (.ln 18) L = L d := rfl
theorem v_ow18 {x0 x1 x2 x3 x4 x5 x6 x7 x8 x9 x10 x11 x12 x13 x14 x15 x16 x17 : Sl}  : wR (gVar 18 ⟨x0 :: x1 :: x2 :: x3 :: x4 :: x5 :: x6 :: x7 :: x8 :: x9 :: x10 :: x11 :: x12 :: x13 :: x14 :: x15 :: x16 :: x17 :: .ow d :: sl, st⟩) K E = K (.ln 18) ⟨x0 :: x1 :: x2 :: x3 :: x4 :: x5 :: x6 :: x7 :: x8 :: x9 :: x10 :: x11 :: x12 :: x13 :: x14 :: x15 :: x16 :: x17 :: .ow d :: sl, st⟩ := rfl
theorem st_lnow18 {x0 x1 x2 x3 x4 x5 x6 x7 x8 x9 x10 x11 x12 x13 x14 x15 x16 x17 : Sl} {L : D → S → Prop} : wSt (.ln 18) ⟨x0 :: x1 :: x2 :: x3 :: x4 :: x5 :: x6 :: x7 :: x8 :: x9 :: x10 :: x11 :: x12 :: x13 :: x14 :: x15 :: x16 :: x17 :: .ow d :: sl, st⟩ L = L d ⟨x0 :: x1 :: x2 :: x3 :: x4 :: x5 :: x6 :: x7 :: x8 :: x9 :: x10 :: x11 :: x12 :: x13 :: x14 :: x15 :: x16 :: x17 :: .fz d :: sl, st⟩ := rfl
theorem rt_lnow18 {x0 x1 x2 x3 x4 x5 x6 x7 x8 x9 x10 x11 x12 x13 x14 x15 x16 x17 : Sl}  : wRet (.ln 18) ⟨x0 :: x1 :: x2 :: x3 :: x4 :: x5 :: x6 :: x7 :: x8 :: x9 :: x10 :: x11 :: x12 :: x13 :: x14 :: x15 :: x16 :: x17 :: .ow d :: sl, st⟩ TT = TT (.ow d) ⟨x0 :: x1 :: x2 :: x3 :: x4 :: x5 :: x6 :: x7 :: x8 :: x9 :: x10 :: x11 :: x12 :: x13 :: x14 :: x15 :: x16 :: x17 :: .ow d :: sl, st⟩ := rfl
theorem l_lnfz18 {x0 x1 x2 x3 x4 x5 x6 x7 x8 x9 x10 x11 x12 x13 x14 x15 x16 x17 : Sl} {L : D → Prop} : wL ⟨x0 :: x1 :: x2 :: x3 :: x4 :: x5 :: x6 :: x7 :: x8 :: x9 :: x10 :: x11 :: x12 :: x13 :: x14 :: x15 :: x16 :: x17 :: .fz d :: sl, st⟩ (.ln 18) L = L d := rfl
theorem v_fz18 {x0 x1 x2 x3 x4 x5 x6 x7 x8 x9 x10 x11 x12 x13 x14 x15 x16 x17 : Sl}  : wR (gVar 18 ⟨x0 :: x1 :: x2 :: x3 :: x4 :: x5 :: x6 :: x7 :: x8 :: x9 :: x10 :: x11 :: x12 :: x13 :: x14 :: x15 :: x16 :: x17 :: .fz d :: sl, st⟩) K E = K (.fz d) ⟨x0 :: x1 :: x2 :: x3 :: x4 :: x5 :: x6 :: x7 :: x8 :: x9 :: x10 :: x11 :: x12 :: x13 :: x14 :: x15 :: x16 :: x17 :: .fz d :: sl, st⟩ := rfl
theorem st_lnfz18 {x0 x1 x2 x3 x4 x5 x6 x7 x8 x9 x10 x11 x12 x13 x14 x15 x16 x17 : Sl} {L : D → S → Prop} : wSt (.ln 18) ⟨x0 :: x1 :: x2 :: x3 :: x4 :: x5 :: x6 :: x7 :: x8 :: x9 :: x10 :: x11 :: x12 :: x13 :: x14 :: x15 :: x16 :: x17 :: .fz d :: sl, st⟩ L = L d ⟨x0 :: x1 :: x2 :: x3 :: x4 :: x5 :: x6 :: x7 :: x8 :: x9 :: x10 :: x11 :: x12 :: x13 :: x14 :: x15 :: x16 :: x17 :: .fz d :: sl, st⟩ := rfl
theorem rt_lnfz18 {x0 x1 x2 x3 x4 x5 x6 x7 x8 x9 x10 x11 x12 x13 x14 x15 x16 x17 : Sl}  : wRet (.ln 18) ⟨x0 :: x1 :: x2 :: x3 :: x4 :: x5 :: x6 :: x7 :: x8 :: x9 :: x10 :: x11 :: x12 :: x13 :: x14 :: x15 :: x16 :: x17 :: .fz d :: sl, st⟩ TT = TT (.fz d) ⟨x0 :: x1 :: x2 :: x3 :: x4 :: x5 :: x6 :: x7 :: x8 :: x9 :: x10 :: x11 :: x12 :: x13 :: x14 :: x15 :: x16 :: x17 :: .fz d :: sl, st⟩ := rfl
theorem so_fz18 {x0 x1 x2 x3 x4 x5 x6 x7 x8 x9 x10 x11 x12 x13 x14 x15 x16 x17 : Sl} {y : Sl} : wSto 18 (.fz d) ⟨x0 :: x1 :: x2 :: x3 :: x4 :: x5 :: x6 :: x7 :: x8 :: x9 :: x10 :: x11 :: x12 :: x13 :: x14 :: x15 :: x16 :: x17 :: y :: sl, st⟩ N = N ⟨x0 :: x1 :: x2 :: x3 :: x4 :: x5 :: x6 :: x7 :: x8 :: x9 :: x10 :: x11 :: x12 :: x13 :: x14 :: x15 :: x16 :: x17 :: .fz d :: sl, st⟩ := rfl
theorem so_ow18 {x0 x1 x2 x3 x4 x5 x6 x7 x8 x9 x10 x11 x12 x13 x14 x15 x16 x17 : Sl} {y : Sl} : wSto 18 (.ow d) ⟨x0 :: x1 :: x2 :: x3 :: x4 :: x5 :: x6 :: x7 :: x8 :: x9 :: x10 :: x11 :: x12 :: x13 :: x14 :: x15 :: x16 :: x17 :: y :: sl, st⟩ N = N ⟨x0 :: x1 :: x2 :: x3 :: x4 :: x5 :: x6 :: x7 :: x8 :: x9 :: x10 :: x11 :: x12 :: x13 :: x14 :: x15 :: x16 :: x17 :: .ow d :: sl, st⟩ := rfl
theorem s1_18 {x0 x1 x2 x3 x4 x5 x6 x7 x8 x9 x10 x11 x12 x13 x14 x15 x16 x17 : Sl} {y z : Sl} : wS1 18 z ⟨x0 :: x1 :: x2 :: x3 :: x4 :: x5 :: x6 :: x7 :: x8 :: x9 :: x10 :: x11 :: x12 :: x13 :: x14 :: x15 :: x16 :: x17 :: y :: sl, st⟩ N = N ⟨x0 :: x1 :: x2 :: x3 :: x4 :: x5 :: x6 :: x7 :: x8 :: x9 :: x10 :: x11 :: x12 :: x13 :: x14 :: x15 :: x16 :: x17 :: z :: sl, st⟩ := rfl
theorem ch_ow18 {x0 x1 x2 x3 x4 x5 x6 x7 x8 x9 x10 x11 x12 x13 x14 x15 x16 x17 : Sl} {f : D → Option D} : wCh f (.ln 18) ⟨x0 :: x1 :: x2 :: x3 :: x4 :: x5 :: x6 :: x7 :: x8 :: x9 :: x10 :: x11 :: x12 :: x13 :: x14 :: x15 :: x16 :: x17 :: .ow d :: sl, st⟩ N = wOp (f d) fun d1 => N ⟨x0 :: x1 :: x2 :: x3 :: x4 :: x5 :: x6 :: x7 :: x8 :: x9 :: x10 :: x11 :: x12 :: x13 :: x14 :: x15 :: x16 :: x17 :: .ow d1 :: sl, st⟩ := by show (match (match f d with | some d1 => some _ | none => none) with | some s1 => N s1 | none => False) = (match f d with | some d1 => N _ | none => False); cases f d <;> rfl
theorem l_lnow19 {x0 x1 x2 x3 x4 x5 x6 x7 x8 x9 x10 x11 x12 x13 x14 x15 x16 x17 x18 : Sl} {L : D → Prop} : wL ⟨x0 :: x1 :: x2 :: x3 :: x4 :: x5 :: x6 :: x7 :: x8 :: x9 :: x10 :: x11 :: x12 :: x13 :: x14 :: x15 :: x16 :: x17 :: x18 :: .ow d :: sl, st⟩ (.ln 19) L = L d := rfl
theorem v_ow19 {x0 x1 x2 x3 x4 x5 x6 x7 x8 x9 x10 x11 x12 x13 x14 x15 x16 x17 x18 : Sl}  : wR (gVar 19 ⟨x0 :: x1 :: x2 :: x3 :: x4 :: x5 :: x6 :: x7 :: x8 :: x9 :: x10 :: x11 :: x12 :: x13 :: x14 :: x15 :: x16 :: x17 :: x18 :: .ow d :: sl, st⟩) K E = K (.ln 19) ⟨x0 :: x1 :: x2 :: x3 :: x4 :: x5 :: x6 :: x7 :: x8 :: x9 :: x10 :: x11 :: x12 :: x13 :: x14 :: x15 :: x16 :: x17 :: x18 :: .ow d :: sl, st⟩ := rfl
theorem st_lnow19 {x0 x1 x2 x3 x4 x5 x6 x7 x8 x9 x10 x11 x12 x13 x14 x15 x16 x17 x18 : Sl} {L : D → S → Prop} : wSt (.ln 19) ⟨x0 :: x1 :: x2 :: x3 :: x4 :: x5 :: x6 :: x7 :: x8 :: x9 :: x10 :: x11 :: x12 :: x13 :: x14 :: x15 :: x16 :: x17 :: x18 :: .ow d :: sl, st⟩ L = L d ⟨x0 :: x1 :: x2 :: x3 :: x4 :: x5 :: x6 :: x7 :: x8 :: x9 :: x10 :: x11 :: x12 :: x13 :: x14 :: x15 :: x16 :: x17 :: x18 :: .fz d :: sl, st⟩ := rfl
theorem rt_lnow19 {x0 x1 x2 x3 x4 x5 x6 x7 x8 x9 x10 x11 x12 x13 x14 x15 x16 x17 x18 : Sl}  : wRet (.ln 19) ⟨x0 :: x1 :: x2 :: x3 :: x4 :: x5 :: x6 :: x7 :: x8 :: x9 :: x10 :: x11 :: x12 :: x13 :: x14 :: x15 :: x16 :: x17 :: x18 :: .ow d :: sl, st⟩ TT = TT (.ow d) ⟨x0 :: x1 :: x2 :: x3 :: x4 :: x5 :: x6 :: x7 :: x8 :: x9 :: x10 :: x11 :: x12 :: x13 :: x14 :: x15 :: x16 :: x17 :: x18 :: .ow d :: sl, st⟩ := rfl
theorem l_lnfz19 {x0 x1 x2 x3 x4 x5 x6 x7 x8 x9 x10 x11 x12 x13 x14 x15 x16 x17 x18 : Sl} {L : D → Prop} : wL ⟨x0 :: x1 :: x2 :: x3 :: x4 :: x5 :: x6 :: x7 :: x8 :: x9 :: x10 :: x11 :: x12 :: x13 :: x14 :: x15 :: x16 :: x17 :: x18 :: .fz d :: sl, st⟩ (.ln 19) L = L d := rfl
theorem v_fz19 {x0 x1 x2 x3 x4 x5 x6 x7 x8 x9 x10 x11 x12 x13 x14 x15 x16 x17 x18 : Sl}  : wR (gVar 19 ⟨x0 :: x1 :: x2 :: x3 :: x4 :: x5 :: x6 :: x7 :: x8 :: x9 :: x10 :: x11 :: x12 :: x13 :: x14 :: x15 :: x16 :: x17 :: x18 :: .fz d :: sl, st⟩) K E = K (.fz d) ⟨x0 :: x1 :: x2 :: x3 :: x4 :: x5 :: x6 :: x7 :: x8 :: x9 :: x10 :: x11 :: x12 :: x13 :: x14 :: x15 :: x16 :: x17 :: x18 :: .fz d :: sl, st⟩ := rfl
theorem st_lnfz19 {x0 x1 x2 x3 x4 x5 x6 x7 x8 x9 x10 x11 x12 x13 x14 x15 x16 x17 x18 : Sl} {L : D → S → Prop} : wSt (.ln 19) ⟨x0 :: x1 :: x2 :: x3 :: x4 :: x5 :: x6 :: x7 :: x8 :: x9 :: x10 :: x11 :: x12 :: x13 :: x14 :: x15 :: x16 :: x17 :: x18 :: .fz d :: sl, st⟩ L = L d ⟨x0 :: x1 :: x2 :: x3 :: x4 :: x5 :: x6 :: x7 :: x8 :: x9 :: x10 :: x11 :: x12 :: x13 :: x14 :: x15 :: x16 :: x17 :: x18 :: .fz d :: sl, st⟩ := rfl
theorem rt_lnfz19 {x0 x1 x2 x3 x4 x5 x6 x7 x8 x9 x10 x11 x12 x13 x14 x15 x16 x17 x18 : Sl}  : wRet (.ln 19) ⟨x0 :: x1 :: x2 :: x3 :: x4 :: x5 :: x6 :: x7 :: x8 :: x9 :: x10 :: x11 :: x12 :: x13 :: x14 :: x15 :: x16 :: x17 :: x18 :: .fz d :: sl, st⟩ TT = TT (.fz d) ⟨x0 :: x1 :: x2 :: x3 :: x4 :: x5 :: x6 :: x7 :: x8 :: x9 :: x10 :: x11 :: x12 :: x13 :: x14 :: x15 :: x16 :: x17 :: x18 :: .fz d :: sl, st⟩ := rfl
theorem so_fz19 {x0 x1 x2 x3 x4 x5 x6 x7 x8 x9 x10 x11 x12 x13 x14 x15 x16 x17 x18 : Sl} {y : Sl} : wSto 19 (.fz d) ⟨x0 :: x1 :: x2 :: x3 :: x4 :: x5 :: x6 :: x7 :: x8 :: x9 :: x10 :: x11 :: x12 :: x13 :: x14 :: x15 :: x16 :: x17 :: x18 :: y :: sl, st⟩ N = N ⟨x0 :: x1 :: x2 :: x3 :: x4 :: x5 :: x6 :: x7 :: x8 :: x9 :: x10 :: x11 :: x12 :: x13 :: x14 :: x15 :: x16 :: x17 :: x18 :: .fz d :: sl, st⟩ := rfl
theorem so_ow19 {x0 x1 x2 x3 x4 x5 x6 x7 x8 x9 x10 x11 x12 x13 x14 x15 x16 x17 x18 : Sl} {y : Sl} : wSto 19 (.ow d) ⟨x0 :: x1 :: x2 :: x3 :: x4 :: x5 :: x6 :: x7 :: x8 :: x9 :: x10 :: x11 :: x12 :: x13 :: x14 :: x15 :: x16 :: x17 :: x18 :: y :: sl, st⟩ N = N ⟨x0 :: x1 :: x2 :: x3 :: x4 :: x5 :: x6 :: x7 :: x8 :: x9 :: x10 :: x11 :: x12 :: x13 :: x14 :: x15 :: x16 :: x17 :: x18 :: .ow d :: sl, st⟩ := rfl
theorem s1_19 {x0 x1 x2 x3 x4 x5 x6 x7 x8 x9 x10 x11 x12 x13 x14 x15 x16 x17 x18 : Sl} {y z : Sl} : wS1 19 z ⟨x0 :: x1 :: x2 :: x3 :: x4 :: x5 :: x6 :: x7 :: x8 :: x9 :: x10 :: x11 :: x12 :: x13 :: x14 :: x15 :: x16 :: x17 :: x18 :: y :: sl, st⟩ N = N ⟨x0 :: x1 :: x2 :: x3 :: x4 :: x5 :: x6 :: x7 :: x8 :: x9 :: x10 :: x11 :: x12 :: x13 :: x14 :: x15 :: x16 :: x17 :: x18 :: z :: sl, st⟩ := rfl
theorem ch_ow19 {x0 x1 x2 x3 x4 x5 x6 x7 x8 x9 x10 x11 x12 x13 x14 x15 x16 x17 x18 : Sl} {f : D → Option D} : wCh f (.ln 19) ⟨x0 :: x1 :: x2 :: x3 :: x4 :: x5 :: x6 :: x7 :: x8 :: x9 :: x10 :: x11 :: x12 :: x13 :: x14 :: x15 :: x16 :: x17 :: x18 :: .ow d :: sl, st⟩ N = wOp (f d) fun d1 => N ⟨x0 :: x1 :: x2 :: x3 :: x4 :: x5 :: x6 :: x7 :: x8 :: x9 :: x10 :: x11 :: x12 :: x13 :: x14 :: x15 :: x16 :: x17 :: x18 :: .ow d1 :: sl, st⟩ := by show (match (match f d with | some d1 => some _ | none => none) with | some s1 => N s1 | none => False) = (match f d with | some d1 => N _ | none => False); cases f d <;> rfl
theorem l_lnow20 {x0 x1 x2 x3 x4 x5 x6 x7 x8 x9 x10 x11 x12 x13 x14 x15 x16 x17 x18 x19 : Sl} {L : D → Prop} : wL ⟨x0 :: x1 :: x2 :: x3 :: x4 :: x5 :: x6 :: x7 :: x8 :: x9 :: x10 :: x11 :: x12 :: x13 :: x14 :: x15 :: x16 :: x17 :: x18 :: x19 :: .ow d :: sl, st⟩ (.ln 20) L = L d := rfl
theorem v_ow20 {x0 x1 x2 x3 x4 x5 x6 x7 x8 x9 x10 x11 x12 x13 x14 x15 x16 x17 x18 x19 : Sl}  : wR (gVar 20 ⟨x0 :: x1 :: x2 :: x3 :: x4 :: x5 :: x6 :: x7 :: x8 :: x9 :: x10 :: x11 :: x12 :: x13 :: x14 :: x15 :: x16 :: x17 :: x18 :: x19 :: .ow d :: sl, st⟩) K E = K (.ln 20) ⟨x0 :: x1 :: x2 :: x3 :: x4 :: x5 :: x6 :: x7 :: x8 :: x9 :: x10 :: x11 :: x12 :: x13 :: x14 :: x15 :: x16 :: x17 :: x18 :: x19 :: .ow d :: sl, st⟩ := rfl
theorem st_lnow20 {x0 x1 x2 x3 x4 x5 x6 x7 x8 x9 x10 x11 x12 x13 x14 x15 x16 x17 x18 x19 : Sl} {L : D → S → Prop} : wSt (.ln 20) ⟨x0 :: x1 :: x2 :: x3 :: x4 :: x5 :: x6 :: x7 :: x8 :: x9 :: x10 :: x11 :: x12 :: x13 :: x14 :: x15 :: x16 :: x17 :: x18 :: x19 :: .ow d :: sl, st⟩ L = L d ⟨x0 :: x1 :: x2 :: x3 :: x4 :: x5 :: x6 :: x7 :: x8 :: x9 :: x10 :: x11 :: x12 :: x13 :: x14 :: x15 :: x16 :: x17 :: x18 :: x19 :: .fz d :: sl, st⟩ := rfl
theorem rt_lnow20 {x0 x1 x2 x3 x4 x5 x6 x7 x8 x9 x10 x11 x12 x13 x14 x15 x16 x17 x18 x19 : Sl}  : wRet (.ln 20) ⟨x0 :: x1 :: x2 :: x3 :: x4 :: x5 :: x6 :: x7 :: x8 :: x9 :: x10 :: x11 :: x12 :: x13 :: x14 :: x15 :: x16 :: x17 :: x18 :: x19 :: .ow d :: sl, st⟩ TT = TT (.ow d) ⟨x0 :: x1 :: x2 :: x3 :: x4 :: x5 :: x6 :: x7 :: x8 :: x9 :: x10 :: x11 :: x12 :: x13 :: x14 :: x15 :: x16 :: x17 :: x18 :: x19 :: .ow d :: sl, st⟩ := rfl
theorem l_lnfz20 {x0 x1 x2 x3 x4 x5 x6 x7 x8 x9 x10 x11 x12 x13 x14 x15 x16 x17 x18 x19 : Sl} {L : D → Prop} : wL ⟨x0 :: x1 :: x2 :: x3 :: x4 :: x5 :: x6 :: x7 :: x8 :: x9 :: x10 :: x11 :: x12 :: x13 :: x14 :: x15 :: x16 :: x17 :: x18 :: x19 :: .fz d :: sl, st⟩ (.ln 20) L = L d := rfl
theorem v_fz20 {x0 x1 x2 x3 x4 x5 x6 x7 x8 x9 x10 x11 x12 x13 x14 x15 x16 x17 x18 x19 : Sl}  : wR (gVar 20 ⟨x0 :: x1 :: x2 :: x3 :: x4 :: x5 :: x6 :: x7 :: x8 :: x9 :: x10 :: x11 :: x12 :: x13 :: x14 :: x15 :: x16 :: x17 :: x18 :: x19 :: .fz d :: sl, st⟩) K E = K (.fz d) ⟨x0 :: x1 :: x2 :: x3 :: x4 :: x5 :: x6 :: x7 :: x8 :: x9 :: x10 :: x11 :: x12 :: x13 :: x14 :: x15 :: x16 :: x17 :: x18 :: x19 :: .fz d :: sl, st⟩ := rfl
theorem st_lnfz20 {x0 x1 x2 x3 x4 x5 x6 x7 x8 x9 x10 x11 x12 x13 x14 x15 x16 x17 x18 x19 : Sl} {L : D → S → Prop} : wSt (.ln 20) ⟨x0 :: x1 :: x2 :: x3 :: x4 :: x5 :: x6 :: x7 :: x8 :: x9 :: x10 :: x11 :: x12 :: x13 :: x14 :: x15 :: x16 :: x17 :: x18 :: x19 :: .fz d :: sl, st⟩ L = L d ⟨x0 :: x1 :: x2 :: x3 :: x4 :: x5 :: x6 :: x7 :: x8 :: x9 :: x10 :: x11 :: x12 :: x13 :: x14 :: x15 :: x16 :: x17 :: x18 :: x19 :: .fz d :: sl, st⟩ := rfl
theorem rt_lnfz20 {x0 x1 x2 x3 x4 x5 x6 x7 x8 x9 x10 x11 x12 x13 x14 x15 x16 x17 x18 x19 : Sl}  : wRet (.ln 20) ⟨x0 :: x1 :: x2 :: x3 :: x4 :: x5 :: x6 :: x7 :: x8 :: x9 :: x10 :: x11 :: x12 :: x13 :: x14 :: x15 :: x16 :: x17 :: x18 :: x19 :: .fz d :: sl, st⟩ TT = TT (.fz d) ⟨x0 :: x1 :: x2 :: x3 :: x4 :: x5 :: x6 :: x7 :: x8 :: x9 :: x10 :: x11 :: x12 :: x13 :: x14 :: x15 :: x16 :: x17 :: x18 :: x19 :: .fz d :: sl, st⟩ := rfl
theorem so_fz20 {x0 x1 x2 x3 x4 x5 x6 x7 x8 x9 x10 x11 x12 x13 x14 x15 x16 x17 x18 x19 : Sl} {y : Sl} : wSto 20 (.fz d) ⟨x0 :: x1 :: x2 :: x3 :: x4 :: x5 :: x6 :: x7 :: x8 :: x9 :: x10 :: x11 :: x12 :: x13 :: x14 :: x15 :: x16 :: x17 :: x18 :: x19 :: y :: sl, st⟩ N = N ⟨x0 :: x1 :: x2 :: x3 :: x4 :: x5 :: x6 :: x7 :: x8 :: x9 :: x10 :: x11 :: x12 :: x13 :: x14 :: x15 :: x16 :: x17 :: x18 :: x19 :: .fz d :: sl, st⟩ := rfl
theorem so_ow20 {x0 x1 x2 x3 x4 x5 x6 x7 x8 x9 x10 x11 x12 x13 x14 x15 x16 x17 x18 x19 : Sl} {y : Sl} : wSto 20 (.ow d) ⟨x0 :: x1 :: x2 :: x3 :: x4 :: x5 :: x6 :: x7 :: x8 :: x9 :: x10 :: x11 :: x12 :: x13 :: x14 :: x15 :: x16 :: x17 :: x18 :: x19 :: y :: sl, st⟩ N = N ⟨x0 :: x1 :: x2 :: x3 :: x4 :: x5 :: x6 :: x7 :: x8 :: x9 :: x10 :: x11 :: x12 :: x13 :: x14 :: x15 :: x16 :: x17 :: x18 :: x19 :: .ow d :: sl, st⟩ := rfl
theorem s1_20 {x0 x1 x2 x3 x4 x5 x6 x7 x8 x9 x10 x11 x12 x13 x14 x15 x16 x17 x18 x19 : Sl} {y z : Sl} : wS1 20 z ⟨x0 :: x1 :: x2 :: x3 :: x4 :: x5 :: x6 :: x7 :: x8 :: x9 :: x10 :: x11 :: x12 :: x13 :: x14 :: x15 :: x16 :: x17 :: x18 :: x19 :: y :: sl, st⟩ N = N ⟨x0 :: x1 :: x2 :: x3 :: x4 :: x5 :: x6 :: x7 :: x8 :: x9 :: x10 :: x11 :: x12 :: x13 :: x14 :: x15 :: x16 :: x17 :: x18 :: x19 :: z :: sl, st⟩ := rfl
theorem ch_ow20 {x0 x1 x2 x3 x4 x5 x6 x7 x8 x9 x10 x11 x12 x13 x14 x15 x16 x17 x18 x19 : Sl} {f : D → Option D} : wCh f (.ln 20) ⟨x0 :: x1 :: x2 :: x3 :: x4 :: x5 :: x6 :: x7 :: x8 :: x9 :: x10 :: x11 :: x12 :: x13 :: x14 :: x15 :: x16 :: x17 :: x18 :: x19 :: .ow d :: sl, st⟩ N = wOp (f d) fun d1 => N ⟨x0 :: x1 :: x2 :: x3 :: x4 :: x5 :: x6 :: x7 :: x8 :: x9 :: x10 :: x11 :: x12 :: x13 :: x14 :: x15 :: x16 :: x17 :: x18 :: x19 :: .ow d1 :: sl, st⟩ := by show (match (match f d with | some d1 => some _ | none => none) with | some s1 => N s1 | none => False) = (match f d with | some d1 => N _ | none => False); cases f d <;> rfl
theorem l_lnow21 {x0 x1 x2 x3 x4 x5 x6 x7 x8 x9 x10 x11 x12 x13 x14 x15 x16 x17 x18 x19 x20 : Sl} {L : D → Prop} : wL ⟨x0 :: x1 :: x2 :: x3 :: x4 :: x5 :: x6 :: x7 :: x8 :: x9 :: x10 :: x11 :: x12 :: x13 :: x14 :: x15 :: x16 :: x17 :: x18 :: x19 :: x20 :: .ow d :: sl, st⟩ (.ln 21) L = L d := rfl
theorem v_ow21 {x0 x1 x2 x3 x4 x5 x6 x7 x8 x9 x10 x11 x12 x13 x14 x15 x16 x17 x18 x19 x20 : Sl}  : wR (gVar 21 ⟨x0 :: x1 :: x2 :: x3 :: x4 :: x5 :: x6 :: x7 :: x8 :: x9 :: x10 :: x11 :: x12 :: x13 :: x14 :: x15 :: x16 :: x17 :: x18 :: x19 :: x20 :: .ow d :: sl, st⟩) K E = K (.ln 21) ⟨x0 :: x1 :: x2 :: x3 :: x4 :: x5 :: x6 :: x7 :: x8 :: x9 :: x10 :: x11 :: x12 :: x13 :: x14 :: x15 :: x16 :: x17 :: x18 :: x19 :: x20 :: .ow d :: sl, st⟩ := rfl
theorem st_lnow21 {x0 x1 x2 x3 x4 x5 x6 x7 x8 x9 x10 x11 x12 x13 x14 x15 x16 x17 x18 x19 x20 : Sl} {L : D → S → Prop} : wSt (.ln 21) ⟨x0 :: x1 :: x2 :: x3 :: x4 :: x5 :: x6 :: x7 :: x8 :: x9 :: x10 :: x11 :: x12 :: x13 :: x14 :: x15 :: x16 :: x17 :: x18 :: x19 :: x20 :: .ow d :: sl, st⟩ L = L d ⟨x0 :: x1 :: x2 :: x3 :: x4 :: x5 :: x6 :: x7 :: x8 :: x9 :: x10 :: x11 :: x12 :: x13 :: x14 :: x15 :: x16 :: x17 :: x18 :: x19 :: x20 :: .fz d :: sl, st⟩ := rfl
theorem rt_lnow21 {x0 x1 x2 x3 x4 x5 x6 x7 x8 x9 x10 x11 x12 x13 x14 x15 x16 x17 x18 x19 x20 : Sl}  : wRet (.ln 21) ⟨x0 :: x1 :: x2 :: x3 :: x4 :: x5 :: x6 :: x7 :: x8 :: x9 :: x10 :: x11 :: x12 :: x13 :: x14 :: x15 :: x16 :: x17 :: x18 :: x19 :: x20 :: .ow d :: sl, st⟩ TT = TT (.ow d) ⟨x0 :: x1 :: x2 :: x3 :: x4 :: x5 :: x6 :: x7 :: x8 :: x9 :: x10 :: x11 :: x12 :: x13 :: x14 :: x15 :: x16 :: x17 :: x18 :: x19 :: x20 :: .ow d :: sl, st⟩ := rfl
theorem l_lnfz21 {x0 x1 x2 x3 x4 x5 x6 x7 x8 x9 x10 x11 x12 x13 x14 x15 x16 x17 x18 x19 x20 : Sl} {L : D → Prop} : wL ⟨x0 :: x1 :: x2 :: x3 :: x4 :: x5 :: x6 :: x7 :: x8 :: x9 :: x10 :: x11 :: x12 :: x13 :: x14 :: x15 :: x16 :: x17 :: x18 :: x19 :: x20 :: .fz d :: sl, st⟩ (.ln 21) L = L d := rfl
theorem v_fz21 {x0 x1 x2 x3 x4 x5 x6 x7 x8 x9 x10 x11 x12 x13 x14 x15 x16 x17 x18 x19 x20 : Sl}  : wR (gVar 21 ⟨x0 :: x1 :: x2 :: x3 :: x4 :: x5 :: x6 :: x7 :: x8 :: x9 :: x10 :: x11 :: x12 :: x13 :: x14 :: x15 :: x16 :: x17 :: x18 :: x19 :: x20 :: .fz d :: sl, st⟩) K E = K (.fz d) ⟨x0 :: x1 :: x2 :: x3 :: x4 :: x5 :: x6 :: x7 :: x8 :: x9 :: x10 :: x11 :: x12 :: x13 :: x14 :: x15 :: x16 :: x17 :: x18 :: x19 :: x20 :: .fz d :: sl, st⟩ := rfl
theorem st_lnfz21 {x0 x1 x2 x3 x4 x5 x6 x7 x8 x9 x10 x11 x12 x13 x14 x15 x16 x17 x18 x19 x20 : Sl} {L : D → S → Prop} : wSt (.ln 21) ⟨x0 :: x1 :: x2 :: x3 :: x4 :: x5 :: x6 :: x7 :: x8 :: x9 :: x10 :: x11 :: x12 :: x13 :: x14 :: x15 :: x16 :: x17 :: x18 :: x19 :: x20 :: .fz d :: sl, st⟩ L = L d ⟨x0 :: x1 :: x2 :: x3 :: x4 :: x5 :: x6 :: x7 :: x8 :: x9 :: x10 :: x11 :: x12 :: x13 :: x14 :: x15 :: x16 :: x17 :: x18 :: x19 :: x20 :: .fz d :: sl, st⟩ := rfl
theorem rt_lnfz21 {x0 x1 x2 x3 x4 x5 x6 x7 x8 x9 x10 x11 x12 x13 x14 x15 x16 x17 x18 x19 x20 : Sl}  : wRet (.ln 21) ⟨x0 :: x1 :: x2 :: x3 :: x4 :: x5 :: x6 :: x7 :: x8 :: x9 :: x10 :: x11 :: x12 :: x13 :: x14 :: x15 :: x16 :: x17 :: x18 :: x19 :: x20 :: .fz d :: sl, st⟩ TT = TT (.fz d) ⟨x0 :: x1 :: x2 :: x3 :: x4 :: x5 :: x6 :: x7 :: x8 :: x9 :: x10 :: x11 :: x12 :: x13 :: x14 :: x15 :: x16 :: x17 :: x18 :: x19 :: x20 :: .fz d :: sl, st⟩ := rfl
theorem so_fz21 {x0 x1 x2 x3 x4 x5 x6 x7 x8 x9 x10 x11 x12 x13 x14 x15 x16 x17 x18 x19 x20 : Sl} {y : Sl} : wSto 21 (.fz d) ⟨x0 :: x1 :: x2 :: x3 :: x4 :: x5 :: x6 :: x7 :: x8 :: x9 :: x10 :: x11 :: x12 :: x13 :: x14 :: x15 :: x16 :: x17 :: x18 :: x19 :: x20 :: y :: sl, st⟩ N = N ⟨x0 :: x1 :: x2 :: x3 :: x4 :: x5 :: x6 :: x7 :: x8 :: x9 :: x10 :: x11 :: x12 :: x13 :: x14 :: x15 :: x16 :: x17 :: x18 :: x19 :: x20 :: .fz d :: sl, st⟩ := rfl
theorem so_ow21 {x0 x1 x2 x3 x4 x5 x6 x7 x8 x9 x10 x11 x12 x13 x14 x15 x16 x17 x18 x19 x20 : Sl} {y : Sl} : wSto 21 (.ow d) ⟨x0 :: x1 :: x2 :: x3 :: x4 :: x5 :: x6 :: x7 :: x8 :: x9 :: x10 :: x11 :: x12 :: x13 :: x14 :: x15 :: x16 :: x17 :: x18 :: x19 :: x20 :: y :: sl, st⟩ N = N ⟨x0 :: x1 :: x2 :: x3 :: x4 :: x5 :: x6 :: x7 :: x8 :: x9 :: x10 :: x11 :: x12 :: x13 :: x14 :: x15 :: x16 :: x17 :: x18 :: x19 :: x20 :: .ow d :: sl, st⟩ := rfl
theorem s1_21 {x0 x1 x2 x3 x4 x5 x6 x7 x8 x9 x10 x11 x12 x13 x14 x15 x16 x17 x18 x19 x20 : Sl} {y z : Sl} : wS1 21 z ⟨x0 :: x1 :: x2 :: x3 :: x4 :: x5 :: x6 :: x7 :: x8 :: x9 :: x10 :: x11 :: x12 :: x13 :: x14 :: x15 :: x16 :: x17 :: x18 :: x19 :: x20 :: y :: sl, st⟩ N = N ⟨x0 :: x1 :: x2 :: x3 :: x4 :: x5 :: x6 :: x7 :: x8 :: x9 :: x10 :: x11 :: x12 :: x13 :: x14 :: x15 :: x16 :: x17 :: x18 :: x19 :: x20 :: z :: sl, st⟩ := rfl
theorem ch_ow21 {x0 x1 x2 x3 x4 x5 x6 x7 x8 x9 x10 x11 x12 x13 x14 x15 x16 x17 x18 x19 x20 : Sl} {f : D → Option D} : wCh f (.ln 21) ⟨x0 :: x1 :: x2 :: x3 :: x4 :: x5 :: x6 :: x7 :: x8 :: x9 :: x10 :: x11 :: x12 :: x13 :: x14 :: x15 :: x16 :: x17 :: x18 :: x19 :: x20 :: .ow d :: sl, st⟩ N = wOp (f d) fun d1 => N ⟨x0 :: x1 :: x2 :: x3 :: x4 :: x5 :: x6 :: x7 :: x8 :: x9 :: x10 :: x11 :: x12 :: x13 :: x14 :: x15 :: x16 :: x17 :: x18 :: x19 :: x20 :: .ow d1 :: sl, st⟩ := by show (match (match f d with | some d1 => some _ | none => none) with | some s1 => N s1 | none => False) = (match f d with | some d1 => N _ | none => False); cases f d <;> rfl
theorem so_ln {i j : Nat} : wSto i (.ln j) s N = wSt (.ln j) s fun d s1 => wSto i (.fz d) s1 N := by show (match (match Fw.settle (.ln j) s with | some (d, s1) => some _ | none => none) with | some s1 => N s1 | none => False) = (match Fw.settle (.ln j) s with | some (d, s1) => _ | none => False); cases Fw.settle (.ln j) s <;> rfl
theorem wop_some {L : D → Prop} : wOp (some d) L = L d := rfl
theorem st_fz {L : D → S → Prop} : wSt (.fz d) s L = L d s := rfl
theorem rt_fz : wRet (.fz d) s TT = TT (.fz d) s := rfl
theorem rt_ow : wRet (.ow d) s TT = TT (.ow d) s := rfl
theorem k_fz {L : RV → Prop} : wK (.fz d) L = L (.fz d) := rfl
theorem k_ow {L : RV → Prop} : wK (.ow d) L = L (.fz d) := rfl
theorem k_ln {L : RV → Prop} {i : Nat} : wK (.ln i) L = L (.ln i) := rfl
theorem ls0 {L : List D → Prop} : wLs s [] L = L [] := rfl
theorem ls1 {L : List D → Prop} {rs : List RV} : wLs s (r :: rs) L = wL s r fun d => wLs s rs fun ds => L (d :: ds) := rfl
theorem sa0 {L : List D → S → Prop} : wSA [] s L = L [] s := rfl
theorem sa1 {L : List D → S → Prop} {rs : List RV} : wSA (r :: rs) s L = wSt r s fun d s1 => wSA rs s1 fun ds s2 => L (d :: ds) s2 := rfl
theorem wLs_eq : ∀ {rs : List RV} {L : List D → Prop}, wLs s rs L = (match looks s rs with | some ds => L ds | none => False)
  | [], L => rfl
  | r :: rs, L => by
    unfold wLs wLs0 looks wL
    cases look s r with
    | none => rfl
    | some d =>
      show wLs s rs (fun ds => L (d :: ds)) = _
      rw [wLs_eq]
      cases looks s rs <;> rfl
theorem wSA_eq : ∀ {rs : List RV} {s : S} {L : List D → S → Prop}, wSA rs s L = (match settleAll rs s with | some (ds, s1) => L ds s1 | none => False)
  | [], s, L => rfl
  | r :: rs, s, L => by
    unfold wSA wSA0 settleAll wSt
    cases Fw.settle r s with
    | none => rfl
    | some z =>
      obtain ⟨d, s1⟩ := z
      show wSA rs s1 (fun ds s2 => L (d :: ds) s2) = _
      rw [wSA_eq]
      dsimp only
      cases settleAll rs s1 <;> rfl
theorem lift1_eq {f : D → Out} : wR (lift1 f r s) K E = wL s r fun a => wO (f a) s K := by
  unfold lift1 wL wO
  cases look s r with
  | none => rfl
  | some a => dsimp only; cases f a <;> rfl
theorem lift2_eq {f : D → D → Out} {ra rb : RV} : wR (lift2 f ra rb s) K E = wL s ra fun a => wL s rb fun c => wO (f a c) s K := by
  unfold lift2 wL wO
  cases look s ra with
  | none => rfl
  | some a =>
    cases look s rb with
    | none => rfl
    | some c => dsimp only; cases f a c <;> rfl
theorem liftN_eq {f : List D → Out} {rs : List RV} : wR (liftN f rs s) K E = wLs s rs fun ds => wO (f ds) s K := by
  rw [wLs_eq]
  unfold liftN wO
  cases looks s rs with
  | none => rfl
  | some a => dsimp only; cases f a <;> rfl
theorem emit_eq {o : Out} : wR (emit o s) K E = wO o s K := by cases o <;> rfl
theorem g_lit : wR (gLit d s) K E = K (.fz d) s := rfl
theorem g_bin {f : RV → RV → S → R RV} : wR (gBin f ga gb s) K E = wR (ga s) (fun ra s1 => wR (gb s1) (fun rb s2 => wK ra fun rc => wR (f rc rb s2) K E) E) E := by unfold gBin; rw [bindR]; refine wR_cg fun ra s1 => ?_; rw [bindR]; rfl
theorem g_un {f : D → Out} : wR (gUn f ga s) K E = wR (ga s) (fun r s1 => wL s1 r fun a => wO (f a) s1 K) E := by unfold gUn; rw [bindR]; refine wR_cg fun r s1 => ?_; rw [lift1_eq]
theorem g_not : wR (gNot ga s) K E = wR (ga s) (fun r s1 => wL s1 r fun a => wO (notD a) s1 K) E := g_un
theorem g_and : wR (gAnd ga gb s) K E = wR (ga s) (fun r s1 => wL s1 r fun d => wTr d fun x => cnd x (wR (gb s1) K E) (K r s1)) E := by unfold gAnd; rw [bindR]; refine wR_cg fun r s1 => ?_; dsimp only [wL, wTr]; cases look s1 r with
  | none => rfl
  | some d => dsimp only [Option.bind]; cases truD d with
    | none => rfl
    | some b => cases b <;> rfl
theorem g_or : wR (gOr ga gb s) K E = wR (ga s) (fun r s1 => wL s1 r fun d => wTr d fun x => cnd x (K r s1) (wR (gb s1) K E)) E := by unfold gOr; rw [bindR]; refine wR_cg fun r s1 => ?_; dsimp only [wL, wTr]; cases look s1 r with
  | none => rfl
  | some d => dsimp only [Option.bind]; cases truD d with
    | none => rfl
    | some b => cases b <;> rfl
theorem g_if : wR (gIf gc ga gb s) K E = wT gc s (fun x s1 => cnd x (wR (ga s1) K E) (wR (gb s1) K E)) E := by unfold gIf; rw [bindR]; unfold wT; refine wR_cg fun x s1 => ?_; cases x <;> rfl
theorem toT_eq {L : Bool → S → Prop} : wT ga s L E = wR (ga s) (fun r s1 => wL s1 r fun d => wTr d fun x => L x s1) E := by unfold wT toT; rw [bindR]; refine wR_cg fun r s1 => ?_; dsimp only [wL, wTr]; cases look s1 r with
  | none => rfl
  | some d => dsimp only [Option.bind]; cases truD d <;> rfl
theorem g_toT {L : Bool → S → Prop} : wR (toT ga s) L E = wT ga s L E := rfl
theorem wL_none {L : D → Prop} (h : look s r = none) : wL s r L = False := by unfold wL; rw [h]
theorem wL_some {L : D → Prop} (h : look s r = some d) : wL s r L = L d := by unfold wL; rw [h]
theorem wTr_none {L : Bool → Prop} (h : truD d = none) : wTr d L = False := by unfold wTr; rw [h]
theorem wTr_some {x : Bool} {L : Bool → Prop} (h : truD d = some x) : wTr d L = L x := by unfold wTr; rw [h]
theorem wt_or {L : Bool → S → Prop} : wT (gOr ga gb) s L E = wT ga s (fun x s1 => cnd x (L true s1) (wT gb s1 L E)) E := by
  rw [toT_eq, toT_eq, g_or]; refine wR_cg fun r s1 => ?_
  cases h : look s1 r with
  | none => exact (wL_none h).trans (wL_none h).symm
  | some d =>
    refine (wL_some h).trans (Eq.trans ?_ (wL_some h).symm)
    cases k : truD d with
    | none => exact (wTr_none k).trans (wTr_none k).symm
    | some x =>
      refine (wTr_some k).trans (Eq.trans ?_ (wTr_some k).symm)
      cases x with
      | false => exact (toT_eq).symm
      | true => exact (wL_some h).trans (wTr_some k)
theorem wt_and {L : Bool → S → Prop} : wT (gAnd ga gb) s L E = wT ga s (fun x s1 => cnd x (wT gb s1 L E) (L false s1)) E := by
  rw [toT_eq, toT_eq, g_and]; refine wR_cg fun r s1 => ?_
  cases h : look s1 r with
  | none => exact (wL_none h).trans (wL_none h).symm
  | some d =>
    refine (wL_some h).trans (Eq.trans ?_ (wL_some h).symm)
    cases k : truD d with
    | none => exact (wTr_none k).trans (wTr_none k).symm
    | some x =>
      refine (wTr_some k).trans (Eq.trans ?_ (wTr_some k).symm)
      cases x with
      | true => exact (toT_eq).symm
      | false => exact (wL_some h).trans (wTr_some k)
theorem wt_not {L : Bool → S → Prop} : wT (gNot ga) s L E = wR ((gNot ga) s) (fun r s1 => wL s1 r fun d => wTr d fun x => L x s1) E := toT_eq
theorem wt_bin {f : RV → RV → S → R RV}{L : Bool → S → Prop} : wT (gBin f ga gb) s L E = wR ((gBin f ga gb) s) (fun r s1 => wL s1 r fun d => wTr d fun x => L x s1) E := toT_eq
theorem wt_un {u : D → Out}{L : Bool → S → Prop} : wT (gUn u ga) s L E = wR ((gUn u ga) s) (fun r s1 => wL s1 r fun d => wTr d fun x => L x s1) E := toT_eq
theorem wt_cb {v : List D → Out}{L : Bool → S → Prop} : wT (gCB v gs) s L E = wR ((gCB v gs) s) (fun r s1 => wL s1 r fun d => wTr d fun x => L x s1) E := toT_eq
theorem wt_var {i : Nat}{L : Bool → S → Prop} : wT (gVar i) s L E = wR ((gVar i) s) (fun r s1 => wL s1 r fun d => wTr d fun x => L x s1) E := toT_eq
theorem wt_call {fn : Fn}{L : Bool → S → Prop} : wT (gCall fn gs) s L E = wR ((gCall fn gs) s) (fun r s1 => wL s1 r fun d => wTr d fun x => L x s1) E := toT_eq
theorem wt_lit {L : Bool → S → Prop} : wT (gLit d) s L E = wR ((gLit d) s) (fun r s1 => wL s1 r fun d => wTr d fun x => L x s1) E := toT_eq
theorem wt_meth {m : String} {w : D → List D → Out}{L : Bool → S → Prop} : wT (gMeth m w ga gs) s L E = wR ((gMeth m w ga gs) s) (fun r s1 => wL s1 r fun d => wTr d fun x => L x s1) E := toT_eq
theorem wt_chain {y z : D → D → Out}{L : Bool → S → Prop} : wT (gChain y z ga gb gc) s L E = wR ((gChain y z ga gb gc) s) (fun r s1 => wL s1 r fun d => wTr d fun x => L x s1) E := toT_eq
theorem wt_comp {vs : List Nat} {gi : IX} {p : GX} {gt : TX} {ge : EX}{L : Bool → S → Prop} : wT (gComp vs gi p gt ge) s L E = wR ((gComp vs gi p gt ge) s) (fun r s1 => wL s1 r fun d => wTr d fun x => L x s1) E := toT_eq
theorem wt_if {L : Bool → S → Prop} : wT (gIf gc ga gb) s L E = wT gc s (fun x s1 => cnd x (wT ga s1 L E) (wT gb s1 L E)) E := by rw [toT_eq, g_if]; unfold wT; refine wR_cg fun x s1 => ?_; cases x; exact toT_eq.symm; exact toT_eq.symm
theorem g_args0 {L : List RV → S → Prop} : wR (gArgs [] s) L E = L [] s := rfl
theorem g_args1 {L : List RV → S → Prop} : wR (gArgs (ga :: gs) s) L E = wR (ga s) (fun r s1 => wR (gArgs gs s1) (fun rs s2 => wK r fun r1 => L (r1 :: rs) s2) E) E := by show wR (R.bind _ _) L E = _; rw [bindR]; refine wR_cg fun r s1 => ?_; rw [bindR]; rfl
theorem g_with {k : List D → S → R RV} : wR (gWith gs k s) K E = wR (gArgs gs s) (fun rs s1 => wSA rs s1 fun ds s2 => wR (k ds s2) K E) E := by unfold gWith; rw [bindR]; refine wR_cg fun rs s1 => ?_; rw [wSA_eq]; cases settleAll rs s1 <;> rfl
def wCa (fn : Fn) (ds : List D) (s : S) (K : RV → S → Prop) (E : Ex → S → Prop) [Fx s] [Fx K] [Fx E] : Prop := wF (fn ds s.st) (fun r st => K r ⟨s.sl, st⟩) (fun x st => E x ⟨s.sl, st⟩)
theorem ca {fn : Fn} {ds : List D} : wCa fn ds ⟨sl, st⟩ K E = wF (fn ds st) (fun r st => K r ⟨sl, st⟩) (fun x st => E x ⟨sl, st⟩) := rfl
theorem g_call {fn : Fn} : wR (gCall fn gs s) K E = wR (gArgs gs s) (fun rs s1 => wSA rs s1 fun ds s2 => wCa fn ds s2 K E) E := by unfold wCa gCall; rw [g_with]; refine wR_cg fun rs s1 => ?_; refine wSA_cg fun ds s2 => ?_; unfold callK; cases fn ds s2.st with
  | ok r st => cases r <;> rfl
  | ex x st => rfl
  | bad => rfl
theorem tup_ok {ds : List D} (hl : ds.length ≤ 1000000) : wR (tupK ds s) K E = K (.fz (.tup ds)) s := by unfold tupK sz; rw [if_pos (decide_eq_true (by rw [sizeLine_eq]; omega))]; rfl
theorem lst_ok {ds : List D} (hl : ds.length ≤ 1000000) : wR (lstK ds s) K E = K (.ow (.lst ds)) s := by unfold lstK sz; rw [if_pos (decide_eq_true (by rw [sizeLine_eq]; omega))]; rfl
theorem g_cb {f : List D → Out} : wR (gCB f gs s) K E = wR (gArgs gs s) (fun rs s1 => wLs s1 rs fun ds => wO (f ds) s1 K) E := by unfold gCB; rw [bindR]; refine wR_cg fun rs s1 => ?_; rw [liftN_eq]
theorem g_meth {T : String} {f : D → List D → Out} : wR (gMeth T f ga gs s) K E = wR (ga s) (fun ro s1 => wL s1 ro fun d0 => wIs (isK T d0) (wR (gArgs gs s1) (fun rs s2 => wK ro fun r1 => wL s2 r1 fun d => wLs s2 rs fun ds => wO (f d ds) s2 K) E)) E := by
  unfold gMeth; rw [bindR]; refine wR_cg fun ro s1 => ?_
  have hw : wL s1 ro (fun d0 => wIs (isK T d0) (wR (gArgs gs s1) (fun rs s2 => wK ro fun r1 => wL s2 r1 fun d => wLs s2 rs fun ds => wO (f d ds) s2 K) E)) = (match look s1 ro with | some d0 => wIs (isK T d0) (wR (gArgs gs s1) (fun rs s2 => wK ro fun r1 => wL s2 r1 fun d => wLs s2 rs fun ds => wO (f d ds) s2 K) E) | none => False) := rfl
  rw [hw]
  cases look s1 ro with
  | none => rfl
  | some d0 =>
    dsimp only
    by_cases h : isK T d0 = true
    · rw [if_pos h, h, bindR]
      show _ = wR _ _ E
      refine wR_cg fun rs s2 => ?_
      dsimp only [wK, wL]
      cases look s2 ro.keep with
      | none => rfl
      | some d =>
        dsimp only
        rw [wLs_eq]
        cases looks s2 rs with
        | none => rfl
        | some ds => exact emit_eq
    · rw [if_neg h, Bool.eq_false_iff.mpr h]; rfl
theorem is_str {x : Str} : wIs (isK "str" (.str x)) p = p := rfl
theorem is_lst {x : List D} : wIs (isK "list" (.lst x)) p = p := rfl
theorem isl {x : List D} : wIs (isLst (.lst x)) p = p := rfl
theorem part0 {L : Option Int → S → Prop} : wR (gPart none s) L E = L none s := rfl
theorem part1 {L : Option Int → S → Prop} : wR (gPart (some ga) s) L E = wR (ga s) (fun r s1 => wL s1 r fun d => wInt d fun i => L (some i) s1) E := by show wR (R.bind _ _) L E = _; rw [bindR]; refine wR_cg fun r s1 => ?_; dsimp only [wL]; cases look s1 r with
  | none => rfl
  | some d => cases d <;> rfl
theorem wint {i : Int} {L : Int → Prop} : wInt (.int i) L = L i := rfl
theorem g_slice {gl gh : Option EX} : wR (gSlice ga gl gh s) K E = wR (ga s) (fun ra s1 => wR (gPart gl s1) (fun lo s2 => wR (gPart gh s2) (fun hi s3 => wK ra fun r1 => wL s3 r1 fun a => wO (slD a lo hi) s3 K) E) E) E := by unfold gSlice; rw [bindR]; refine wR_cg fun ra s1 => ?_; rw [bindR]; refine wR_cg fun lo s2 => ?_; rw [bindR]; refine wR_cg fun hi s3 => ?_; dsimp only [wK, wL]; cases look s3 ra.keep with
  | none => rfl
  | some a => exact emit_eq
theorem g_d01 : wR (gDisp [(gLit (.int 0), gLit (.int 1))] s) K E = K (.ow (.dic [(.int 0, .int 1)])) s := rfl
theorem g_rev : wR (gRev ga s) K E = wR (ga s) (fun r s1 => wL s1 r fun a => wO (revD a) s1 K) E := g_un
theorem g_dic0 : wR (gDic0 s) K E = K (.ow (.dic [])) s := rfl
theorem g_fmt : wR (gFmt ga s) K E = wR (ga s) (fun r s1 => wL s1 r fun a => wO (fmtD a) s1 K) E := by unfold gFmt; rw [bindR]; refine wR_cg fun r s1 => ?_; rw [lift1_eq]
theorem js0 {acc : Str} : wR (gJs [] acc s) K E = K (.fz (.str acc)) s := rfl
theorem sz_ok0 {n : Nat} (h : n ≤ 1000000) : sz n = true := by unfold sz; rw [decide_eq_true_eq, sizeLine_eq]; omega
def wSz (n : Nat) (p : Prop) [Fx p] : Prop := if sz n then p else False
theorem js1 {acc : Str} : wR (gJs (ga :: gs) acc s) K E = wR (ga s) (fun r s1 => wL s1 r fun d => wStr d fun y => wSz (acc ++ y).length (wR (gJs gs (acc ++ y) s1) K E)) E := by
  show wR (R.bind _ _) K E = _
  rw [bindR]; refine wR_cg fun r s1 => ?_; unfold wL
  cases look s1 r with
  | none => rfl
  | some d =>
    cases d with
    | str y =>
      dsimp only [wStr, wSz]
      by_cases h : sz (acc ++ y).length = true
      · rw [if_pos h, if_pos h]
      · rw [if_neg h, if_neg h]; rfl
    | _ => rfl
def wJ (l : List Nat) (d : D) (L : List Nat → Prop) [Fx L] : Prop := match d with
  | .str y => if sz (SX.S l ++ y).length then L (l ++ y.cps.toList) else False
  | _ => False
theorem js_e : wR (gJs (ga :: gs) PySem.Str.empty s) K E = wR (gJs (ga :: gs) (SX.S []) s) K E := rfl
theorem js_S {l : List Nat} : wR (gJs (ga :: gs) (SX.S l) s) K E = wR (ga s) (fun r s1 => wL s1 r fun d => wJ l d fun l1 => wR (gJs gs (SX.S l1) s1) K E) E := by
  rw [js1]; refine wR_cg fun r s1 => ?_; unfold wL
  cases look s1 r with
  | none => rfl
  | some d =>
    cases d with
    | str y =>
      dsimp only [wStr, wSz, wJ]
      have e : SX.S l ++ y = SX.S (l ++ y.cps.toList) := by rw [← SX.S_cat, SX.S_tl]
      rw [e]
    | _ => rfl
theorem wj {l y : List Nat} {L : List Nat → Prop} (h : l.length + y.length ≤ 1000000) : wJ l (.str (SX.S y)) L = L (l ++ y) := by
  unfold wJ; dsimp only; rw [SX.S_cat, SX.S_len, if_pos (by rw [List.length_append]; exact sz_ok0 h)]
theorem wstr {x : Str} {L : Str → Prop} : wStr (.str x) L = L x := rfl
theorem wsz {n : Nat} (h : n ≤ 1000000) : wSz n p = p := by unfold wSz sz; rw [if_pos (decide_eq_true (by rw [sizeLine_eq]; omega))]
def wChn (r : RV) (p q : Prop) [Fx p] [Fx q] : Prop := match r with
  | .fz (.bl true) => p
  | .fz (.bl false) => q
  | _ => False
theorem chn {x : Bool} : wChn (.fz (.bl x)) p q = cnd x p q := by cases x <;> rfl
theorem g_chain {f f1 : D → D → Out} : wR (gChain f f1 ga gb gc s) K E = wR (ga s) (fun ra s1 => wR (gb s1) (fun rb s2 => wK ra fun r1 => wK rb fun r2 => wR (lift2 f r1 r2 s2) (fun z s3 => wChn z (wR (gc s3) (fun rc s4 => wR (lift2 f1 r2 rc s4) K E) E) (K (.fz (.bl false)) s3)) E) E) E := by unfold gChain; rw [bindR]; refine wR_cg fun ra s1 => ?_; rw [bindR]; refine wR_cg fun rb s2 => ?_; rw [bindR]; unfold wK; refine wR_cg fun z s3 => ?_; cases z with
  | fz d => cases d with
    | bl b => cases b with
      | true => (show wR (R.bind _ _) K E = _); rw [bindR]; rfl
      | false => rfl
    | _ => rfl
  | _ => rfl
theorem g_app : wR (gApp ga gb s) K E = wR (ga s) (fun ro s1 => wL s1 ro fun d => wIs (isLst d) (wR (gb s1) (fun r s2 => wK r fun r1 => wSt r1 s2 fun x s3 => wCh (appD x) ro s3 fun s4 => K (.fz .non) s4) E)) E := by
  unfold gApp; rw [bindR]; refine wR_cg fun ro s1 => ?_
  have hw : wL s1 ro (fun d => wIs (isLst d) (wR (gb s1) (fun r s2 => wK r fun r1 => wSt r1 s2 fun x s3 => wCh (appD x) ro s3 fun s4 => K (.fz .non) s4) E)) = (match look s1 ro with | some d => wIs (isLst d) (wR (gb s1) (fun r s2 => wK r fun r1 => wSt r1 s2 fun x s3 => wCh (appD x) ro s3 fun s4 => K (.fz .non) s4) E) | none => False) := rfl
  rw [hw]
  cases look s1 ro with
  | none => rfl
  | some d =>
    dsimp only [Option.any]
    by_cases h : isLst d = true
    · rw [if_pos h, h, bindR]
      show _ = wR _ _ E
      refine wR_cg fun r s2 => ?_
      dsimp only [wK, wSt, wCh]
      cases Fw.settle r.keep s2 with
      | none => rfl
      | some z =>
        obtain ⟨x, s3⟩ := z
        dsimp only
        cases change (appD x) ro s3 <;> rfl
    · rw [if_neg h, Bool.eq_false_iff.mpr h]; rfl
def wLst (d : D) (L : List D → Prop) [Fx L] : Prop := match d with
  | .lst ds => L ds
  | _ => False
theorem wlst {x : List D} {L : List D → Prop} : wLst (.lst x) L = L x := rfl
theorem g_ext : wR (gExt ga gb s) K E = wR (ga s) (fun ro s1 => wL s1 ro fun d => wIs (isLst d) (wR (gb s1) (fun r s2 => wK r fun r1 => wSt r1 s2 fun x s3 => wLst x fun zs => wCh (extD zs) ro s3 fun s4 => K (.fz .non) s4) E)) E := by
  unfold gExt; rw [bindR]; refine wR_cg fun ro s1 => ?_
  have hw : wL s1 ro (fun d => wIs (isLst d) (wR (gb s1) (fun r s2 => wK r fun r1 => wSt r1 s2 fun x s3 => wLst x fun zs => wCh (extD zs) ro s3 fun s4 => K (.fz .non) s4) E)) = (match look s1 ro with | some d => wIs (isLst d) (wR (gb s1) (fun r s2 => wK r fun r1 => wSt r1 s2 fun x s3 => wLst x fun zs => wCh (extD zs) ro s3 fun s4 => K (.fz .non) s4) E) | none => False) := rfl
  rw [hw]
  cases look s1 ro with
  | none => rfl
  | some d =>
    dsimp only [Option.any]
    by_cases h : isLst d = true
    · rw [if_pos h, h, bindR]
      show _ = wR _ _ E
      refine wR_cg fun r s2 => ?_
      dsimp only [wK, wSt, wCh]
      cases Fw.settle r.keep s2 with
      | none => rfl
      | some z =>
        obtain ⟨x, s3⟩ := z
        cases x with
        | lst zs => dsimp only [wLst]; cases change (extD zs) ro s3 <;> rfl
        | _ => rfl
    · rw [if_neg h, Bool.eq_false_iff.mpr h]; rfl
theorem g_pop : wR (gPop ga s) K E = wR (ga s) (fun ro s1 => wL s1 ro fun d => wOp (lastD d) fun x => wCh popD ro s1 fun s2 => K (.fz x) s2) E := by
  unfold gPop; rw [bindR]; refine wR_cg fun ro s1 => ?_; unfold wL wOp wCh
  cases look s1 ro with
  | none => rfl
  | some d =>
    dsimp only [Option.bind]
    cases lastD d with
    | none => rfl
    | some x => dsimp only; cases change popD ro s1 <;> rfl
theorem apd_ok {ds : List D} {L : D → Prop} (hl : ds.length ≤ 1000000) : wOp (appD d (.lst ds)) L = L (.lst (ds ++ [d])) := by show wOp (if decide (ds.length < sizeLine) = true then _ else _) L = _; rw [if_pos (decide_eq_true (by rw [sizeLine_eq]; omega))]; rfl
theorem exd_ok {ds zs : List D} {L : D → Prop} (hl : ds.length + zs.length ≤ 1000000) : wOp (extD zs (.lst ds)) L = L (.lst (ds ++ zs)) := by show wOp (if decide (ds.length + zs.length ≤ sizeLine) = true then _ else _) L = _; rw [if_pos (decide_eq_true (by rw [sizeLine_eq]; omega))]; rfl
theorem g_pro : wR (gPro ga s) K E = wR (ga s) (fun r s1 => wPro r s1 K) E := by unfold gPro; rw [bindR]; refine wR_cg fun r s1 => ?_; cases r with
  | ow d => cases d <;> rfl
  | _ => rfl
theorem pro {ds : List D} : wPro (.ow (.lst ds)) ⟨sl, st⟩ K = K (.fz (.obj st.length)) ⟨sl, st ++ [.lst ds]⟩ := rfl
def wTo (sl : List Sl) (s : S) (N : S → Prop) [Fx sl] [Fx N] : Prop := N ⟨sl, s.st⟩
theorem to_ {l1 : List Sl} : wTo sl ⟨l1, st⟩ N = N ⟨sl, st⟩ := rfl
def wSd (word : Ex → Option D) (K : RV → S → Prop) (x : Ex) (s : S) [Fx K] [Fx s] : Prop := match word x with
  | some d => K (.fz d) s
  | none => False
def wFz (sl : List Sl) (L : List Sl → Prop) [Fx L] : Prop := L (sl.map frzSl)
theorem fz0 {L : List Sl → Prop} : wFz [] L = L [] := rfl
theorem fzF {L : List Sl → Prop} : wFz (.fz d :: sl) L = wFz sl fun l => L (.fz d :: l) := rfl
theorem fzO {L : List Sl → Prop} : wFz (.ow d :: sl) L = wFz sl fun l => L (.no :: l) := rfl
theorem fzN {L : List Sl → Prop} : wFz (.no :: sl) L = wFz sl fun l => L (.no :: l) := rfl
theorem g_said {word : Ex → Option D} : wR (gSaid word ga ⟨sl, st⟩) K E = wFz sl fun l2 => wR (ga ⟨l2, st⟩) (fun r s1 => wK r fun r1 => wSt r1 s1 fun d s2 => wTo sl s2 fun s3 => K (.fz (.tup [.str "told", d])) s3) (fun x s1 => wTo sl s1 fun s3 => wSd word K x s3) := by
  unfold gSaid
  dsimp only [wFz]
  rw [show ga ⟨sl.map frzSl, st⟩ = ga (frz ⟨sl, st⟩) from rfl]
  cases ga (frz ⟨sl, st⟩) with
  | bad => rfl
  | ok r s1 => dsimp only [wR, wK, wSt, wTo]; cases Fw.settle r.keep s1 <;> rfl
  | ex x s1 => dsimp only [wR, wSd, wTo]; cases word x <;> rfl
theorem t_name {i : Nat} : wG (pName i) r s N = wSto i r s N := by unfold wG pName wSto; cases store i r s <;> rfl
theorem wGs_eq : ∀ {ps : List GX} {ds : List D} {s : S}, wGs ps ds s N = (match tgtAll ps (ds.map .fz) s with | .ok _ s1 => N s1 | _ => False)
  | [], [], s => rfl
  | p :: ps, d :: ds, s => by
    show wG p (.fz d) s (fun s1 => wGs ps ds s1 N) = _
    unfold wG
    show _ = (match (match p (.fz d) s with | .ok _ s1 => tgtAll ps (ds.map .fz) s1 | r => r) with | .ok _ s1 => N s1 | _ => False)
    cases p (.fz d) s with
    | ok x s1 => exact wGs_eq
    | _ => rfl
  | [], d :: ds, s => rfl
  | p :: ps, [], s => rfl
theorem wTA_eq {p : GX} {ps : List GX} {x : Sl} {xs : List Sl} : wTA (p :: ps) (x :: xs) s N = wG p (slRV x) s fun s1 => wTA ps xs s1 N := by
  unfold wG wTA
  show (match (match p (slRV x) s with | .ok _ s1 => tgtAll ps xs s1 | r => r) with | .ok _ s1 => N s1 | _ => False) = _
  cases p (slRV x) s <;> rfl
theorem ta0 : wTA [] [] s N = N s := rfl
theorem taF {p : GX} {ps : List GX} {xs : List Sl} : wTA (p :: ps) (.fz d :: xs) s N = wG p (.fz d) s fun s1 => wTA ps xs s1 N := wTA_eq
theorem taO {p : GX} {ps : List GX} {xs : List Sl} : wTA (p :: ps) (.ow d :: xs) s N = wG p (.ow d) s fun s1 => wTA ps xs s1 N := wTA_eq
theorem gs0 : wGs [] [] s N = N s := rfl
theorem gs1 {p : GX} {ps : List GX} {ds : List D} : wGs (p :: ps) (d :: ds) s N = wG p (.fz d) s fun s1 => wGs ps ds s1 N := rfl
theorem t_tup {ps : List GX} : wG (pTup ps) r s N = wK r fun r1 => wSt r1 s fun d s1 => wTup d fun ds => wGs ps ds s1 N := by
  dsimp only [wG, pTup, wK, wSt]
  cases Fw.settle r.keep s with
  | none => rfl
  | some z =>
    obtain ⟨d, s1⟩ := z
    cases d with
    | tup ds => dsimp only [wTup]; rw [wGs_eq]
    | _ => rfl
theorem wtup {ds : List D} {L : List D → Prop} : wTup (.tup ds) L = L ds := rfl
theorem t_sub : wG (pSub ga gb) r s N = wK r fun r1 => wSt r1 s fun x s0 => wR (ga s0) (fun ro s1 => wR (gb s1) (fun ri s2 => wL s2 ri fun i => wCh (fun d => updAt d i x) ro s2 N) (fun _ _ => False)) (fun _ _ => False) := by
  dsimp only [wG, pSub, wK, wSt]
  cases Fw.settle r.keep s with
  | none => rfl
  | some z =>
    obtain ⟨x, s0⟩ := z
    dsimp only [wR]
    cases ga s0 with
    | ok ro s1 =>
      dsimp only
      cases gb s1 with
      | ok ri s2 =>
        dsimp only [wL]
        cases look s2 ri with
        | none => rfl
        | some i =>
          dsimp only [wCh]
          cases change (fun d => updAt d i x) ro s2 <;> rfl
      | _ => rfl
    | _ => rfl
theorem s_seq : wS (gSeq h k s) N TT B C E = wS (h s) (fun s1 => wS (k s1) N TT B C E) TT B C E := by unfold gSeq; cases h s <;> rfl
theorem s_next : wS (gNext s) N TT B C E = N s := rfl
theorem s_cont : wS (gCont s) N TT B C E = C s := rfl
theorem s_drop : wS (gDrop ga s) N TT B C E = wR (ga s) (fun _ s1 => N s1) E := toSR
theorem s_ret : wS (gRet ga s) N TT B C E = wR (ga s) (fun r s1 => wRet r s1 TT) E := by unfold gRet; rw [toSR]; refine wR_cg fun r s1 => ?_; unfold wRet retV; cases r with
  | ln i => (show wS (match s1.sl[i]? with | some (.ow d) => .rt (.ow d) s1 | some (.fz d) => .rt (.fz d) s1 | _ => .bad) N TT B C E = (match s1.sl[i]? with | some (.ow d) => TT (.ow d) s1 | some (.fz d) => TT (.fz d) s1 | _ => False)); cases s1.sl[i]? with
    | none => rfl
    | some x => cases x <;> rfl
  | _ => rfl
theorem s_retn : wS (gRetN s) N TT B C E = TT (.fz .non) s := rfl
theorem s_if : wS (gIfS gc h k s) N TT B C E = wT gc s (fun x s1 => cnd x (wS (h s1) N TT B C E) (wS (k s1) N TT B C E)) E := by unfold gIfS; rw [toSR]; unfold wT; refine wR_cg fun x s1 => ?_; cases x <;> rfl
theorem s_set {i : Nat} : wS (gSet i ga s) N TT B C E = wR (ga s) (fun r s1 => wSto i r s1 N) E := by unfold gSet; rw [toSR]; refine wR_cg fun r s1 => ?_; unfold wSto; cases store i r s1 <;> rfl
theorem s_asg {p : GX} : wS (gAsg p ga s) N TT B C E = wR (ga s) (fun r s1 => wG p r s1 N) E := by unfold gAsg; rw [toSR]; refine wR_cg fun r s1 => ?_; unfold wG; cases p r s1 <;> rfl
theorem s_par {is : List Nat} : wS (gPar is gs s) N TT B C E = wR (gHeld gs s) (fun xs s1 => wSet is xs s1 N) E := toSR
theorem s_parg {ps : List GX} : wS (gParG ps gs s) N TT B C E = wR (gHeld gs s) (fun xs s1 => wTA ps xs s1 N) E := by unfold gParG; rw [toSR]; refine wR_cg fun r s1 => ?_; unfold wTA; cases tgtAll ps r s1 <;> rfl
theorem set0 : wSet [] [] s N = N s := rfl
theorem set1 {i : Nat} {is : List Nat} {x : Sl} {xs : List Sl} : wSet (i :: is) (x :: xs) s N = wSet is xs s fun s1 => wS1 i x s1 N := rfl
theorem held0 {L : List Sl → S → Prop} : wR (gHeld [] s) L E = L [] s := rfl
theorem held1 {L : List Sl → S → Prop} : wR (gHeld (ga :: gs) s) L E = wR (ga s) (fun r s1 => wHo r s1 fun x s2 => wR (gHeld gs s2) (fun xs s3 => L (x :: xs) s3) E) E := by
  rw [gHeld]
  dsimp only [wR, wHo]
  cases ga s with
  | ok r s1 =>
    dsimp only
    cases hold r s1 with
    | none => rfl
    | some z =>
      obtain ⟨x, s2⟩ := z
      dsimp only
      cases gHeld gs s2 <;> rfl
  | _ => rfl
theorem ho_fz {L : Sl → S → Prop} : wHo (.fz d) s L = L (.fz d) s := rfl
theorem ho_ow {L : Sl → S → Prop} : wHo (.ow d) s L = L (.ow d) s := rfl
theorem ho_ln {L : Sl → S → Prop} {i : Nat} : wHo (.ln i) s L = wSt (.ln i) s fun d s1 => L (.fz d) s1 := by unfold wHo wSt; (show (match (match Fw.settle (.ln i) s with | some (d, s1) => some (Sl.fz d, s1) | none => none) with | some (x, s1) => L x s1 | none => False) = _); cases Fw.settle (.ln i) s <;> rfl
theorem s_raise {c : Str} : wS (gRaise c s) N TT B C E = E ⟨c, []⟩ s := rfl
theorem s_raiset {c f : Str} : wS (gRaiseT c f ga s) N TT B C E = wR (ga s) (fun r s1 => wK r fun r1 => wSt r1 s1 fun d s2 => E ⟨c, [(f, d)]⟩ s2) E := by unfold gRaiseT; rw [toSR]; refine wR_cg fun r s1 => ?_; dsimp only [wK, wSt]; cases Fw.settle r.keep s1 <;> rfl
def wLp0 (p : GX) (h : SX) : List D → S → (S → Prop) → (RV → S → Prop) → (Ex → S → Prop) → Prop
  | [], s, N, TT, E => N s
  | d :: ds, s, N, TT, E => wG p (.fz d) s fun s1 => wS (h s1) (fun s2 => wLp0 p h ds s2 N TT E) TT N (fun s2 => wLp0 p h ds s2 N TT E) E
def wLp (p : GX) (h : SX) (ds : List D) (s : S) (N : S → Prop) (TT : RV → S → Prop) (E : Ex → S → Prop) [Fx p] [Fx h] [Fx s] [Fx N] [Fx TT] [Fx E] : Prop := wLp0 p h ds s N TT E
theorem wLp_eq {p : GX} {h : SX} : ∀ {ds : List D} {s : S}, wLp p h ds s N TT E = wS (loopF p h ds s) N TT B C E
  | [], s => rfl
  | d :: ds, s => by
    unfold wLp wLp0 loopF wG
    cases p (.fz d) s with
    | ok x s1 =>
      show wS (h s1) (fun s2 => wLp p h ds s2 N TT E) TT N (fun s2 => wLp p h ds s2 N TT E) E = wS (match h s1 with | .nx s2 => _ | .ct s2 => _ | .bk s2 => _ | .rt r s2 => _ | .ex x s2 => _ | .bad => .bad) N TT B C E
      cases h s1 with
      | nx s2 => exact wLp_eq
      | ct s2 => exact wLp_eq
      | _ => rfl
    | _ => rfl
theorem wLp_inv {p : GX} {h : SX} (I : Nat → S → Prop) {ds : List D} (h1 : ∀ (i : Nat) (d : D) (s : S), ds[i]? = some d → I i s → wG p (.fz d) s fun s1 => wS (h s1) (I (i + 1)) TT N (I (i + 1)) E) {s : S} (h0 : I 0 s) (h2 : ∀ s, I ds.length s → N s) : wLp p h ds s N TT E := by
  have go : ∀ (ys xs : List D) (s : S), ds = xs ++ ys → I xs.length s → wLp p h ys s N TT E := by
    intro ys
    induction ys with
    | nil => intro xs s e i; exact h2 s (by rw [e, List.append_nil]; exact i)
    | cons y ys ih =>
      intro xs s e i
      have q := h1 xs.length y s (by rw [e]; simp) i
      unfold wLp wLp0
      unfold wG at q ⊢
      cases hp : p (.fz y) s with
      | ok x s1 =>
        rw [hp] at q
        have q : wS (h s1) (I (xs.length + 1)) TT N (I (xs.length + 1)) E := q
        show wS (h s1) (fun s2 => wLp p h ys s2 N TT E) TT N (fun s2 => wLp p h ys s2 N TT E) E
        have nx : ∀ s2, I (xs.length + 1) s2 → wLp p h ys s2 N TT E := fun s2 z => ih (xs ++ [y]) s2 (by rw [e]; simp) (by simpa using z)
        cases hh : h s1 with
        | nx s2 => rw [hh] at q; exact nx s2 q
        | ct s2 => rw [hh] at q; exact nx s2 q
        | bk s2 => rw [hh] at q; exact q
        | rt r s2 => rw [hh] at q; exact q
        | ex r s2 => rw [hh] at q; exact q
        | bad => rw [hh] at q; exact q
      | ex x s1 => rw [hp] at q; exact q
      | bad => rw [hp] at q; exact q
  exact go ds [] s rfl h0
theorem s_for {gi : IX} {p : GX} : wS (gFor gi p h s) N TT B C E = wR (gi s) (fun items s1 => wLp p h items s1 N TT E) E := by unfold gFor; rw [toSR]; refine wR_cg fun items s1 => ?_; exact (wLp_eq).symm
theorem i_seq {L : List D → S → Prop} : wR (gSeqI ga s) L E = wR (ga s) (fun r s1 => wK r fun r1 => wSt r1 s1 fun d s2 => wItems d fun ds => L ds s2) E := by unfold gSeqI; rw [bindR]; refine wR_cg fun r s1 => ?_; dsimp only [wK, wSt]; cases Fw.settle r.keep s1 with
  | none => rfl
  | some z => obtain ⟨d, s2⟩ := z; unfold wItems; (show wR (match itemsD d with | some ds => R.ok ds s2 | none => .bad) L E = (match itemsD d with | some ds => L ds s2 | none => False)); cases itemsD d <;> rfl
theorem it_lst {ds : List D} {L : List D → Prop} : wItems (.lst ds) L = L ds := rfl
theorem it_tup {ds : List D} {L : List D → Prop} : wItems (.tup ds) L = L ds := rfl
theorem it_str {l : List Nat} {L : List D → Prop} : wItems (.str (SX.S l)) L = L (l.map fun c => D.str (SX.S [c])) := rfl
def wRg (i j : Int) (p : Prop) [Fx p] : Prop := if -(2 ^ 62) ≤ i ∧ i < 2 ^ 62 ∧ -(2 ^ 62) ≤ j ∧ j < 2 ^ 62 then p else False
theorem wrg {i j : Int} (h1 : -1000000 ≤ i) (h2 : i ≤ 1000000) (h3 : -1000000 ≤ j) (h4 : j ≤ 1000000) : wRg i j p = p := if_pos ⟨by omega, by omega, by omega, by omega⟩
theorem i_rng1 {L : List D → S → Prop} : wR (gRng1 ga s) L E = wR (ga s) (fun r s1 => wL s1 r fun d => wInt d fun j => wRg 0 j (L (rangeD 0 j.toNat) s1)) E := by
  unfold gRng1; rw [bindR]; refine wR_cg fun r s1 => ?_; unfold wL
  cases look s1 r with
  | none => rfl
  | some d =>
    cases d with
    | int j =>
      dsimp only [wInt, wRg]
      by_cases c : -(2 ^ 62) ≤ j ∧ j < 2 ^ 62
      · rw [if_pos c, if_pos (show -(2 ^ 62) ≤ (0 : Int) ∧ (0 : Int) < 2 ^ 62 ∧ -(2 ^ 62) ≤ j ∧ j < 2 ^ 62 from ⟨by decide, by decide, c.1, c.2⟩)]; rfl
      · rw [if_neg c, if_neg (show ¬ (-(2 ^ 62) ≤ (0 : Int) ∧ (0 : Int) < 2 ^ 62 ∧ -(2 ^ 62) ≤ j ∧ j < 2 ^ 62) from fun z => c ⟨z.2.2.1, z.2.2.2⟩)]; rfl
    | _ => rfl
theorem i_rng2 {L : List D → S → Prop} : wR (gRng2 ga gb s) L E = wR (ga s) (fun ra s1 => wR (gb s1) (fun rb s2 => wK ra fun r1 => wL s2 r1 fun d => wL s2 rb fun c => wInt d fun i => wInt c fun j => wRg i j (L (rangeD i (j - i).toNat) s2)) E) E := by
  unfold gRng2; rw [bindR]; refine wR_cg fun ra s1 => ?_; rw [bindR]; refine wR_cg fun rb s2 => ?_
  dsimp only [wK, wL]
  cases look s2 ra.keep with
  | none => rfl
  | some d =>
    dsimp only
    cases look s2 rb with
    | none => cases d <;> rfl
    | some c =>
      cases d with
      | int i =>
        cases c with
        | int j =>
          dsimp only [wInt, wRg]
          by_cases c : -(2 ^ 62) ≤ i ∧ i < 2 ^ 62 ∧ -(2 ^ 62) ≤ j ∧ j < 2 ^ 62
          · rw [if_pos c, if_pos c]; rfl
          · rw [if_neg c, if_neg c]; rfl
        | _ => rfl
      | _ => cases c <;> rfl
def wWp (vs : List Nat) (s : S) (N : S → Prop) [Fx N] : Prop := N (wipeS vs s)
def cStep (p : GX) (gt : TX) (ge : EX) (vs : List Nat) (d : D) (s : S) (L : Option D → S → Prop) [Fx p] [Fx gt] [Fx ge] [Fx s] [Fx L] : Prop :=
  wG p (.fz d) s fun s1 => wR (gt s1) (fun x s2 => cnd x (wR (ge s2) (fun r s3 => wK r fun r1 => wSt r1 s3 fun d1 s4 => wWp vs s4 fun s5 => L (some d1) s5) (fun _ _ => False)) (wWp vs s2 fun s5 => L none s5)) (fun _ _ => False)
def wCp (p : GX) (gt : TX) (ge : EX) (vs : List Nat) (ds acc : List D) (s : S) (L : List D → S → Prop) [Fx p] [Fx gt] [Fx ge] [Fx s] [Fx L] : Prop := match compF p gt ge vs ds acc s with
  | .ok out s1 => L out s1
  | _ => False
theorem wCp0 {p : GX} {gt : TX} {ge : EX} {vs : List Nat} {acc : List D} {L : List D → S → Prop} : wCp p gt ge vs [] acc s L = L acc s := rfl
theorem wCp1 {p : GX} {gt : TX} {ge : EX} {vs : List Nat} {d : D} {ds acc : List D} {L : List D → S → Prop} (hl : acc.length < 1000000) : wCp p gt ge vs (d :: ds) acc s L = cStep p gt ge vs d s fun o s1 => wCp p gt ge vs ds (acc ++ o.toList) s1 L := by
  have hl : acc.length < sizeLine := by rw [sizeLine_eq]; omega
  unfold wCp cStep wG wR
  rw [compF]
  cases p (.fz d) s with
  | ok x s1 =>
    dsimp only
    cases gt s1 with
    | ok x s2 =>
      cases x with
      | false => dsimp only [cnd, Option.toList, wWp]; rw [List.append_nil]
      | true =>
        dsimp only [cnd]
        cases ge s2 with
        | ok r s3 =>
          dsimp only [wK, wSt]
          cases Fw.settle r.keep s3 with
          | none => rfl
          | some z =>
            obtain ⟨d1, s4⟩ := z
            dsimp only
            rw [if_pos hl]; rfl
        | _ => rfl
    | _ => rfl
  | _ => rfl
theorem wCp_inv {p : GX} {gt : TX} {ge : EX} {vs : List Nat} (I : List D → S → Prop) {ds : List D} {L : List D → S → Prop} (h1 : ∀ (out : List D) (d : D) (s : S), d ∈ ds → I out s → cStep p gt ge vs d s fun o s1 => I (out ++ o.toList) s1) {s : S} (hl : ds.length ≤ 1000000) (h0 : I [] s) (h2 : ∀ out s, out.length ≤ ds.length → I out s → L out s) : wCp p gt ge vs ds [] s L := by
  have go : ∀ (ys xs : List D) (acc : List D) (s : S), ds = xs ++ ys → acc.length ≤ xs.length → I acc s → wCp p gt ge vs ys acc s L := by
    intro ys
    induction ys with
    | nil => intro xs acc s e hl i; exact h2 acc s (by rw [e, List.append_nil]; exact hl) i
    | cons y ys ih =>
      intro xs acc s e ha i
      have hx : xs.length < 1000000 := by rw [e, List.length_append, List.length_cons] at hl; omega
      rw [wCp1 (by omega)]
      have q := h1 acc y s (by rw [e]; simp) i
      have nx : ∀ (o : Option D) (s1 : S), I (acc ++ o.toList) s1 → wCp p gt ge vs ys (acc ++ o.toList) s1 L := fun o s1 z => ih (xs ++ [y]) _ s1 (by rw [e]; simp) (by cases o <;> simp <;> omega) z
      unfold cStep wG wR at q ⊢
      revert q
      cases p (.fz y) s with
      | ok x s1 =>
        dsimp only
        cases gt s1 with
        | ok x s2 =>
          cases x with
          | false => exact fun q => nx none _ q
          | true =>
            dsimp only [cnd]
            cases ge s2 with
            | ok r s3 =>
              dsimp only [wK, wSt]
              cases Fw.settle r.keep s3 with
              | none => exact id
              | some z => exact fun q => nx (some z.1) _ q
            | _ => exact id
        | _ => exact id
      | _ => exact id
  exact go ds [] [] s rfl (Nat.le_refl _) h0
/-- a comprehension that changes nothing -/
theorem wCp_pure {p : GX} {gt : TX} {ge : EX} {vs : List Nat} (f : D → Option D) {ds : List D} {L : List D → S → Prop} {s : S} (h1 : ∀ d ∈ ds, ∀ M : Option D → S → Prop, cStep p gt ge vs d s M = M (f d) s) (hl : ds.length ≤ 1000000) : wCp p gt ge vs ds [] s L = L (ds.filterMap f) s := by
  have go : ∀ (ys xs : List D) (acc : List D), ds = xs ++ ys → acc.length ≤ xs.length → wCp p gt ge vs ys acc s L = L (acc ++ ys.filterMap f) s := by
    intro ys
    induction ys with
    | nil => intro xs acc e ha; rw [List.filterMap_nil, List.append_nil]; rfl
    | cons y ys ih =>
      intro xs acc e ha
      have hx : xs.length < 1000000 := by rw [e, List.length_append, List.length_cons] at hl; omega
      rw [wCp1 (by omega), h1 y (by rw [e]; simp), ih (xs ++ [y]) _ (by rw [e]; simp) (by cases f y <;> simp <;> omega), List.filterMap_cons]
      cases f y <;> simp
  exact go ds [] [] rfl (Nat.le_refl _)
theorem filterMap_some {f : D → D} : ∀ {ds : List D}, ds.filterMap (fun d => some (f d)) = ds.map f
  | [] => rfl
  | d :: ds => by rw [List.filterMap_cons]; exact congrArg (f d :: ·) filterMap_some
def wNo (vs : List Nat) (s : S) (p : Prop) [Fx p] : Prop := if noOwn vs s.sl = true then p else False
def wBk (l0 : List Sl) (vs : List Nat) (s : S) (N : S → Prop) [Fx N] : Prop := N { s with sl := backL l0 s.sl vs }
def wCm (vs : List Nat) (p : GX) (gt : TX) (ge : EX) (items : List D) (s1 : S) (K : RV → S → Prop) [Fx p] [Fx gt] [Fx ge] [Fx s1] [Fx K] : Prop := wNo vs s1 (wWp vs s1 fun s2 => wCp p gt ge vs items [] s2 fun out s3 => wBk s1.sl vs s3 fun s4 => K (.ow (.lst out)) s4)
theorem cm {vs : List Nat} {p : GX} {gt : TX} {ge : EX} {items : List D} : wCm vs p gt ge items ⟨sl, st⟩ K = wNo vs ⟨sl, st⟩ (wWp vs ⟨sl, st⟩ fun s2 => wCp p gt ge vs items [] s2 fun out s3 => wBk sl vs s3 fun s4 => K (.ow (.lst out)) s4) := rfl
theorem g_comp {vs : List Nat} {gi : IX} {p : GX} {gt : TX} {ge : EX} : wR (gComp vs gi p gt ge s) K E = wR (gi s) (fun items s1 => wCm vs p gt ge items s1 K) E := by
  unfold gComp; rw [bindR]; refine wR_cg fun items s1 => ?_; unfold wCm wNo wWp wCp wBk
  by_cases c : noOwn vs s1.sl = true
  · rw [if_pos c]; simp only [c, if_true]; cases compF p gt ge vs items [] (wipeS vs s1) <;> rfl
  · rw [if_neg c]; simp only [c]; rfl
theorem t_yes {L : Bool → S → Prop} : wR (tstYes s) L E = L true s := rfl
theorem wF_run {n : Nat} {ds : List D} {K : RV → List Cell → Prop} {E : Ex → List Cell → Prop} : wF (runB n h ds st) K E = wS (h ⟨ds.map .fz ++ List.replicate (n - ds.length) .no, st⟩) (fun s => K (.fz .non) s.st) (fun r s => wFo r s.st K) (fun _ => False) (fun _ => False) (fun x s => E x s.st) := by
  unfold runB; cases h ⟨ds.map .fz ++ List.replicate (n - ds.length) .no, st⟩ with
  | rt r s => cases r <;> rfl
  | _ => rfl
theorem fo_fz {L : RV → List Cell → Prop} : wFo (.fz d) st L = L (.fz d) st := rfl
theorem fo_ow {L : RV → List Cell → Prop} : wFo (.ow d) st L = L (.ow d) st := rfl
def wLo (gc : EX) (h : SX) (s : S) (N : S → Prop) (TT : RV → S → Prop) (E : Ex → S → Prop) [Fx gc] [Fx h] [Fx s] [Fx N] [Fx TT] [Fx E] : Prop := wS (gLoop gc h s) N TT (fun _ => False) (fun _ => False) E
theorem s_loop {gc : EX} {h : SX} : wS (gLoop gc h s) N TT B C E = wLo gc h s N TT E := by
  have q : (∀ s1, gLoop gc h s ≠ .bk s1) ∧ (∀ s1, gLoop gc h s ≠ .ct s1) := by
    unfold gLoop
    by_cases c : ∃ n, whileF gc h n s ≠ .bad
    · rw [dif_pos c]
      generalize Classical.choose c = n
      clear c
      induction n generalizing s with
      | zero => exact ⟨fun _ z => (nomatch z), fun _ z => (nomatch z)⟩
      | succ n ih =>
        unfold whileF
        cases toT gc s with
        | ok x s1 =>
          cases x with
          | false => exact ⟨fun _ z => (nomatch z), fun _ z => (nomatch z)⟩
          | true =>
            dsimp only
            cases h s1 with
            | nx s2 => exact ih
            | ct s2 => exact ih
            | _ => exact ⟨fun _ z => (nomatch z), fun _ z => (nomatch z)⟩
        | _ => exact ⟨fun _ z => (nomatch z), fun _ z => (nomatch z)⟩
    · rw [dif_neg c]; exact ⟨fun _ z => (nomatch z), fun _ z => (nomatch z)⟩
  unfold wLo
  cases e : gLoop gc h s with
  | bk s1 => exact absurd e (q.1 s1)
  | ct s1 => exact absurd e (q.2 s1)
  | _ => rfl
/-- one turn -/
theorem wLo_step {gc : EX} {h : SX} (q : wR (toT gc s) (fun x s1 => cnd x (wS (h s1) (fun s2 => wLo gc h s2 N TT E) TT N (fun s2 => wLo gc h s2 N TT E) E) (N s1)) E) : wLo gc h s N TT E := by
  have up : ∀ {n : Nat} {s2 : S} {r : RS}, whileF gc h n s2 = r → r ≠ .bad → gLoop gc h s2 = r := fun h hr => loop_is h hr
  have has : ∀ {s2 : S}, wLo gc h s2 N TT E → ∃ n, whileF gc h n s2 ≠ .bad := fun {s2} z => by
    by_cases c : ∃ n, whileF gc h n s2 ≠ .bad
    · exact c
    · unfold wLo gLoop at z; rw [dif_neg c] at z; exact z.elim
  have got : ∀ {s2 : S}, wLo gc h s2 N TT E → ∃ n, whileF gc h n s2 ≠ .bad ∧ wS (whileF gc h n s2) N TT (fun _ => False) (fun _ => False) E := fun {s2} z => by
    obtain ⟨n, hn⟩ := has z
    refine ⟨n, hn, ?_⟩
    unfold wLo at z
    rw [up rfl hn] at z
    exact z
  have put : ∀ (n : Nat), wS (whileF gc h n s) N TT (fun _ => False) (fun _ => False) E → wLo gc h s N TT E := fun n z => by
    have hb : whileF gc h n s ≠ .bad := fun e => by rw [e] at z; exact z
    unfold wLo
    rw [up rfl hb]
    exact z
  unfold wR at q
  cases e : toT gc s with
  | bad => rw [e] at q; exact q.elim
  | ex x s1 => rw [e] at q; exact put 1 (by unfold whileF; rw [e]; exact q)
  | ok x s1 =>
    rw [e] at q
    cases x with
    | false => exact put 1 (by unfold whileF; rw [e]; exact q)
    | true =>
      have q : wS (h s1) (fun s2 => wLo gc h s2 N TT E) TT N (fun s2 => wLo gc h s2 N TT E) E := q
      cases eh : h s1 with
      | nx s2 => rw [eh] at q; obtain ⟨n, _, hw⟩ := got q; exact put (n + 1) (by unfold whileF; rw [e]; dsimp only; rw [eh]; exact hw)
      | ct s2 => rw [eh] at q; obtain ⟨n, _, hw⟩ := got q; exact put (n + 1) (by unfold whileF; rw [e]; dsimp only; rw [eh]; exact hw)
      | bk s2 => rw [eh] at q; exact put 1 (by unfold whileF; rw [e]; dsimp only; rw [eh]; exact q)
      | rt r s2 => rw [eh] at q; exact put 1 (by unfold whileF; rw [e]; dsimp only; rw [eh]; exact q)
      | ex r s2 => rw [eh] at q; exact put 1 (by unfold whileF; rw [e]; dsimp only; rw [eh]; exact q)
      | bad => rw [eh] at q; exact q.elim
theorem sz_ok {n : Nat} (h : n ≤ 1000000) : sz n = true := by unfold sz; rw [decide_eq_true_eq, sizeLine_eq]; omega
theorem log_small {i : Int} {k : Nat} (h : i.natAbs < 2 ^ k) (h0 : 0 < k) : i.natAbs.log2 < k := by
  by_cases z : i.natAbs = 0
  · rw [z]; simpa using h0
  · exact (Nat.log2_lt z).mpr h
theorem q_add {i j : Int} : wO (binD .Add (.int i) (.int j)) s K = K (.fz (.int (i + j))) s := rfl
theorem q_sub {i j : Int} : wO (binD .Sub (.int i) (.int j)) s K = K (.fz (.int (i - j))) s := rfl
theorem q_mul {i j : Int} (h1 : i.natAbs < 2 ^ 200) (h2 : j.natAbs < 2 ^ 200) : wO (binD .Mult (.int i) (.int j)) s K = K (.fz (.int (i * j))) s := by show wO (if i.natAbs.log2 + j.natAbs.log2 < 1000000 then .val (.int (i * j)) else .no) s K = _; rw [if_pos (by have := log_small h1 (by decide); have := log_small h2 (by decide); omega)]; rfl
theorem q_divw {i j : Int} (h1 : 0 < j) (h2 : j.natAbs < 2 ^ 4000) : wO (binD .FloorDiv (.int i) (.int j)) s K = K (.fz (.int (i / j))) s := by show wO (if 0 < j ∧ j.natAbs.log2 < 9000 then .val (.int (i / j)) else _) s K = _; rw [if_pos ⟨h1, Nat.lt_trans (log_small h2 (by decide)) (by decide)⟩]; rfl
theorem q_div {i j : Int} (h1 : 0 < j) (h2 : j < 2 ^ 200) : wO (binD .FloorDiv (.int i) (.int j)) s K = K (.fz (.int (i / j))) s := q_divw h1 (by omega)
theorem q_mod {i j : Int} (h : 0 < j) : wO (binD .Mod (.int i) (.int j)) s K = K (.fz (.int (i % j))) s := by show wO (if 0 < j then .val (.int (i % j)) else .no) s K = _; rw [if_pos h]; rfl
theorem q_pow {j : Int} (h : 0 ≤ j) (h2 : j ≤ 1000000) : wO (binD .Pow (.int 10) (.int j)) s K = K (.fz (.int (10 ^ j.toNat))) s := by show wO (if 0 ≤ j ∧ j ≤ 1000000 ∧ (10 : Int).natAbs < 2 ^ 64 then .val (.int (10 ^ j.toNat)) else .no) s K = _; rw [if_pos ⟨h, h2, by decide⟩]; rfl
theorem q_cat {x y : Str} (h : x.length + y.length ≤ 1000000) : wO (binD .Add (.str x) (.str y)) s K = K (.fz (.str (x ++ y))) s := by show wO (if sz (x.length + y.length) then _ else _) s K = _; rw [if_pos (sz_ok h)]; rfl
theorem q_lcat {xs ys : List D} (h : xs.length + ys.length ≤ 1000000) : wO (binD .Add (.lst xs) (.lst ys)) s K = K (.ow (.lst (xs ++ ys))) s := by show wO (if sz (xs.length + ys.length) then _ else _) s K = _; rw [if_pos (sz_ok h)]; rfl
theorem q_tcat {xs ys : List D} (h : xs.length + ys.length ≤ 1000000) : wO (binD .Add (.tup xs) (.tup ys)) s K = K (.fz (.tup (xs ++ ys))) s := by show wO (if sz (xs.length + ys.length) then _ else _) s K = _; rw [if_pos (sz_ok h)]; rfl
theorem q_lt {i j : Int} : wO (cmpD .Lt (.int i) (.int j)) s K = K (.fz (.bl (decide (i < j)))) s := rfl
theorem q_le {i j : Int} : wO (cmpD .LtE (.int i) (.int j)) s K = K (.fz (.bl (decide (i ≤ j)))) s := rfl
theorem q_gt {i j : Int} : wO (cmpD .Gt (.int i) (.int j)) s K = K (.fz (.bl (decide (j < i)))) s := rfl
theorem q_ge {i j : Int} : wO (cmpD .GtE (.int i) (.int j)) s K = K (.fz (.bl (decide (j ≤ i)))) s := rfl
theorem eqP_int {i j : Int} : eqP (.int i) (.int j) = some (decide (i = j)) := by
  show (if SeqAt.shaped (.int i) && SeqAt.shaped (.int j) then some (PyData.eqv (.int i) (.int j)) else none) = _
  rw [show SeqAt.shaped (.int i) = true from by unfold SeqAt.shaped; simp [PyData.canLay0, PyData.depth], show SeqAt.shaped (.int j) = true from by unfold SeqAt.shaped; simp [PyData.canLay0, PyData.depth]]
  simp only [Bool.and_self, if_true, PyData.eqv]; rfl
theorem q_eqi {i j : Int} : wO (cmpD .Eq (.int i) (.int j)) s K = K (.fz (.bl (decide (i = j)))) s := by show wO (match eqP (.int i) (.int j) with | some k => .val (.bl k) | none => .no) s K = _; rw [eqP_int]; rfl
theorem q_nei {i j : Int} : wO (cmpD .NotEq (.int i) (.int j)) s K = K (.fz (.bl (!decide (i = j)))) s := by show wO (match eqP (.int i) (.int j) with | some k => .val (.bl (!k)) | none => .no) s K = _; rw [eqP_int]; rfl
theorem eqP_str {x y : Str} (hx : PyData.strOk x = true) (hy : PyData.strOk y = true) : eqP (.str x) (.str y) = some (decide (x = y)) := by
  show (if SeqAt.shaped (.str x) && SeqAt.shaped (.str y) then some (PyData.eqv (.str x) (.str y)) else none) = _
  rw [show SeqAt.shaped (.str x) = true from by unfold SeqAt.shaped; simp [PyData.canLay0, PyData.depth, hx], show SeqAt.shaped (.str y) = true from by unfold SeqAt.shaped; simp [PyData.canLay0, PyData.depth, hy]]
  simp only [Bool.and_self, if_true, PyData.eqv]; rfl
theorem q_eqs {x y : Str} (hx : PyData.strOk x = true) (hy : PyData.strOk y = true) : wO (cmpD .Eq (.str x) (.str y)) s K = K (.fz (.bl (decide (x = y)))) s := by show wO (match eqP (.str x) (.str y) with | some k => .val (.bl k) | none => .no) s K = _; rw [eqP_str hx hy]; rfl
theorem q_nes {x y : Str} (hx : PyData.strOk x = true) (hy : PyData.strOk y = true) : wO (cmpD .NotEq (.str x) (.str y)) s K = K (.fz (.bl (!decide (x = y)))) s := by show wO (match eqP (.str x) (.str y) with | some k => .val (.bl (!k)) | none => .no) s K = _; rw [eqP_str hx hy]; rfl
theorem q_is : wO (cmpD .Is d .non) s K = K (.fz (.bl (Fw.isNon d))) s := by cases d <;> rfl
theorem q_isnot : wO (cmpD .IsNot d .non) s K = K (.fz (.bl (!Fw.isNon d))) s := by cases d <;> rfl
theorem q_is_non : wO (cmpD .Is (.non) .non) s K = K (.fz (.bl true)) s := rfl
theorem q_isn_non : wO (cmpD .IsNot (.non) .non) s K = K (.fz (.bl false)) s := rfl
theorem q_is_bl {x : Bool} : wO (cmpD .Is (.bl x) .non) s K = K (.fz (.bl false)) s := rfl
theorem q_isn_bl {x : Bool} : wO (cmpD .IsNot (.bl x) .non) s K = K (.fz (.bl true)) s := rfl
theorem q_is_int {x : Int} : wO (cmpD .Is (.int x) .non) s K = K (.fz (.bl false)) s := rfl
theorem q_isn_int {x : Int} : wO (cmpD .IsNot (.int x) .non) s K = K (.fz (.bl true)) s := rfl
theorem q_is_str {x : Str} : wO (cmpD .Is (.str x) .non) s K = K (.fz (.bl false)) s := rfl
theorem q_isn_str {x : Str} : wO (cmpD .IsNot (.str x) .non) s K = K (.fz (.bl true)) s := rfl
theorem q_is_tup {x : List D} : wO (cmpD .Is (.tup x) .non) s K = K (.fz (.bl false)) s := rfl
theorem q_isn_tup {x : List D} : wO (cmpD .IsNot (.tup x) .non) s K = K (.fz (.bl true)) s := rfl
theorem q_is_lst {x : List D} : wO (cmpD .Is (.lst x) .non) s K = K (.fz (.bl false)) s := rfl
theorem q_isn_lst {x : List D} : wO (cmpD .IsNot (.lst x) .non) s K = K (.fz (.bl true)) s := rfl
theorem q_is_dic {x : List (D × D)} : wO (cmpD .Is (.dic x) .non) s K = K (.fz (.bl false)) s := rfl
theorem q_isn_dic {x : List (D × D)} : wO (cmpD .IsNot (.dic x) .non) s K = K (.fz (.bl true)) s := rfl
theorem q_is_obj {x : Nat} : wO (cmpD .Is (.obj x) .non) s K = K (.fz (.bl false)) s := rfl
theorem q_isn_obj {x : Nat} : wO (cmpD .IsNot (.obj x) .non) s K = K (.fz (.bl true)) s := rfl
theorem eqP_bl {x y : Bool} : eqP (.bl x) (.bl y) = some (x == y) := by
  show (if SeqAt.shaped (.bool x) && SeqAt.shaped (.bool y) then some (PyData.eqv (.bool x) (.bool y)) else none) = _
  rw [show SeqAt.shaped (.bool x) = true from by unfold SeqAt.shaped; simp [PyData.canLay0, PyData.depth], show SeqAt.shaped (.bool y) = true from by unfold SeqAt.shaped; simp [PyData.canLay0, PyData.depth]]
  simp only [Bool.and_self, if_true, PyData.eqv]
theorem q_eqb {x y : Bool} : wO (cmpD .Eq (.bl x) (.bl y)) s K = K (.fz (.bl (x == y))) s := by show wO (match eqP (.bl x) (.bl y) with | some k => .val (.bl k) | none => .no) s K = _; rw [eqP_bl]; rfl
theorem q_neb {x y : Bool} : wO (cmpD .NotEq (.bl x) (.bl y)) s K = K (.fz (.bl (!(x == y)))) s := by show wO (match eqP (.bl x) (.bl y) with | some k => .val (.bl (!k)) | none => .no) s K = _; rw [eqP_bl]; rfl
theorem q_not {x : Bool} : wO (notD (.bl x)) s K = K (.fz (.bl (!x))) s := rfl
theorem q_neg {i : Int} : wO (negD (.int i)) s K = K (.fz (.int (-i))) s := rfl
theorem q_abs {i : Int} : wO (absD [.int i]) s K = K (.fz (.int (if i < 0 then -i else i))) s := rfl
theorem q_max {i j : Int} : wO (maxD [.int i, .int j]) s K = K (.fz (.int (if j > i then j else i))) s := rfl
theorem q_min {i j : Int} : wO (minD [.int i, .int j]) s K = K (.fz (.int (if j < i then j else i))) s := rfl
theorem q_lenl {xs : List D} : wO (lenD [.lst xs]) s K = K (.fz (.int (xs.length : Int))) s := rfl
theorem q_lent {xs : List D} : wO (lenD [.tup xs]) s K = K (.fz (.int (xs.length : Int))) s := rfl
theorem q_lenc {xs : List Int} : wO (lenD [.scr xs]) s K = K (.fz (.int (xs.length : Int))) s := rfl
theorem q_lens {x : Str} (h : x.length ≤ 1000000) : wO (lenD [.str x]) s K = K (.fz (.int (x.length : Int))) s := by show wO (if sz x.length then _ else _) s K = _; rw [if_pos (sz_ok h)]; rfl
theorem q_listl {xs : List D} : wO (listD [.lst xs]) s K = K (.ow (.lst xs)) s := rfl
theorem q_listt {xs : List D} : wO (listD [.tup xs]) s K = K (.ow (.lst xs)) s := rfl
theorem q_tupl {xs : List D} : wO (tupleD [.lst xs]) s K = K (.fz (.tup xs)) s := rfl
theorem q_tupt {xs : List D} : wO (tupleD [.tup xs]) s K = K (.fz (.tup xs)) s := rfl
theorem q_revl {xs : List D} : wO (revD (.lst xs)) s K = K (.ow (.lst xs.reverse)) s := rfl
theorem q_revt {xs : List D} : wO (revD (.tup xs)) s K = K (.fz (.tup xs.reverse)) s := rfl
theorem q_sll {xs : List D} {lo hi : Option Int} : wO (slD (.lst xs) lo hi) s K = K (.ow (.lst (cutD xs lo hi))) s := rfl
theorem q_slt {xs : List D} {lo hi : Option Int} : wO (slD (.tup xs) lo hi) s K = K (.fz (.tup (cutD xs lo hi))) s := rfl
theorem q_sls {x : Str} {lo hi : Option Int} (h : x.length ≤ 1000000) : wO (slD (.str x) lo hi) s K = K (.fz (.str (cutS x lo hi))) s := by show wO (if sz x.length then _ else _) s K = _; rw [if_pos (sz_ok h)]; rfl
theorem q_int {i : Int} : wO (intD [.int i]) s K = K (.fz (.int i)) s := rfl
theorem q_intb {x : Bool} : wO (intD [.bl x]) s K = K (.fz (.int (if x then 1 else 0))) s := rfl
theorem q_strs {x : Str} : wO (strD [.str x]) s K = K (.fz (.str x)) s := rfl
theorem q_stri {i : Int} (h : i.natAbs < 2 ^ 1920) : wO (strD [.int i]) s K = K (.fz (.str (toString i))) s := by show wO (if i.natAbs.log2 < 1920 then _ else _) s K = _; rw [if_pos (log_small h (by decide))]; rfl
theorem q_fmts {x : Str} (h : x.length ≤ 1000000) : wO (fmtD (.str x)) s K = K (.fz (.str x)) s := by show wO (if sz x.length then _ else _) s K = _; rw [if_pos (sz_ok h)]; rfl
theorem q_fmti {i : Int} (h : i.natAbs < 2 ^ 1920) : wO (fmtD (.int i)) s K = K (.fz (.str (toString i))) s := by show wO (if i.natAbs.log2 < 1920 then _ else _) s K = _; rw [if_pos (log_small h (by decide))]; rfl
theorem q_at {xs : List D} {i : Int} (h : L2.atI xs i = some d) : wO (atD (.lst xs) (.int i)) s K = K (.fz d) s := by
  show wO (match L2.atI xs i with | some d => .val d | none => .no) s K = _; rw [h]; rfl
theorem q_att {xs : List D} {i : Int} (h : L2.atI xs i = some d) : wO (atD (.tup xs) (.int i)) s K = K (.fz d) s := by
  show wO (match L2.atI xs i with | some d => .val d | none => .no) s K = _; rw [h]; rfl
theorem q_atc {xs : List Int} {i n : Int} (h : L2.atI xs i = some n) : wO (atD (.scr xs) (.int i)) s K = K (.fz (.int n)) s := by
  show wO (match L2.atI xs i with | some n => .val (.int n) | none => .no) s K = _; rw [h]; rfl
theorem at_last {a : Type} {xs : List a} {x : a} : L2.atI (xs ++ [x]) (-1) = some x := by
  unfold L2.atI L2.ixN
  rw [if_neg (by decide), if_pos (by rw [List.length_append, List.length_singleton]; omega), show ((-1 : Int) + ((xs ++ [x]).length : Nat)).toNat = xs.length by simp; omega]
  simp
theorem atI_neg {a : Type} {xs : List a} {i : Int} (h0 : i < 0) (h1 : -(xs.length : Int) ≤ i) : ∃ x, L2.atI xs i = some x ∧ x ∈ xs := by
  have h2 : (i + (xs.length : Int)).toNat < xs.length := by omega
  refine ⟨xs[(i + (xs.length : Int)).toNat], ?_, List.getElem_mem h2⟩
  unfold L2.atI L2.ixN
  rw [if_neg (by omega), if_pos h1]
  exact List.getElem?_eq_getElem h2
theorem atI_nat {a : Type} {xs : List a} {i : Int} (h0 : 0 ≤ i) (h1 : i < xs.length) : ∃ x, L2.atI xs i = some x ∧ xs[i.toNat]? = some x := by
  have h2 : i.toNat < xs.length := by omega
  refine ⟨xs[i.toNat], ?_, List.getElem?_eq_getElem h2⟩
  unfold L2.atI L2.ixN
  rw [if_pos h0, if_pos h1]
  exact List.getElem?_eq_getElem h2
theorem q_atl0 {xs : List D}  : wO (atD (.lst (d :: xs)) (.int 0)) s K = K (.fz d) s := q_at (by unfold L2.atI L2.ixN; rw [if_pos (by decide), if_pos (by simp only [List.length_cons]; omega)]; rfl)
theorem q_att0 {xs : List D}  : wO (atD (.tup (d :: xs)) (.int 0)) s K = K (.fz d) s := q_att (by unfold L2.atI L2.ixN; rw [if_pos (by decide), if_pos (by simp only [List.length_cons]; omega)]; rfl)
theorem q_atl1 {xs : List D} {y0 : D} : wO (atD (.lst (y0 :: d :: xs)) (.int 1)) s K = K (.fz d) s := q_at (by unfold L2.atI L2.ixN; rw [if_pos (by decide), if_pos (by simp only [List.length_cons]; omega)]; rfl)
theorem q_att1 {xs : List D} {y0 : D} : wO (atD (.tup (y0 :: d :: xs)) (.int 1)) s K = K (.fz d) s := q_att (by unfold L2.atI L2.ixN; rw [if_pos (by decide), if_pos (by simp only [List.length_cons]; omega)]; rfl)
theorem q_atl2 {xs : List D} {y0 y1 : D} : wO (atD (.lst (y0 :: y1 :: d :: xs)) (.int 2)) s K = K (.fz d) s := q_at (by unfold L2.atI L2.ixN; rw [if_pos (by decide), if_pos (by simp only [List.length_cons]; omega)]; rfl)
theorem q_att2 {xs : List D} {y0 y1 : D} : wO (atD (.tup (y0 :: y1 :: d :: xs)) (.int 2)) s K = K (.fz d) s := q_att (by unfold L2.atI L2.ixN; rw [if_pos (by decide), if_pos (by simp only [List.length_cons]; omega)]; rfl)
theorem q_atl3 {xs : List D} {y0 y1 y2 : D} : wO (atD (.lst (y0 :: y1 :: y2 :: d :: xs)) (.int 3)) s K = K (.fz d) s := q_at (by unfold L2.atI L2.ixN; rw [if_pos (by decide), if_pos (by simp only [List.length_cons]; omega)]; rfl)
theorem q_att3 {xs : List D} {y0 y1 y2 : D} : wO (atD (.tup (y0 :: y1 :: y2 :: d :: xs)) (.int 3)) s K = K (.fz d) s := q_att (by unfold L2.atI L2.ixN; rw [if_pos (by decide), if_pos (by simp only [List.length_cons]; omega)]; rfl)
theorem q_atl4 {xs : List D} {y0 y1 y2 y3 : D} : wO (atD (.lst (y0 :: y1 :: y2 :: y3 :: d :: xs)) (.int 4)) s K = K (.fz d) s := q_at (by unfold L2.atI L2.ixN; rw [if_pos (by decide), if_pos (by simp only [List.length_cons]; omega)]; rfl)
theorem q_att4 {xs : List D} {y0 y1 y2 y3 : D} : wO (atD (.tup (y0 :: y1 :: y2 :: y3 :: d :: xs)) (.int 4)) s K = K (.fz d) s := q_att (by unfold L2.atI L2.ixN; rw [if_pos (by decide), if_pos (by simp only [List.length_cons]; omega)]; rfl)
theorem q_atl5 {xs : List D} {y0 y1 y2 y3 y4 : D} : wO (atD (.lst (y0 :: y1 :: y2 :: y3 :: y4 :: d :: xs)) (.int 5)) s K = K (.fz d) s := q_at (by unfold L2.atI L2.ixN; rw [if_pos (by decide), if_pos (by simp only [List.length_cons]; omega)]; rfl)
theorem q_att5 {xs : List D} {y0 y1 y2 y3 y4 : D} : wO (atD (.tup (y0 :: y1 :: y2 :: y3 :: y4 :: d :: xs)) (.int 5)) s K = K (.fz d) s := q_att (by unfold L2.atI L2.ixN; rw [if_pos (by decide), if_pos (by simp only [List.length_cons]; omega)]; rfl)
theorem q_atl6 {xs : List D} {y0 y1 y2 y3 y4 y5 : D} : wO (atD (.lst (y0 :: y1 :: y2 :: y3 :: y4 :: y5 :: d :: xs)) (.int 6)) s K = K (.fz d) s := q_at (by unfold L2.atI L2.ixN; rw [if_pos (by decide), if_pos (by simp only [List.length_cons]; omega)]; rfl)
theorem q_att6 {xs : List D} {y0 y1 y2 y3 y4 y5 : D} : wO (atD (.tup (y0 :: y1 :: y2 :: y3 :: y4 :: y5 :: d :: xs)) (.int 6)) s K = K (.fz d) s := q_att (by unfold L2.atI L2.ixN; rw [if_pos (by decide), if_pos (by simp only [List.length_cons]; omega)]; rfl)
theorem q_atl7 {xs : List D} {y0 y1 y2 y3 y4 y5 y6 : D} : wO (atD (.lst (y0 :: y1 :: y2 :: y3 :: y4 :: y5 :: y6 :: d :: xs)) (.int 7)) s K = K (.fz d) s := q_at (by unfold L2.atI L2.ixN; rw [if_pos (by decide), if_pos (by simp only [List.length_cons]; omega)]; rfl)
theorem q_att7 {xs : List D} {y0 y1 y2 y3 y4 y5 y6 : D} : wO (atD (.tup (y0 :: y1 :: y2 :: y3 :: y4 :: y5 :: y6 :: d :: xs)) (.int 7)) s K = K (.fz d) s := q_att (by unfold L2.atI L2.ixN; rw [if_pos (by decide), if_pos (by simp only [List.length_cons]; omega)]; rfl)
theorem tr_bl {x : Bool} {L : Bool → Prop} : wTr (.bl x) L = L x := rfl
theorem tr_int {x : Int} {L : Bool → Prop} : wTr (.int x) L = L (x != 0) := rfl
theorem tr_non {L : Bool → Prop} : wTr .non L = L false := rfl
theorem tr_tup {x : List D} {L : Bool → Prop} : wTr (.tup x) L = L (!isNilD x) := rfl
theorem tr_lst {x : List D} {L : Bool → Prop} : wTr (.lst x) L = L (!isNilD x) := rfl
theorem no_bad : wR (gBad s) K E = False := rfl
theorem wR_mono {r : R b} {K K1 : b → S → Prop} {E E1 : Ex → S → Prop} (h : wR r K E) (hk : ∀ x s, K x s → K1 x s) (he : ∀ x s, E x s → E1 x s) : wR r K1 E1 := by
  cases r with
  | ok x s => exact hk x s h
  | ex x s => exact he x s h
  | bad => exact h
theorem wF_mono {r : FR} {K K1 : RV → List Cell → Prop} {E E1 : Ex → List Cell → Prop} (h : wF r K E) (hk : ∀ x s, K x s → K1 x s) (he : ∀ x s, E x s → E1 x s) : wF r K1 E1 := by
  cases r with
  | ok x s => cases x with
    | fz d => exact hk _ s h
    | ow d => exact hk _ s h
    | ln i => exact h
  | ex x s => exact he x s h
  | bad => exact h
theorem at_end {a : Type} {p : List a} {x : a} : (p ++ [x])[p.length]? = some x := by simp
theorem set_end {a : Type} {p : List a} {x y : a} : (p ++ [x]).set p.length y = p ++ [y] := by simp

theorem wF_det {r : FR} {K : RV → List Cell → Prop} {E : Ex → List Cell → Prop} {x : RV} (h : ∀ (K : RV → List Cell → Prop) (E : Ex → List Cell → Prop), K x st → wF r K E) : wF r K E = K x st := by
  have q := h (fun y z => y = x ∧ z = st) (fun _ _ => False) ⟨rfl, rfl⟩
  cases r with
  | ok y z => cases y with
    | fz d => obtain ⟨rfl, rfl⟩ := q; rfl
    | ow d => obtain ⟨rfl, rfl⟩ := q; rfl
    | ln i => exact q.elim
  | ex y z => exact q.elim
  | bad => exact q.elim
theorem wF_exc {r : FR} {K : RV → List Cell → Prop} {E : Ex → List Cell → Prop} {x : Ex} (h : ∀ (K : RV → List Cell → Prop) (E : Ex → List Cell → Prop), E x st → wF r K E) : wF r K E = E x st := by
  have q := h (fun _ _ => False) (fun y z => y = x ∧ z = st) ⟨rfl, rfl⟩
  cases r with
  | ok y z => cases y <;> exact q.elim
  | ex y z => obtain ⟨rfl, rfl⟩ := q; rfl
  | bad => exact q.elim
theorem wLo_det {gc : EX} {h : SX} {s1 : S} (q : ∀ (N : S → Prop) (TT : RV → S → Prop) (E : Ex → S → Prop), N s1 → wLo gc h s N TT E) : wLo gc h s N TT E = N s1 := by
  have z := q (fun y => y = s1) (fun _ _ => False) (fun _ _ => False) rfl
  unfold wLo at z ⊢
  cases e : gLoop gc h s with
  | nx s2 => rw [e] at z; have z : s2 = s1 := z; subst z; rfl
  | _ => rw [e] at z; exact z.elim
def wNo1 (v : Nat) (s : S) (p : Prop) [Fx p] : Prop := if isOw (s.sl[v]?.getD .no) then False else p
def wGt (i : Nat) (l : List Sl) (L : Sl → Prop) [Fx L] : Prop := L (l[i]?.getD .no)
def wBls (xs : List D) (L : List Bool → Prop) [Fx L] : Prop := match blsD xs with
  | some bs => L bs
  | none => False
theorem no0 : wNo [] s p = p := rfl
theorem no1 {v : Nat} {vs : List Nat} : wNo (v :: vs) s p = wNo1 v s (wNo vs s p) := by show (if (!isOw (s.sl[v]?.getD .no) && noOwn vs s.sl) = true then p else False) = (if isOw (s.sl[v]?.getD .no) = true then False else if noOwn vs s.sl = true then p else False); cases isOw (s.sl[v]?.getD .no) <;> rfl
theorem wp0 : wWp [] s N = N s := rfl
theorem wp1 {v : Nat} {vs : List Nat} : wWp (v :: vs) s N = wWp vs s fun s1 => wS1 v .no s1 N := rfl
theorem bk0 {l0 : List Sl} : wBk l0 [] s N = N s := rfl
theorem bk1 {l0 : List Sl} {v : Nat} {vs : List Nat} : wBk l0 (v :: vs) s N = wBk l0 vs s fun s1 => wGt v l0 fun x => wS1 v x s1 N := rfl
theorem no_no0 : wNo1 0 ⟨.no :: sl, st⟩ p = p := rfl
theorem no_fz0 : wNo1 0 ⟨.fz d :: sl, st⟩ p = p := rfl
theorem gt0 {y : Sl} {L : Sl → Prop} : wGt 0 (y :: sl) L = L y := rfl
theorem no_no1 {x0 : Sl}  : wNo1 1 ⟨x0 :: .no :: sl, st⟩ p = p := rfl
theorem no_fz1 {x0 : Sl}  : wNo1 1 ⟨x0 :: .fz d :: sl, st⟩ p = p := rfl
theorem gt1 {x0 : Sl} {y : Sl} {L : Sl → Prop} : wGt 1 (x0 :: y :: sl) L = L y := rfl
theorem no_no2 {x0 x1 : Sl}  : wNo1 2 ⟨x0 :: x1 :: .no :: sl, st⟩ p = p := rfl
theorem no_fz2 {x0 x1 : Sl}  : wNo1 2 ⟨x0 :: x1 :: .fz d :: sl, st⟩ p = p := rfl
theorem gt2 {x0 x1 : Sl} {y : Sl} {L : Sl → Prop} : wGt 2 (x0 :: x1 :: y :: sl) L = L y := rfl
theorem no_no3 {x0 x1 x2 : Sl}  : wNo1 3 ⟨x0 :: x1 :: x2 :: .no :: sl, st⟩ p = p := rfl
theorem no_fz3 {x0 x1 x2 : Sl}  : wNo1 3 ⟨x0 :: x1 :: x2 :: .fz d :: sl, st⟩ p = p := rfl
theorem gt3 {x0 x1 x2 : Sl} {y : Sl} {L : Sl → Prop} : wGt 3 (x0 :: x1 :: x2 :: y :: sl) L = L y := rfl
theorem no_no4 {x0 x1 x2 x3 : Sl}  : wNo1 4 ⟨x0 :: x1 :: x2 :: x3 :: .no :: sl, st⟩ p = p := rfl
theorem no_fz4 {x0 x1 x2 x3 : Sl}  : wNo1 4 ⟨x0 :: x1 :: x2 :: x3 :: .fz d :: sl, st⟩ p = p := rfl
theorem gt4 {x0 x1 x2 x3 : Sl} {y : Sl} {L : Sl → Prop} : wGt 4 (x0 :: x1 :: x2 :: x3 :: y :: sl) L = L y := rfl
theorem no_no5 {x0 x1 x2 x3 x4 : Sl}  : wNo1 5 ⟨x0 :: x1 :: x2 :: x3 :: x4 :: .no :: sl, st⟩ p = p := rfl
theorem no_fz5 {x0 x1 x2 x3 x4 : Sl}  : wNo1 5 ⟨x0 :: x1 :: x2 :: x3 :: x4 :: .fz d :: sl, st⟩ p = p := rfl
theorem gt5 {x0 x1 x2 x3 x4 : Sl} {y : Sl} {L : Sl → Prop} : wGt 5 (x0 :: x1 :: x2 :: x3 :: x4 :: y :: sl) L = L y := rfl
theorem no_no6 {x0 x1 x2 x3 x4 x5 : Sl}  : wNo1 6 ⟨x0 :: x1 :: x2 :: x3 :: x4 :: x5 :: .no :: sl, st⟩ p = p := rfl
theorem no_fz6 {x0 x1 x2 x3 x4 x5 : Sl}  : wNo1 6 ⟨x0 :: x1 :: x2 :: x3 :: x4 :: x5 :: .fz d :: sl, st⟩ p = p := rfl
theorem gt6 {x0 x1 x2 x3 x4 x5 : Sl} {y : Sl} {L : Sl → Prop} : wGt 6 (x0 :: x1 :: x2 :: x3 :: x4 :: x5 :: y :: sl) L = L y := rfl
theorem no_no7 {x0 x1 x2 x3 x4 x5 x6 : Sl}  : wNo1 7 ⟨x0 :: x1 :: x2 :: x3 :: x4 :: x5 :: x6 :: .no :: sl, st⟩ p = p := rfl
theorem no_fz7 {x0 x1 x2 x3 x4 x5 x6 : Sl}  : wNo1 7 ⟨x0 :: x1 :: x2 :: x3 :: x4 :: x5 :: x6 :: .fz d :: sl, st⟩ p = p := rfl
theorem gt7 {x0 x1 x2 x3 x4 x5 x6 : Sl} {y : Sl} {L : Sl → Prop} : wGt 7 (x0 :: x1 :: x2 :: x3 :: x4 :: x5 :: x6 :: y :: sl) L = L y := rfl
theorem no_no8 {x0 x1 x2 x3 x4 x5 x6 x7 : Sl}  : wNo1 8 ⟨x0 :: x1 :: x2 :: x3 :: x4 :: x5 :: x6 :: x7 :: .no :: sl, st⟩ p = p := rfl
theorem no_fz8 {x0 x1 x2 x3 x4 x5 x6 x7 : Sl}  : wNo1 8 ⟨x0 :: x1 :: x2 :: x3 :: x4 :: x5 :: x6 :: x7 :: .fz d :: sl, st⟩ p = p := rfl
theorem gt8 {x0 x1 x2 x3 x4 x5 x6 x7 : Sl} {y : Sl} {L : Sl → Prop} : wGt 8 (x0 :: x1 :: x2 :: x3 :: x4 :: x5 :: x6 :: x7 :: y :: sl) L = L y := rfl
theorem no_no9 {x0 x1 x2 x3 x4 x5 x6 x7 x8 : Sl}  : wNo1 9 ⟨x0 :: x1 :: x2 :: x3 :: x4 :: x5 :: x6 :: x7 :: x8 :: .no :: sl, st⟩ p = p := rfl
theorem no_fz9 {x0 x1 x2 x3 x4 x5 x6 x7 x8 : Sl}  : wNo1 9 ⟨x0 :: x1 :: x2 :: x3 :: x4 :: x5 :: x6 :: x7 :: x8 :: .fz d :: sl, st⟩ p = p := rfl
theorem gt9 {x0 x1 x2 x3 x4 x5 x6 x7 x8 : Sl} {y : Sl} {L : Sl → Prop} : wGt 9 (x0 :: x1 :: x2 :: x3 :: x4 :: x5 :: x6 :: x7 :: x8 :: y :: sl) L = L y := rfl
theorem no_no10 {x0 x1 x2 x3 x4 x5 x6 x7 x8 x9 : Sl}  : wNo1 10 ⟨x0 :: x1 :: x2 :: x3 :: x4 :: x5 :: x6 :: x7 :: x8 :: x9 :: .no :: sl, st⟩ p = p := rfl
theorem no_fz10 {x0 x1 x2 x3 x4 x5 x6 x7 x8 x9 : Sl}  : wNo1 10 ⟨x0 :: x1 :: x2 :: x3 :: x4 :: x5 :: x6 :: x7 :: x8 :: x9 :: .fz d :: sl, st⟩ p = p := rfl
theorem gt10 {x0 x1 x2 x3 x4 x5 x6 x7 x8 x9 : Sl} {y : Sl} {L : Sl → Prop} : wGt 10 (x0 :: x1 :: x2 :: x3 :: x4 :: x5 :: x6 :: x7 :: x8 :: x9 :: y :: sl) L = L y := rfl
theorem no_no11 {x0 x1 x2 x3 x4 x5 x6 x7 x8 x9 x10 : Sl}  : wNo1 11 ⟨x0 :: x1 :: x2 :: x3 :: x4 :: x5 :: x6 :: x7 :: x8 :: x9 :: x10 :: .no :: sl, st⟩ p = p := rfl
theorem no_fz11 {x0 x1 x2 x3 x4 x5 x6 x7 x8 x9 x10 : Sl}  : wNo1 11 ⟨x0 :: x1 :: x2 :: x3 :: x4 :: x5 :: x6 :: x7 :: x8 :: x9 :: x10 :: .fz d :: sl, st⟩ p = p := rfl
theorem gt11 {x0 x1 x2 x3 x4 x5 x6 x7 x8 x9 x10 : Sl} {y : Sl} {L : Sl → Prop} : wGt 11 (x0 :: x1 :: x2 :: x3 :: x4 :: x5 :: x6 :: x7 :: x8 :: x9 :: x10 :: y :: sl) L = L y := rfl
theorem no_no12 {x0 x1 x2 x3 x4 x5 x6 x7 x8 x9 x10 x11 : Sl}  : wNo1 12 ⟨x0 :: x1 :: x2 :: x3 :: x4 :: x5 :: x6 :: x7 :: x8 :: x9 :: x10 :: x11 :: .no :: sl, st⟩ p = p := rfl
theorem no_fz12 {x0 x1 x2 x3 x4 x5 x6 x7 x8 x9 x10 x11 : Sl}  : wNo1 12 ⟨x0 :: x1 :: x2 :: x3 :: x4 :: x5 :: x6 :: x7 :: x8 :: x9 :: x10 :: x11 :: .fz d :: sl, st⟩ p = p := rfl
theorem gt12 {x0 x1 x2 x3 x4 x5 x6 x7 x8 x9 x10 x11 : Sl} {y : Sl} {L : Sl → Prop} : wGt 12 (x0 :: x1 :: x2 :: x3 :: x4 :: x5 :: x6 :: x7 :: x8 :: x9 :: x10 :: x11 :: y :: sl) L = L y := rfl
theorem no_no13 {x0 x1 x2 x3 x4 x5 x6 x7 x8 x9 x10 x11 x12 : Sl}  : wNo1 13 ⟨x0 :: x1 :: x2 :: x3 :: x4 :: x5 :: x6 :: x7 :: x8 :: x9 :: x10 :: x11 :: x12 :: .no :: sl, st⟩ p = p := rfl
theorem no_fz13 {x0 x1 x2 x3 x4 x5 x6 x7 x8 x9 x10 x11 x12 : Sl}  : wNo1 13 ⟨x0 :: x1 :: x2 :: x3 :: x4 :: x5 :: x6 :: x7 :: x8 :: x9 :: x10 :: x11 :: x12 :: .fz d :: sl, st⟩ p = p := rfl
theorem gt13 {x0 x1 x2 x3 x4 x5 x6 x7 x8 x9 x10 x11 x12 : Sl} {y : Sl} {L : Sl → Prop} : wGt 13 (x0 :: x1 :: x2 :: x3 :: x4 :: x5 :: x6 :: x7 :: x8 :: x9 :: x10 :: x11 :: x12 :: y :: sl) L = L y := rfl
theorem no_no14 {x0 x1 x2 x3 x4 x5 x6 x7 x8 x9 x10 x11 x12 x13 : Sl}  : wNo1 14 ⟨x0 :: x1 :: x2 :: x3 :: x4 :: x5 :: x6 :: x7 :: x8 :: x9 :: x10 :: x11 :: x12 :: x13 :: .no :: sl, st⟩ p = p := rfl
theorem no_fz14 {x0 x1 x2 x3 x4 x5 x6 x7 x8 x9 x10 x11 x12 x13 : Sl}  : wNo1 14 ⟨x0 :: x1 :: x2 :: x3 :: x4 :: x5 :: x6 :: x7 :: x8 :: x9 :: x10 :: x11 :: x12 :: x13 :: .fz d :: sl, st⟩ p = p := rfl
theorem gt14 {x0 x1 x2 x3 x4 x5 x6 x7 x8 x9 x10 x11 x12 x13 : Sl} {y : Sl} {L : Sl → Prop} : wGt 14 (x0 :: x1 :: x2 :: x3 :: x4 :: x5 :: x6 :: x7 :: x8 :: x9 :: x10 :: x11 :: x12 :: x13 :: y :: sl) L = L y := rfl
theorem no_no15 {x0 x1 x2 x3 x4 x5 x6 x7 x8 x9 x10 x11 x12 x13 x14 : Sl}  : wNo1 15 ⟨x0 :: x1 :: x2 :: x3 :: x4 :: x5 :: x6 :: x7 :: x8 :: x9 :: x10 :: x11 :: x12 :: x13 :: x14 :: .no :: sl, st⟩ p = p := rfl
theorem no_fz15 {x0 x1 x2 x3 x4 x5 x6 x7 x8 x9 x10 x11 x12 x13 x14 : Sl}  : wNo1 15 ⟨x0 :: x1 :: x2 :: x3 :: x4 :: x5 :: x6 :: x7 :: x8 :: x9 :: x10 :: x11 :: x12 :: x13 :: x14 :: .fz d :: sl, st⟩ p = p := rfl
theorem gt15 {x0 x1 x2 x3 x4 x5 x6 x7 x8 x9 x10 x11 x12 x13 x14 : Sl} {y : Sl} {L : Sl → Prop} : wGt 15 (x0 :: x1 :: x2 :: x3 :: x4 :: x5 :: x6 :: x7 :: x8 :: x9 :: x10 :: x11 :: x12 :: x13 :: x14 :: y :: sl) L = L y := rfl
theorem no_no16 {x0 x1 x2 x3 x4 x5 x6 x7 x8 x9 x10 x11 x12 x13 x14 x15 : Sl}  : wNo1 16 ⟨x0 :: x1 :: x2 :: x3 :: x4 :: x5 :: x6 :: x7 :: x8 :: x9 :: x10 :: x11 :: x12 :: x13 :: x14 :: x15 :: .no :: sl, st⟩ p = p := rfl
theorem no_fz16 {x0 x1 x2 x3 x4 x5 x6 x7 x8 x9 x10 x11 x12 x13 x14 x15 : Sl}  : wNo1 16 ⟨x0 :: x1 :: x2 :: x3 :: x4 :: x5 :: x6 :: x7 :: x8 :: x9 :: x10 :: x11 :: x12 :: x13 :: x14 :: x15 :: .fz d :: sl, st⟩ p = p := rfl
theorem gt16 {x0 x1 x2 x3 x4 x5 x6 x7 x8 x9 x10 x11 x12 x13 x14 x15 : Sl} {y : Sl} {L : Sl → Prop} : wGt 16 (x0 :: x1 :: x2 :: x3 :: x4 :: x5 :: x6 :: x7 :: x8 :: x9 :: x10 :: x11 :: x12 :: x13 :: x14 :: x15 :: y :: sl) L = L y := rfl
theorem no_no17 {x0 x1 x2 x3 x4 x5 x6 x7 x8 x9 x10 x11 x12 x13 x14 x15 x16 : Sl}  : wNo1 17 ⟨x0 :: x1 :: x2 :: x3 :: x4 :: x5 :: x6 :: x7 :: x8 :: x9 :: x10 :: x11 :: x12 :: x13 :: x14 :: x15 :: x16 :: .no :: sl, st⟩ p = p := rfl
theorem no_fz17 {x0 x1 x2 x3 x4 x5 x6 x7 x8 x9 x10 x11 x12 x13 x14 x15 x16 : Sl}  : wNo1 17 ⟨x0 :: x1 :: x2 :: x3 :: x4 :: x5 :: x6 :: x7 :: x8 :: x9 :: x10 :: x11 :: x12 :: x13 :: x14 :: x15 :: x16 :: .fz d :: sl, st⟩ p = p := rfl
theorem gt17 {x0 x1 x2 x3 x4 x5 x6 x7 x8 x9 x10 x11 x12 x13 x14 x15 x16 : Sl} {y : Sl} {L : Sl → Prop} : wGt 17 (x0 :: x1 :: x2 :: x3 :: x4 :: x5 :: x6 :: x7 :: x8 :: x9 :: x10 :: x11 :: x12 :: x13 :: x14 :: x15 :: x16 :: y :: sl) L = L y := rfl
theorem no_no18 {x0 x1 x2 x3 x4 x5 x6 x7 x8 x9 x10 x11 x12 x13 x14 x15 x16 x17 : Sl}  : wNo1 18 ⟨x0 :: x1 :: x2 :: x3 :: x4 :: x5 :: x6 :: x7 :: x8 :: x9 :: x10 :: x11 :: x12 :: x13 :: x14 :: x15 :: x16 :: x17 :: .no :: sl, st⟩ p = p := rfl
theorem no_fz18 {x0 x1 x2 x3 x4 x5 x6 x7 x8 x9 x10 x11 x12 x13 x14 x15 x16 x17 : Sl}  : wNo1 18 ⟨x0 :: x1 :: x2 :: x3 :: x4 :: x5 :: x6 :: x7 :: x8 :: x9 :: x10 :: x11 :: x12 :: x13 :: x14 :: x15 :: x16 :: x17 :: .fz d :: sl, st⟩ p = p := rfl
theorem gt18 {x0 x1 x2 x3 x4 x5 x6 x7 x8 x9 x10 x11 x12 x13 x14 x15 x16 x17 : Sl} {y : Sl} {L : Sl → Prop} : wGt 18 (x0 :: x1 :: x2 :: x3 :: x4 :: x5 :: x6 :: x7 :: x8 :: x9 :: x10 :: x11 :: x12 :: x13 :: x14 :: x15 :: x16 :: x17 :: y :: sl) L = L y := rfl
theorem no_no19 {x0 x1 x2 x3 x4 x5 x6 x7 x8 x9 x10 x11 x12 x13 x14 x15 x16 x17 x18 : Sl}  : wNo1 19 ⟨x0 :: x1 :: x2 :: x3 :: x4 :: x5 :: x6 :: x7 :: x8 :: x9 :: x10 :: x11 :: x12 :: x13 :: x14 :: x15 :: x16 :: x17 :: x18 :: .no :: sl, st⟩ p = p := rfl
theorem no_fz19 {x0 x1 x2 x3 x4 x5 x6 x7 x8 x9 x10 x11 x12 x13 x14 x15 x16 x17 x18 : Sl}  : wNo1 19 ⟨x0 :: x1 :: x2 :: x3 :: x4 :: x5 :: x6 :: x7 :: x8 :: x9 :: x10 :: x11 :: x12 :: x13 :: x14 :: x15 :: x16 :: x17 :: x18 :: .fz d :: sl, st⟩ p = p := rfl
theorem gt19 {x0 x1 x2 x3 x4 x5 x6 x7 x8 x9 x10 x11 x12 x13 x14 x15 x16 x17 x18 : Sl} {y : Sl} {L : Sl → Prop} : wGt 19 (x0 :: x1 :: x2 :: x3 :: x4 :: x5 :: x6 :: x7 :: x8 :: x9 :: x10 :: x11 :: x12 :: x13 :: x14 :: x15 :: x16 :: x17 :: x18 :: y :: sl) L = L y := rfl
theorem no_no20 {x0 x1 x2 x3 x4 x5 x6 x7 x8 x9 x10 x11 x12 x13 x14 x15 x16 x17 x18 x19 : Sl}  : wNo1 20 ⟨x0 :: x1 :: x2 :: x3 :: x4 :: x5 :: x6 :: x7 :: x8 :: x9 :: x10 :: x11 :: x12 :: x13 :: x14 :: x15 :: x16 :: x17 :: x18 :: x19 :: .no :: sl, st⟩ p = p := rfl
theorem no_fz20 {x0 x1 x2 x3 x4 x5 x6 x7 x8 x9 x10 x11 x12 x13 x14 x15 x16 x17 x18 x19 : Sl}  : wNo1 20 ⟨x0 :: x1 :: x2 :: x3 :: x4 :: x5 :: x6 :: x7 :: x8 :: x9 :: x10 :: x11 :: x12 :: x13 :: x14 :: x15 :: x16 :: x17 :: x18 :: x19 :: .fz d :: sl, st⟩ p = p := rfl
theorem gt20 {x0 x1 x2 x3 x4 x5 x6 x7 x8 x9 x10 x11 x12 x13 x14 x15 x16 x17 x18 x19 : Sl} {y : Sl} {L : Sl → Prop} : wGt 20 (x0 :: x1 :: x2 :: x3 :: x4 :: x5 :: x6 :: x7 :: x8 :: x9 :: x10 :: x11 :: x12 :: x13 :: x14 :: x15 :: x16 :: x17 :: x18 :: x19 :: y :: sl) L = L y := rfl
theorem no_no21 {x0 x1 x2 x3 x4 x5 x6 x7 x8 x9 x10 x11 x12 x13 x14 x15 x16 x17 x18 x19 x20 : Sl}  : wNo1 21 ⟨x0 :: x1 :: x2 :: x3 :: x4 :: x5 :: x6 :: x7 :: x8 :: x9 :: x10 :: x11 :: x12 :: x13 :: x14 :: x15 :: x16 :: x17 :: x18 :: x19 :: x20 :: .no :: sl, st⟩ p = p := rfl
theorem no_fz21 {x0 x1 x2 x3 x4 x5 x6 x7 x8 x9 x10 x11 x12 x13 x14 x15 x16 x17 x18 x19 x20 : Sl}  : wNo1 21 ⟨x0 :: x1 :: x2 :: x3 :: x4 :: x5 :: x6 :: x7 :: x8 :: x9 :: x10 :: x11 :: x12 :: x13 :: x14 :: x15 :: x16 :: x17 :: x18 :: x19 :: x20 :: .fz d :: sl, st⟩ p = p := rfl
theorem gt21 {x0 x1 x2 x3 x4 x5 x6 x7 x8 x9 x10 x11 x12 x13 x14 x15 x16 x17 x18 x19 x20 : Sl} {y : Sl} {L : Sl → Prop} : wGt 21 (x0 :: x1 :: x2 :: x3 :: x4 :: x5 :: x6 :: x7 :: x8 :: x9 :: x10 :: x11 :: x12 :: x13 :: x14 :: x15 :: x16 :: x17 :: x18 :: x19 :: x20 :: y :: sl) L = L y := rfl
theorem c_step {p : GX} {gt : TX} {ge : EX} {vs : List Nat} {L : Option D → S → Prop} : cStep p gt ge vs d s L = wG p (.fz d) s fun s1 => wR (gt s1) (fun x s2 => cnd x (wR (ge s2) (fun r s3 => wK r fun r1 => wSt r1 s3 fun d1 s4 => wWp vs s4 fun s5 => L (some d1) s5) (fun _ _ => False)) (wWp vs s2 fun s5 => L none s5)) (fun _ _ => False) := rfl
def wAp (acc : List D) (o : Option D) (L : List D → Prop) [Fx L] : Prop := L (acc ++ o.toList)
theorem c_one {p : GX} {gt : TX} {ge : EX} {vs : List Nat} {ds acc : List D} {L : List D → S → Prop} (hl : acc.length < 1000000) : wCp p gt ge vs (d :: ds) acc s L = cStep p gt ge vs d s fun o s1 => wAp acc o fun acc1 => wCp p gt ge vs ds acc1 s1 L := wCp1 hl
theorem ap_no {acc : List D} {L : List D → Prop} : wAp acc none L = L acc := by unfold wAp; rw [show acc ++ (none : Option D).toList = acc from List.append_nil acc]
theorem ap0 {L : List D → Prop} : wAp [] (some d) L = L [d] := rfl
theorem ap1 {y0 : D} {L : List D → Prop} : wAp [y0] (some d) L = L [y0, d] := rfl
theorem ap2 {y0 y1 : D} {L : List D → Prop} : wAp [y0, y1] (some d) L = L [y0, y1, d] := rfl
theorem ap3 {y0 y1 y2 : D} {L : List D → Prop} : wAp [y0, y1, y2] (some d) L = L [y0, y1, y2, d] := rfl
theorem ap4 {y0 y1 y2 y3 : D} {L : List D → Prop} : wAp [y0, y1, y2, y3] (some d) L = L [y0, y1, y2, y3, d] := rfl
theorem ap5 {y0 y1 y2 y3 y4 : D} {L : List D → Prop} : wAp [y0, y1, y2, y3, y4] (some d) L = L [y0, y1, y2, y3, y4, d] := rfl
theorem ap6 {y0 y1 y2 y3 y4 y5 : D} {L : List D → Prop} : wAp [y0, y1, y2, y3, y4, y5] (some d) L = L [y0, y1, y2, y3, y4, y5, d] := rfl
theorem ap7 {y0 y1 y2 y3 y4 y5 y6 : D} {L : List D → Prop} : wAp [y0, y1, y2, y3, y4, y5, y6] (some d) L = L [y0, y1, y2, y3, y4, y5, y6, d] := rfl
theorem ap8 {y0 y1 y2 y3 y4 y5 y6 y7 : D} {L : List D → Prop} : wAp [y0, y1, y2, y3, y4, y5, y6, y7] (some d) L = L [y0, y1, y2, y3, y4, y5, y6, y7, d] := rfl
theorem ap9 {y0 y1 y2 y3 y4 y5 y6 y7 y8 : D} {L : List D → Prop} : wAp [y0, y1, y2, y3, y4, y5, y6, y7, y8] (some d) L = L [y0, y1, y2, y3, y4, y5, y6, y7, y8, d] := rfl
theorem q_all {xs : List D} : wO (allD [.lst xs]) s K = wBls xs fun bs => K (.fz (.bl (bs.all id))) s := by show wO (match blsD xs with | some bs => .val (.bl (bs.all id)) | none => .no) s K = (match blsD xs with | some bs => _ | none => False); cases blsD xs <;> rfl
theorem q_any {xs : List D} : wO (anyD [.lst xs]) s K = wBls xs fun bs => K (.fz (.bl (bs.any id))) s := by show wO (match blsD xs with | some bs => .val (.bl (bs.any id)) | none => .no) s K = (match blsD xs with | some bs => _ | none => False); cases blsD xs <;> rfl
theorem bls0 {L : List Bool → Prop} : wBls [] L = L [] := rfl
theorem bls1 {x : Bool} {xs : List D} {L : List Bool → Prop} : wBls (.bl x :: xs) L = wBls xs fun bs => L (x :: bs) := by unfold wBls; (show (match (match blsD xs with | some bs => some (x :: bs) | none => none) with | some bs => L bs | none => False) = _); cases blsD xs <;> rfl
theorem blsD_map {a : Type} {f : a → Bool} : ∀ {xs : List a}, blsD (xs.map fun d => .bl (f d)) = some (xs.map f)
  | [] => rfl
  | x :: xs => by show (match blsD (xs.map fun d => .bl (f d)) with | some bs => some (f x :: bs) | none => none) = _; rw [blsD_map]; rfl
theorem bls_map {a : Type} {f : a → Bool} {xs : List a} {L : List Bool → Prop} : wBls (xs.map fun d => .bl (f d)) L = L (xs.map f) := by unfold wBls; rw [blsD_map]
theorem isi_non_bool : wO (isiD [.non, .ty "bool"]) s K = K (.fz (.bl false)) s := by show wO (if (tyNs.contains "NoneType" && tyNs.contains "bool" && "bool" != "NoneType") = true then .val (.bl (isTy "NoneType" "bool")) else .no) s K = _; rw [if_pos (by decide), show isTy "NoneType" "bool" = false from by decide]; rfl
theorem isi_non_int : wO (isiD [.non, .ty "int"]) s K = K (.fz (.bl false)) s := by show wO (if (tyNs.contains "NoneType" && tyNs.contains "int" && "int" != "NoneType") = true then .val (.bl (isTy "NoneType" "int")) else .no) s K = _; rw [if_pos (by decide), show isTy "NoneType" "int" = false from by decide]; rfl
theorem isi_non_str : wO (isiD [.non, .ty "str"]) s K = K (.fz (.bl false)) s := by show wO (if (tyNs.contains "NoneType" && tyNs.contains "str" && "str" != "NoneType") = true then .val (.bl (isTy "NoneType" "str")) else .no) s K = _; rw [if_pos (by decide), show isTy "NoneType" "str" = false from by decide]; rfl
theorem isi_non_tuple : wO (isiD [.non, .ty "tuple"]) s K = K (.fz (.bl false)) s := by show wO (if (tyNs.contains "NoneType" && tyNs.contains "tuple" && "tuple" != "NoneType") = true then .val (.bl (isTy "NoneType" "tuple")) else .no) s K = _; rw [if_pos (by decide), show isTy "NoneType" "tuple" = false from by decide]; rfl
theorem isi_non_list : wO (isiD [.non, .ty "list"]) s K = K (.fz (.bl false)) s := by show wO (if (tyNs.contains "NoneType" && tyNs.contains "list" && "list" != "NoneType") = true then .val (.bl (isTy "NoneType" "list")) else .no) s K = _; rw [if_pos (by decide), show isTy "NoneType" "list" = false from by decide]; rfl
theorem isi_non_dict : wO (isiD [.non, .ty "dict"]) s K = K (.fz (.bl false)) s := by show wO (if (tyNs.contains "NoneType" && tyNs.contains "dict" && "dict" != "NoneType") = true then .val (.bl (isTy "NoneType" "dict")) else .no) s K = _; rw [if_pos (by decide), show isTy "NoneType" "dict" = false from by decide]; rfl
theorem isi_bl_bool {x : Bool} : wO (isiD [.bl x, .ty "bool"]) s K = K (.fz (.bl true)) s := by show wO (if (tyNs.contains "bool" && tyNs.contains "bool" && "bool" != "NoneType") = true then .val (.bl (isTy "bool" "bool")) else .no) s K = _; rw [if_pos (by decide), show isTy "bool" "bool" = true from by decide]; rfl
theorem isi_bl_int {x : Bool} : wO (isiD [.bl x, .ty "int"]) s K = K (.fz (.bl true)) s := by show wO (if (tyNs.contains "bool" && tyNs.contains "int" && "int" != "NoneType") = true then .val (.bl (isTy "bool" "int")) else .no) s K = _; rw [if_pos (by decide), show isTy "bool" "int" = true from by decide]; rfl
theorem isi_bl_str {x : Bool} : wO (isiD [.bl x, .ty "str"]) s K = K (.fz (.bl false)) s := by show wO (if (tyNs.contains "bool" && tyNs.contains "str" && "str" != "NoneType") = true then .val (.bl (isTy "bool" "str")) else .no) s K = _; rw [if_pos (by decide), show isTy "bool" "str" = false from by decide]; rfl
theorem isi_bl_tuple {x : Bool} : wO (isiD [.bl x, .ty "tuple"]) s K = K (.fz (.bl false)) s := by show wO (if (tyNs.contains "bool" && tyNs.contains "tuple" && "tuple" != "NoneType") = true then .val (.bl (isTy "bool" "tuple")) else .no) s K = _; rw [if_pos (by decide), show isTy "bool" "tuple" = false from by decide]; rfl
theorem isi_bl_list {x : Bool} : wO (isiD [.bl x, .ty "list"]) s K = K (.fz (.bl false)) s := by show wO (if (tyNs.contains "bool" && tyNs.contains "list" && "list" != "NoneType") = true then .val (.bl (isTy "bool" "list")) else .no) s K = _; rw [if_pos (by decide), show isTy "bool" "list" = false from by decide]; rfl
theorem isi_bl_dict {x : Bool} : wO (isiD [.bl x, .ty "dict"]) s K = K (.fz (.bl false)) s := by show wO (if (tyNs.contains "bool" && tyNs.contains "dict" && "dict" != "NoneType") = true then .val (.bl (isTy "bool" "dict")) else .no) s K = _; rw [if_pos (by decide), show isTy "bool" "dict" = false from by decide]; rfl
theorem isi_int_bool {x : Int} : wO (isiD [.int x, .ty "bool"]) s K = K (.fz (.bl false)) s := by show wO (if (tyNs.contains "int" && tyNs.contains "bool" && "bool" != "NoneType") = true then .val (.bl (isTy "int" "bool")) else .no) s K = _; rw [if_pos (by decide), show isTy "int" "bool" = false from by decide]; rfl
theorem isi_int_int {x : Int} : wO (isiD [.int x, .ty "int"]) s K = K (.fz (.bl true)) s := by show wO (if (tyNs.contains "int" && tyNs.contains "int" && "int" != "NoneType") = true then .val (.bl (isTy "int" "int")) else .no) s K = _; rw [if_pos (by decide), show isTy "int" "int" = true from by decide]; rfl
theorem isi_int_str {x : Int} : wO (isiD [.int x, .ty "str"]) s K = K (.fz (.bl false)) s := by show wO (if (tyNs.contains "int" && tyNs.contains "str" && "str" != "NoneType") = true then .val (.bl (isTy "int" "str")) else .no) s K = _; rw [if_pos (by decide), show isTy "int" "str" = false from by decide]; rfl
theorem isi_int_tuple {x : Int} : wO (isiD [.int x, .ty "tuple"]) s K = K (.fz (.bl false)) s := by show wO (if (tyNs.contains "int" && tyNs.contains "tuple" && "tuple" != "NoneType") = true then .val (.bl (isTy "int" "tuple")) else .no) s K = _; rw [if_pos (by decide), show isTy "int" "tuple" = false from by decide]; rfl
theorem isi_int_list {x : Int} : wO (isiD [.int x, .ty "list"]) s K = K (.fz (.bl false)) s := by show wO (if (tyNs.contains "int" && tyNs.contains "list" && "list" != "NoneType") = true then .val (.bl (isTy "int" "list")) else .no) s K = _; rw [if_pos (by decide), show isTy "int" "list" = false from by decide]; rfl
theorem isi_int_dict {x : Int} : wO (isiD [.int x, .ty "dict"]) s K = K (.fz (.bl false)) s := by show wO (if (tyNs.contains "int" && tyNs.contains "dict" && "dict" != "NoneType") = true then .val (.bl (isTy "int" "dict")) else .no) s K = _; rw [if_pos (by decide), show isTy "int" "dict" = false from by decide]; rfl
theorem isi_str_bool {x : Str} : wO (isiD [.str x, .ty "bool"]) s K = K (.fz (.bl false)) s := by show wO (if (tyNs.contains "str" && tyNs.contains "bool" && "bool" != "NoneType") = true then .val (.bl (isTy "str" "bool")) else .no) s K = _; rw [if_pos (by decide), show isTy "str" "bool" = false from by decide]; rfl
theorem isi_str_int {x : Str} : wO (isiD [.str x, .ty "int"]) s K = K (.fz (.bl false)) s := by show wO (if (tyNs.contains "str" && tyNs.contains "int" && "int" != "NoneType") = true then .val (.bl (isTy "str" "int")) else .no) s K = _; rw [if_pos (by decide), show isTy "str" "int" = false from by decide]; rfl
theorem isi_str_str {x : Str} : wO (isiD [.str x, .ty "str"]) s K = K (.fz (.bl true)) s := by show wO (if (tyNs.contains "str" && tyNs.contains "str" && "str" != "NoneType") = true then .val (.bl (isTy "str" "str")) else .no) s K = _; rw [if_pos (by decide), show isTy "str" "str" = true from by decide]; rfl
theorem isi_str_tuple {x : Str} : wO (isiD [.str x, .ty "tuple"]) s K = K (.fz (.bl false)) s := by show wO (if (tyNs.contains "str" && tyNs.contains "tuple" && "tuple" != "NoneType") = true then .val (.bl (isTy "str" "tuple")) else .no) s K = _; rw [if_pos (by decide), show isTy "str" "tuple" = false from by decide]; rfl
theorem isi_str_list {x : Str} : wO (isiD [.str x, .ty "list"]) s K = K (.fz (.bl false)) s := by show wO (if (tyNs.contains "str" && tyNs.contains "list" && "list" != "NoneType") = true then .val (.bl (isTy "str" "list")) else .no) s K = _; rw [if_pos (by decide), show isTy "str" "list" = false from by decide]; rfl
theorem isi_str_dict {x : Str} : wO (isiD [.str x, .ty "dict"]) s K = K (.fz (.bl false)) s := by show wO (if (tyNs.contains "str" && tyNs.contains "dict" && "dict" != "NoneType") = true then .val (.bl (isTy "str" "dict")) else .no) s K = _; rw [if_pos (by decide), show isTy "str" "dict" = false from by decide]; rfl
theorem isi_tup_bool {x : List D} : wO (isiD [.tup x, .ty "bool"]) s K = K (.fz (.bl false)) s := by show wO (if (tyNs.contains "tuple" && tyNs.contains "bool" && "bool" != "NoneType") = true then .val (.bl (isTy "tuple" "bool")) else .no) s K = _; rw [if_pos (by decide), show isTy "tuple" "bool" = false from by decide]; rfl
theorem isi_tup_int {x : List D} : wO (isiD [.tup x, .ty "int"]) s K = K (.fz (.bl false)) s := by show wO (if (tyNs.contains "tuple" && tyNs.contains "int" && "int" != "NoneType") = true then .val (.bl (isTy "tuple" "int")) else .no) s K = _; rw [if_pos (by decide), show isTy "tuple" "int" = false from by decide]; rfl
theorem isi_tup_str {x : List D} : wO (isiD [.tup x, .ty "str"]) s K = K (.fz (.bl false)) s := by show wO (if (tyNs.contains "tuple" && tyNs.contains "str" && "str" != "NoneType") = true then .val (.bl (isTy "tuple" "str")) else .no) s K = _; rw [if_pos (by decide), show isTy "tuple" "str" = false from by decide]; rfl
theorem isi_tup_tuple {x : List D} : wO (isiD [.tup x, .ty "tuple"]) s K = K (.fz (.bl true)) s := by show wO (if (tyNs.contains "tuple" && tyNs.contains "tuple" && "tuple" != "NoneType") = true then .val (.bl (isTy "tuple" "tuple")) else .no) s K = _; rw [if_pos (by decide), show isTy "tuple" "tuple" = true from by decide]; rfl
theorem isi_tup_list {x : List D} : wO (isiD [.tup x, .ty "list"]) s K = K (.fz (.bl false)) s := by show wO (if (tyNs.contains "tuple" && tyNs.contains "list" && "list" != "NoneType") = true then .val (.bl (isTy "tuple" "list")) else .no) s K = _; rw [if_pos (by decide), show isTy "tuple" "list" = false from by decide]; rfl
theorem isi_tup_dict {x : List D} : wO (isiD [.tup x, .ty "dict"]) s K = K (.fz (.bl false)) s := by show wO (if (tyNs.contains "tuple" && tyNs.contains "dict" && "dict" != "NoneType") = true then .val (.bl (isTy "tuple" "dict")) else .no) s K = _; rw [if_pos (by decide), show isTy "tuple" "dict" = false from by decide]; rfl
theorem isi_lst_bool {x : List D} : wO (isiD [.lst x, .ty "bool"]) s K = K (.fz (.bl false)) s := by show wO (if (tyNs.contains "list" && tyNs.contains "bool" && "bool" != "NoneType") = true then .val (.bl (isTy "list" "bool")) else .no) s K = _; rw [if_pos (by decide), show isTy "list" "bool" = false from by decide]; rfl
theorem isi_lst_int {x : List D} : wO (isiD [.lst x, .ty "int"]) s K = K (.fz (.bl false)) s := by show wO (if (tyNs.contains "list" && tyNs.contains "int" && "int" != "NoneType") = true then .val (.bl (isTy "list" "int")) else .no) s K = _; rw [if_pos (by decide), show isTy "list" "int" = false from by decide]; rfl
theorem isi_lst_str {x : List D} : wO (isiD [.lst x, .ty "str"]) s K = K (.fz (.bl false)) s := by show wO (if (tyNs.contains "list" && tyNs.contains "str" && "str" != "NoneType") = true then .val (.bl (isTy "list" "str")) else .no) s K = _; rw [if_pos (by decide), show isTy "list" "str" = false from by decide]; rfl
theorem isi_lst_tuple {x : List D} : wO (isiD [.lst x, .ty "tuple"]) s K = K (.fz (.bl false)) s := by show wO (if (tyNs.contains "list" && tyNs.contains "tuple" && "tuple" != "NoneType") = true then .val (.bl (isTy "list" "tuple")) else .no) s K = _; rw [if_pos (by decide), show isTy "list" "tuple" = false from by decide]; rfl
theorem isi_lst_list {x : List D} : wO (isiD [.lst x, .ty "list"]) s K = K (.fz (.bl true)) s := by show wO (if (tyNs.contains "list" && tyNs.contains "list" && "list" != "NoneType") = true then .val (.bl (isTy "list" "list")) else .no) s K = _; rw [if_pos (by decide), show isTy "list" "list" = true from by decide]; rfl
theorem isi_lst_dict {x : List D} : wO (isiD [.lst x, .ty "dict"]) s K = K (.fz (.bl false)) s := by show wO (if (tyNs.contains "list" && tyNs.contains "dict" && "dict" != "NoneType") = true then .val (.bl (isTy "list" "dict")) else .no) s K = _; rw [if_pos (by decide), show isTy "list" "dict" = false from by decide]; rfl
theorem isi_dic_bool {x : List (D × D)} : wO (isiD [.dic x, .ty "bool"]) s K = K (.fz (.bl false)) s := by show wO (if (tyNs.contains "dict" && tyNs.contains "bool" && "bool" != "NoneType") = true then .val (.bl (isTy "dict" "bool")) else .no) s K = _; rw [if_pos (by decide), show isTy "dict" "bool" = false from by decide]; rfl
theorem isi_dic_int {x : List (D × D)} : wO (isiD [.dic x, .ty "int"]) s K = K (.fz (.bl false)) s := by show wO (if (tyNs.contains "dict" && tyNs.contains "int" && "int" != "NoneType") = true then .val (.bl (isTy "dict" "int")) else .no) s K = _; rw [if_pos (by decide), show isTy "dict" "int" = false from by decide]; rfl
theorem isi_dic_str {x : List (D × D)} : wO (isiD [.dic x, .ty "str"]) s K = K (.fz (.bl false)) s := by show wO (if (tyNs.contains "dict" && tyNs.contains "str" && "str" != "NoneType") = true then .val (.bl (isTy "dict" "str")) else .no) s K = _; rw [if_pos (by decide), show isTy "dict" "str" = false from by decide]; rfl
theorem isi_dic_tuple {x : List (D × D)} : wO (isiD [.dic x, .ty "tuple"]) s K = K (.fz (.bl false)) s := by show wO (if (tyNs.contains "dict" && tyNs.contains "tuple" && "tuple" != "NoneType") = true then .val (.bl (isTy "dict" "tuple")) else .no) s K = _; rw [if_pos (by decide), show isTy "dict" "tuple" = false from by decide]; rfl
theorem isi_dic_list {x : List (D × D)} : wO (isiD [.dic x, .ty "list"]) s K = K (.fz (.bl false)) s := by show wO (if (tyNs.contains "dict" && tyNs.contains "list" && "list" != "NoneType") = true then .val (.bl (isTy "dict" "list")) else .no) s K = _; rw [if_pos (by decide), show isTy "dict" "list" = false from by decide]; rfl
theorem isi_dic_dict {x : List (D × D)} : wO (isiD [.dic x, .ty "dict"]) s K = K (.fz (.bl true)) s := by show wO (if (tyNs.contains "dict" && tyNs.contains "dict" && "dict" != "NoneType") = true then .val (.bl (isTy "dict" "dict")) else .no) s K = _; rw [if_pos (by decide), show isTy "dict" "dict" = true from by decide]; rfl
theorem isi_scr_bool {x : List Int} : wO (isiD [.scr x, .ty "bool"]) s K = K (.fz (.bl false)) s := by show wO (if (tyNs.contains "list" && tyNs.contains "bool" && "bool" != "NoneType") = true then .val (.bl (isTy "list" "bool")) else .no) s K = _; rw [if_pos (by decide), show isTy "list" "bool" = false from by decide]; rfl
theorem isi_scr_int {x : List Int} : wO (isiD [.scr x, .ty "int"]) s K = K (.fz (.bl false)) s := by show wO (if (tyNs.contains "list" && tyNs.contains "int" && "int" != "NoneType") = true then .val (.bl (isTy "list" "int")) else .no) s K = _; rw [if_pos (by decide), show isTy "list" "int" = false from by decide]; rfl
theorem isi_scr_str {x : List Int} : wO (isiD [.scr x, .ty "str"]) s K = K (.fz (.bl false)) s := by show wO (if (tyNs.contains "list" && tyNs.contains "str" && "str" != "NoneType") = true then .val (.bl (isTy "list" "str")) else .no) s K = _; rw [if_pos (by decide), show isTy "list" "str" = false from by decide]; rfl
theorem isi_scr_tuple {x : List Int} : wO (isiD [.scr x, .ty "tuple"]) s K = K (.fz (.bl false)) s := by show wO (if (tyNs.contains "list" && tyNs.contains "tuple" && "tuple" != "NoneType") = true then .val (.bl (isTy "list" "tuple")) else .no) s K = _; rw [if_pos (by decide), show isTy "list" "tuple" = false from by decide]; rfl
theorem isi_scr_list {x : List Int} : wO (isiD [.scr x, .ty "list"]) s K = K (.fz (.bl true)) s := by show wO (if (tyNs.contains "list" && tyNs.contains "list" && "list" != "NoneType") = true then .val (.bl (isTy "list" "list")) else .no) s K = _; rw [if_pos (by decide), show isTy "list" "list" = true from by decide]; rfl
theorem isi_scr_dict {x : List Int} : wO (isiD [.scr x, .ty "dict"]) s K = K (.fz (.bl false)) s := by show wO (if (tyNs.contains "list" && tyNs.contains "dict" && "dict" != "NoneType") = true then .val (.bl (isTy "list" "dict")) else .no) s K = _; rw [if_pos (by decide), show isTy "list" "dict" = false from by decide]; rfl
theorem wLp0n {p : GX} {h : SX} : wLp p h [] s N TT E = N s := rfl
theorem wLp1n {p : GX} {h : SX} {ds : List D} : wLp p h (d :: ds) s N TT E = wG p (.fz d) s fun s1 => wS (h s1) (fun s2 => wLp p h ds s2 N TT E) TT N (fun s2 => wLp p h ds s2 N TT E) E := rfl
end En

set_option Elab.async false
set_option linter.all false
set_option maxRecDepth 100000
set_option maxHeartbeats 4000000
/-! Tx: texts as lists of signs. -/
namespace Tx
open PySem PySem.Spec PyProof.Rows L2 Fw En SX
variable {st : List Cell} {s : S} {K : RV → S → Prop} {E : Ex → S → Prop}
/-- the figures of a whole number -/
def itx (a : Int) : List Nat := if a < 0 then 45 :: TL.numL a.natAbs else TL.numL a.natAbs
theorem itx_pos {n : Nat} : itx (n : Int) = TL.numL n := by
  unfold itx; rw [if_neg (by omega), Int.natAbs_natCast]
theorem itx_neg {n : Nat} (h : 0 < n) : itx (-(n : Int)) = 45 :: TL.numL n := by
  unfold itx; rw [if_pos (by omega), Int.natAbs_neg, Int.natAbs_natCast]
theorem ofS_toS (x : String) : Str.ofString x = ⟨(x.toList.map Char.toNat).toArray⟩ := Str.ofString_eq_toList x
theorem str_int (a : Int) : Str.ofString (toString a) = SX.S (itx a) := by
  cases a with
  | ofNat n =>
    show Str.ofString (toString ((n : Nat) : Int)) = SX.S (itx ((n : Nat) : Int))
    rw [itx_pos, ← TL.tl_num n]
    try exact (SX.S_tl _).symm
  | negSucc n =>
    have e : itx (Int.negSucc n) = 45 :: TL.numL (n + 1) := by
      rw [Int.negSucc_eq, show -((n : Int) + 1) = -((n + 1 : Nat) : Int) by omega, itx_neg (by omega)]
    rw [e, ofS_toS]
    have e2 : (toString (Int.negSucc n)).toList = '-' :: Nat.toDigits 10 (n + 1) := by
      show ("-" ++ Nat.repr (n + 1)).toList = _
      rw [String.toList_append, Nat.toList_repr]
      rfl
    rw [e2]
    rfl
theorem itx_len {a : Int} {k : Nat} (hk : 0 < k) (h : a.natAbs < 10 ^ k) : (itx a).length ≤ k + 1 := by
  unfold itx
  have := TL.numL_len hk h
  split
  · rw [List.length_cons]; omega
  · omega
theorem itx_ne (a : Int) : itx a ≠ [] := by
  unfold itx
  split
  · simp
  · exact TL.numL_ne _
/-- signs that this model can hold -/
def okT (l : List Nat) : Prop := ∀ c ∈ l, c < 1114112
theorem okS {l : List Nat} (h : okT l) : PyData.strOk (SX.S l) = true := by
  unfold PyData.strOk SX.S
  rw [← Array.all_toList]
  exact List.all_eq_true.mpr fun c hc => decide_eq_true (h c hc)
theorem numL_lt {n c : Nat} (h : c ∈ TL.numL n) : 48 ≤ c ∧ c ≤ 57 := TL.numL_digits n c h
theorem itx_sign {a : Int} {c : Nat} (h : c ∈ itx a) : c = 45 ∨ 48 ≤ c ∧ c ≤ 57 := by
  unfold itx at h
  split at h
  · rcases List.mem_cons.mp h with h | h
    · exact .inl h
    · exact .inr (numL_lt h)
  · exact .inr (numL_lt h)
theorem itx_ok (a : Int) : okT (itx a) := fun c hc => by have := itx_sign hc; omega
theorem okT_app {a b : List Nat} (h : okT a) (k : okT b) : okT (a ++ b) := fun c hc => by
  rcases List.mem_append.mp hc with q | q
  · exact h c q
  · exact k c q
theorem okT_sub {a b : List Nat} (h : okT b) (k : ∀ c ∈ a, c ∈ b) : okT a := fun c hc => h c (k c hc)
theorem itx_inj {a b : Int} (h : itx a = itx b) : a = b := by
  have n45 : ∀ n : Nat, 45 ∉ TL.numL n := fun n => TL.numL_free (by omega)
  unfold itx at h
  by_cases c : a < 0 <;> by_cases d : b < 0
  · rw [if_pos c, if_pos d] at h
    have := TL.numL_inj (List.cons.inj h).2
    omega
  · rw [if_pos c, if_neg d] at h
    exact absurd (show (45 : Nat) ∈ TL.numL b.natAbs by rw [← h]; exact List.mem_cons_self) (n45 _)
  · rw [if_neg c, if_pos d] at h
    exact absurd (show (45 : Nat) ∈ TL.numL a.natAbs by rw [h]; exact List.mem_cons_self) (n45 _)
  · rw [if_neg c, if_neg d] at h
    have := TL.numL_inj h
    omega
theorem wCp_fm {a : Type} {p : GX} {gt : TX} {ge : EX} {vs : List Nat} {g : a → D} (o : a → Option D) {l : List a} {L : List D → S → Prop} (h1 : ∀ x ∈ l, ∀ M : Option D → S → Prop, cStep p gt ge vs (g x) s M = M (o x) s) (hl : l.length ≤ 1000000) : wCp p gt ge vs (l.map g) [] s L = L (l.filterMap o) s := by
  have go : ∀ (ys xs : List a) (acc : List D), l = xs ++ ys → acc.length ≤ xs.length → wCp p gt ge vs (ys.map g) acc s L = L (acc ++ ys.filterMap o) s := by
    intro ys
    induction ys with
    | nil => intro xs acc e ha; rw [List.filterMap_nil, List.append_nil]; rfl
    | cons y ys ih =>
      intro xs acc e ha
      have hx : xs.length < 1000000 := by rw [e, List.length_append, List.length_cons] at hl; omega
      rw [List.map_cons, wCp1 (by omega), h1 y (by rw [e]; simp), ih (xs ++ [y]) _ (by rw [e]; simp) (by cases o y <;> simp <;> omega), List.filterMap_cons]
      cases o y <;> simp
  exact go l [] [] rfl (Nat.le_refl _)
theorem wCp_map {a : Type} {p : GX} {gt : TX} {ge : EX} {vs : List Nat} {g : a → D} (f : a → D) {l : List a} {L : List D → S → Prop} (h1 : ∀ x ∈ l, ∀ M : Option D → S → Prop, cStep p gt ge vs (g x) s M = M (some (f x)) s) (hl : l.length ≤ 1000000) : wCp p gt ge vs (l.map g) [] s L = L (l.map f) s := by
  rw [wCp_fm (fun x => some (f x)) h1 hl]
  congr 1
  induction l with
  | nil => rfl
  | cons x l ih => rw [List.filterMap_cons, List.map_cons]; exact congrArg (f x :: ·) (ih (fun y hy => h1 y (List.mem_cons_of_mem _ hy)) (by simp at hl; omega))
/-! rules -/
theorem q_str {i : Int} (h : i.natAbs < 2 ^ 250) : wO (strD [.int i]) s K = K (.fz (.str (SX.S (itx i)))) s := by
  rw [← str_int]; exact q_stri (Nat.lt_trans h (Nat.pow_lt_pow_right (by decide) (by decide)))
theorem q_fmt {i : Int} (h : i.natAbs < 2 ^ 250) : wO (fmtD (.int i)) s K = K (.fz (.str (SX.S (itx i)))) s := by
  rw [← str_int]; exact q_fmti (Nat.lt_trans h (Nat.pow_lt_pow_right (by decide) (by decide)))
theorem q_fmtS {l : List Nat} (h : l.length ≤ 1000000) : wO (fmtD (.str (SX.S l))) s K = K (.fz (.str (SX.S l))) s := q_fmts (by rw [SX.S_len]; exact h)
theorem q_catS {a b : List Nat} (h : a.length + b.length ≤ 1000000) : wO (binD .Add (.str (SX.S a)) (.str (SX.S b))) s K = K (.fz (.str (SX.S (a ++ b)))) s := by
  rw [← SX.S_cat]; exact q_cat (by rw [SX.S_len, SX.S_len]; exact h)
theorem q_eqS {a b : List Nat} (ha : okT a) (hb : okT b) : wO (cmpD .Eq (.str (SX.S a)) (.str (SX.S b))) s K = K (.fz (.bl (decide (a = b)))) s := by
  rw [q_eqs (okS ha) (okS hb)]
  congr 3
  exact decide_eq_decide.mpr ⟨SX.S_inj, fun h => by rw [h]⟩
theorem q_neS {a b : List Nat} (ha : okT a) (hb : okT b) : wO (cmpD .NotEq (.str (SX.S a)) (.str (SX.S b))) s K = K (.fz (.bl (!decide (a = b)))) s := by
  rw [q_nes (okS ha) (okS hb)]
  congr 4
  exact decide_eq_decide.mpr ⟨SX.S_inj, fun h => by rw [h]⟩
theorem q_toS {l : List Nat} {i : Int} (h : 0 ≤ i) (hl : l.length ≤ 1000000) : wO (slD (.str (SX.S l)) none (some i)) s K = K (.fz (.str (SX.S (l.take i.toNat)))) s := by
  rw [q_sls (by rw [SX.S_len]; exact hl), C8.cutS_slice, SX.slice_to h]
theorem q_fromS {l : List Nat} {i : Int} (h : 0 ≤ i) (hl : l.length ≤ 1000000) : wO (slD (.str (SX.S l)) (some i) none) s K = K (.fz (.str (SX.S (l.drop i.toNat)))) s := by
  rw [q_sls (by rw [SX.S_len]; exact hl), C8.cutS_slice, SX.slice_from h]
theorem q_lenS {l : List Nat} (hl : l.length ≤ 1000000) : wO (lenD [.str (SX.S l)]) s K = K (.fz (.int (l.length : Int))) s := by
  rw [q_lens (by rw [SX.S_len]; exact hl), SX.S_len]
theorem signs_S (l : List Nat) : signsD (SX.S l) = l.map fun c => D.str (SX.S [c]) := rfl
theorem it_S {l : List Nat} {L : List D → Prop} : wItems (.str (SX.S l)) L = L (l.map fun c => D.str (SX.S [c])) := rfl
theorem q_inS {c : Nat} {l : List Nat} : wO (cmpD .In (.str (SX.S [c])) (.str (SX.S l))) s K = K (.fz (.bl (decide (c ∈ l)))) s := rfl
theorem q_notInS {c : Nat} {l : List Nat} : wO (cmpD .NotIn (.str (SX.S [c])) (.str (SX.S l))) s K = K (.fz (.bl (!decide (c ∈ l)))) s := rfl
theorem js_S {ga : EX} {gs : List EX} {l : List Nat} : wR (gJs (ga :: gs) (SX.S l) s) K E = wR (ga s) (fun r s1 => wL s1 r fun d => wStr d fun y => wSz ((SX.S l) ++ y).length (wR (gJs gs ((SX.S l) ++ y) s1) K E)) E := js1
theorem S_nil : Str.empty = SX.S [] := rfl
theorem q_partN {c : Nat} {l : List Nat} (h : c ∉ l) (hl : l.length ≤ 1000000) : wO (partD (.str (SX.S l)) [.str (SX.S [c])]) s K = K (.fz (.tup [.str (SX.S l), .str (SX.S []), .str (SX.S [])])) s := by
  show wO (if (!((SX.S [c]).length == 0) && sz (SX.S l).length) = true then _ else _) s K = _
  rw [SX.S_len, SX.S_len, if_pos (by rw [sz_ok hl]; rfl), SX.partition_none (by simp) (SX.par_head_none h)]; rfl
theorem q_partS {c : Nat} {p q : List Nat} (h : c ∉ p) (hl : p.length + q.length + 1 ≤ 1000000) : wO (partD (.str (SX.S (p ++ c :: q))) [.str (SX.S [c])]) s K = K (.fz (.tup [.str (SX.S p), .str (SX.S [c]), .str (SX.S q)])) s := by
  show wO (if (!((SX.S [c]).length == 0) && sz (SX.S (p ++ c :: q)).length) = true then _ else _) s K = _
  have e : Txt.partition (SX.S (p ++ c :: q)) (SX.S [c]) = (SX.S p, SX.S [c], SX.S q) := SX.partition_some (by simp) (SX.par_head q h)
  rw [SX.S_len, SX.S_len, if_pos (by rw [sz_ok (by simp; omega)]; rfl), e]; rfl
theorem split_at {c : Nat} : ∀ {l : List Nat}, c ∈ l → ∃ p q, l = p ++ c :: q ∧ c ∉ p
  | [], h => by cases h
  | d :: l, h => by
    by_cases e : d = c
    · subst e; exact ⟨[], l, rfl, List.not_mem_nil⟩
    · rcases List.mem_cons.mp h with h | h
      · exact absurd h.symm e
      · obtain ⟨p, q, rfl, k⟩ := split_at h
        exact ⟨d :: p, q, rfl, fun z => by rcases List.mem_cons.mp z with z | z; exact e z.symm; exact k z⟩
/-! a number's figures, read -/
def figs (w : List Nat) : Bool := w.all fun c => decide (48 ≤ c ∧ c ≤ 57)
def numW (w : List Nat) : Option Nat := if w ≠ [] ∧ figs w = true ∧ (w.head? ≠ some 48 ∨ w = [48]) then some (NumText.digitsVal w) else none
theorem figs_all {w : List Nat} : figs w = true ↔ NumText.AllDigits w := by
  unfold figs NumText.AllDigits
  rw [List.all_eq_true]
  exact ⟨fun h c hc => of_decide_eq_true (h c hc), fun h c hc => decide_eq_true (h c hc)⟩
theorem digs_app (w : List Nat) (c : Nat) : NumText.digitsVal (w ++ [c]) = NumText.digitsVal w * 10 + (c - 48) := by
  unfold NumText.digitsVal; rw [List.foldl_append]; rfl
theorem numL_head (n : Nat) : (TL.numL n).head? ≠ some 48 ∨ TL.numL n = [48] := by
  induction n using Nat.strongRecOn with
  | _ n ih =>
    by_cases h : n < 10
    · rw [TL.numL_lt h]
      by_cases z : n = 0
      · subst z; exact .inr rfl
      · left; simp; exact z
    · rw [TL.numL_step (by omega)]
      rcases ih (n / 10) (by omega) with q | q
      · left
        cases e : TL.numL (n / 10) with
        | nil => exact absurd e (TL.numL_ne _)
        | cons c r => rw [e] at q; exact q
      · exfalso
        have e := TL.numL_val (n / 10)
        rw [q] at e
        have : NumText.digitsVal [48] = 0 := rfl
        omega
theorem numW_num (n : Nat) : numW (TL.numL n) = some n := by
  unfold numW
  rw [if_pos ⟨TL.numL_ne n, figs_all.mpr (TL.numL_digits n), numL_head n⟩, TL.numL_val]
theorem rev_ind {P : List Nat → Prop} (h0 : P []) (h1 : ∀ w c, P w → P (w ++ [c])) (w : List Nat) : P w := by
  have go : ∀ v : List Nat, P v.reverse := fun v => by
    induction v with
    | nil => exact h0
    | cons c v ih => rw [List.reverse_cons]; exact h1 _ c ih
  have := go w.reverse
  rw [List.reverse_reverse] at this
  exact this
theorem digs_lt : ∀ (w : List Nat), NumText.AllDigits w → NumText.digitsVal w < 10 ^ w.length := by
  intro w
  refine rev_ind (P := fun w => NumText.AllDigits w → NumText.digitsVal w < 10 ^ w.length) (fun _ => by decide) (fun w c ih => ?_) w
  · intro h
    have h1 := ih fun d hd => h d (List.mem_append.mpr (.inl hd))
    have h2 := h c (by simp)
    rw [digs_app, List.length_append, List.length_singleton, Nat.pow_succ]
    omega
/-- figures without a nought ahead are those of what they are worth -/
theorem numL_digs : ∀ (w : List Nat), NumText.AllDigits w → w ≠ [] → (w.head? ≠ some 48 ∨ w = [48]) → TL.numL (NumText.digitsVal w) = w := by
  intro w
  refine rev_ind (P := fun w => NumText.AllDigits w → w ≠ [] → (w.head? ≠ some 48 ∨ w = [48]) → TL.numL (NumText.digitsVal w) = w) (fun _ h => absurd rfl h) (fun w c ih => ?_) w
  · intro h _ h3
    have h2 := h c (by simp)
    rw [digs_app]
    by_cases e : w = []
    · subst e
      show TL.numL (NumText.digitsVal [] * 10 + (c - 48)) = [c]
      rw [show NumText.digitsVal [] = 0 from rfl, TL.numL_lt (by omega)]
      simp; omega
    · have hw : w.head? ≠ some 48 := by
        rcases h3 with h3 | h3
        · cases w with
          | nil => exact absurd rfl e
          | cons x y => exact h3
        · have := congrArg List.length h3
          cases w with
          | nil => exact absurd rfl e
          | cons x y => simp at this
      have i := ih (fun d hd => h d (List.mem_append.mpr (.inl hd))) e (.inl hw)
      have pos : 0 < NumText.digitsVal w := by
        rcases Nat.eq_zero_or_pos (NumText.digitsVal w) with z | z
        · rw [z] at i
          have : w = [48] := by rw [← i]; rfl
          rw [this] at hw
          exact absurd rfl hw
        · exact z
      rw [TL.numL_step (by omega), show (NumText.digitsVal w * 10 + (c - 48)) / 10 = NumText.digitsVal w by omega, i, show (NumText.digitsVal w * 10 + (c - 48)) % 10 = c - 48 by omega, show 48 + (c - 48) = c by omega]
theorem numW_eq {w : List Nat} {n : Nat} (h : numW w = some n) : w = TL.numL n := by
  unfold numW at h
  split at h
  · next c => cases h; exact (numL_digs w (figs_all.mp c.2.1) c.1 c.2.2).symm
  · cases h
theorem q_at0S {c : Nat} {r : List Nat} (h : (c :: r).length ≤ 1000000) : wO (atD (.str (SX.S (c :: r))) (.int 0)) s K = K (.fz (.str (SX.S [c]))) s := by
  show wO (if sz (SX.S (c :: r)).length then (match L2.atI (c :: r) 0 with | some c => .val (.str ⟨#[c]⟩) | none => .no) else .no) s K = _
  rw [if_pos (sz_ok (by rw [SX.S_len]; exact h)), show L2.atI (c :: r) 0 = some c from by unfold L2.atI L2.ixN; rw [if_pos (by decide), if_pos (by simp only [List.length_cons]; omega)]; rfl]; rfl
theorem q_intS {w : List Nat} (h : NumText.AllDigits w) (h1 : w ≠ []) (h2 : w.length ≤ 640) : wO (Fw.intD [.str (SX.S w)]) s K = K (.fz (.int (NumText.digitsVal w))) s := by
  have e : intText? (SX.S w) = some ((NumText.digitsVal w : Nat) : Int) := intText_digits h h1 (by rw [SX.S_len]; omega)
  show wO (match intText? (SX.S w) with | some n => if strLe 640 (SX.S w) then .val (.int n) else .no | none => .no) s K = _
  rw [e]
  show wO (if strLe 640 (SX.S w) then .val (.int _) else .no) s K = _
  rw [if_pos (by unfold strLe; rw [SX.S_len]; exact decide_eq_true h2)]; rfl
end Tx

set_option Elab.async false
set_option linter.all false
set_option maxRecDepth 100000
set_option maxHeartbeats 4000000
/-! Rp: things small enough to be shown. -/
namespace Rp
open PySem PySem.Spec PyProof.Rows L2 Fw En Tx
def smE (e : D × D) : Bool := match e with
  | (.int i, .int j) => decide (i.natAbs < 2 ^ 250) && decide (j.natAbs < 2 ^ 250)
  | _ => false
def sm : Nat → D → Bool
  | _, .non => true
  | _, .bl _ => true
  | _, .int i => decide (i.natAbs < 2 ^ 250)
  | _, .str x => decide (x.length ≤ 60) && PyData.strOk x
  | k + 1, .tup xs => decide (xs.length ≤ 26) && xs.all (sm k)
  | k + 1, .lst xs => decide (xs.length ≤ 26) && xs.all (sm k)
  | _, .dic es => decide (es.length ≤ 2) && es.all smE
  | _, _ => false
def bnd : Nat → Nat
  | 0 => 810
  | k + 1 => 26 * bnd k + 60
def ok1 (x : Str) : Prop := PyData.strOk x = true
theorem ok1_iff {x : Str} : ok1 x ↔ ∀ c ∈ x.cps.toList, c < 1114112 := by
  unfold ok1 PyData.strOk
  rw [← Array.all_toList, List.all_eq_true]
  exact ⟨fun h c hc => of_decide_eq_true (h c hc), fun h c hc => decide_eq_true (h c hc)⟩
theorem char_lt (c : Char) : c.toNat < 1114112 := by
  have h := c.valid
  unfold UInt32.isValidChar Nat.isValidChar at h
  show c.val.toNat < 1114112
  omega
theorem ok1_str (x : String) : ok1 (Str.ofString x) := ok1_iff.mpr fun c hc => by
  rw [ofS_toS] at hc
  obtain ⟨d, _, rfl⟩ := List.mem_map.mp (show c ∈ x.toList.map Char.toNat from hc)
  exact char_lt d
theorem ok1_app {x y : Str} (h : ok1 x) (k : ok1 y) : ok1 (x ++ y) := ok1_iff.mpr fun c hc => by
  have e : (x ++ y).cps.toList = x.cps.toList ++ y.cps.toList := TL.tl_append x y
  rw [e] at hc
  rcases List.mem_append.mp hc with q | q
  · exact ok1_iff.mp h c q
  · exact ok1_iff.mp k c q
theorem ok1_join {s : Str} (hs : ok1 s) : ∀ ts : List Str, (∀ t ∈ ts, ok1 t) → ok1 (Str.join s ts)
  | [], _ => ok1_iff.mpr fun c hc => by cases hc
  | [x], h => h x List.mem_cons_self
  | x :: y :: r, h => ok1_app (ok1_app (h x List.mem_cons_self) hs) (ok1_join hs (y :: r) fun t ht => h t (List.mem_cons_of_mem _ ht))
theorem ok1_from : ∀ (ts : List Str) (k : Nat) (acc : Str), ok1 acc → (∀ t ∈ ts, ok1 t) → ok1 (textFrom k acc ts)
  | [], _, _, h, _ => h
  | t :: ts, k, acc, h, h2 => ok1_from ts (k + 1) _ (ok1_app (ok1_app h (ok1_str _)) (h2 t List.mem_cons_self)) fun u hu => h2 u (List.mem_cons_of_mem _ hu)
theorem ok1_char (q c : Nat) (hc : c < 1114112) : ∀ x ∈ Builtin.Str.reprChar q c, x < 1114112 := by
  have hex : ∀ w : Nat, ∀ x ∈ (List.replicate (w - ((Nat.toDigits 16 c).map Char.toNat).length) 48 ++ (Nat.toDigits 16 c).map Char.toNat), x < 1114112 := fun w x hx => by
    rcases List.mem_append.mp hx with q | q
    · rw [List.eq_of_mem_replicate q]; decide
    · obtain ⟨d, _, rfl⟩ := List.mem_map.mp q
      exact char_lt d
  intro x hx
  unfold Builtin.Str.reprChar at hx
  dsimp only at hx
  repeat' split at hx
  all_goals first
    | (simp only [List.mem_cons, List.not_mem_nil, or_false] at hx; omega)
    | exact (List.mem_append.mp hx).elim (fun q => by simp only [List.mem_cons, List.not_mem_nil, or_false] at q; omega) (fun q => hex _ x q)
theorem ok1_repr {x : Str} (h : ok1 x) : ok1 (reprText x) := by
  have go : ∀ (l : List Nat) (acc : Array Nat) (q : Nat), (∀ c ∈ l, c < 1114112) → (∀ c ∈ acc.toList, c < 1114112) → ∀ c ∈ (l.foldl (fun out c => out ++ (Builtin.Str.reprChar q c).toArray) acc).toList, c < 1114112 := by
    intro l
    induction l with
    | nil => intro acc q _ h; exact h
    | cons d l ih =>
      intro acc q h1 h2
      refine ih _ q (fun c hc => h1 c (List.mem_cons_of_mem _ hc)) fun c hc => ?_
      rw [Array.toList_append] at hc
      rcases List.mem_append.mp hc with z | z
      · exact h2 c z
      · exact ok1_char q d (h1 d List.mem_cons_self) c (by simpa using z)
  have hq : reprQuote x < 1114112 := by unfold reprQuote; split <;> decide
  refine ok1_iff.mpr fun c hc => ?_
  unfold reprText at hc
  have hc : c ∈ (Array.push _ _).toList := hc
  rw [Array.toList_push] at hc
  rcases List.mem_append.mp hc with z | z
  · rw [← Array.foldl_toList] at z
    exact go _ _ _ (ok1_iff.mp h) (fun c hc => by simp at hc; omega) c z
  · rw [List.mem_singleton.mp z]; exact hq
structure Sh (k : Nat) (d : D) (p : PyData) : Prop where
  ok : ok1 p.shown
  to : toR d = some p
  sh : p.showable = true
  ln : p.shown.length ≤ bnd k
  dp : p.depth ≤ k + 1
theorem small_lenT {a : Int} (h : a.natAbs < 2 ^ 250) : (itx a).length ≤ 101 := itx_len (by decide) (Nat.lt_trans h (by decide))
theorem rt_len {x : Str} (h : PyData.strOk x = true) : (reprText x).length ≤ 10 * x.length + 2 := by
  have h1 : ∀ c ∈ x.cps.toList, c < 16 ^ 8 := by
    intro c hc
    have := (Array.all_eq_true_iff_forall_mem.mp h) c (Array.mem_toList_iff.mp hc)
    have : c < 0x110000 := by simpa using this
    have e : (16 : Nat) ^ 8 = 4294967296 := by decide
    omega
  have q := PySem.StrLaws.foldl_repr_len (reprQuote x) x.cps.toList #[reprQuote x] h1
  rw [Array.foldl_toList] at q
  unfold reprText
  show (Array.push _ _).size ≤ _
  rw [Array.size_push]
  have e : x.cps.toList.length = x.length := Array.length_toList
  have e2 : (#[reprQuote x] : Array Nat).size = 1 := rfl
  omega
theorem bnd0 (k : Nat) : 810 ≤ bnd k := by
  induction k with
  | zero => exact Nat.le_refl _
  | succ k ih => unfold bnd; omega
theorem shI {k : Nat} {i : Int} (h : i.natAbs < 2 ^ 250) : Sh k (.int i) (.int i) := by
  have l := small_lenT h
  refine ⟨ok1_str _, rfl, ?_, ?_, Nat.zero_le _⟩
  · show decide (i.natAbs.log2 < 1920) = true
    exact decide_eq_true (Nat.lt_trans (log_small h (by decide)) (by decide))
  · show (Str.ofString (toString i)).length ≤ _
    rw [str_int, SX.S_len]
    have := bnd0 k
    omega
theorem shS {k : Nat} {x : Str} (h : x.length ≤ 60) (ok : PyData.strOk x = true) : Sh k (.str x) (.str x) := by
  refine ⟨ok1_repr ok, rfl, rfl, ?_, Nat.zero_le _⟩
  have := rt_len ok
  have := bnd0 k
  show (reprText x).length ≤ _
  omega
theorem shE {es : List (D × D)} (h : es.all smE = true) : ∃ ps, toRe es = some ps ∧ PyData.showableKv ps = true ∧ ((PyData.shownKv ps).map (·.length)).sum ≤ 204 * es.length ∧ (PyData.shownKv ps).length = es.length ∧ PyData.depthKv ps = 0 ∧ ∀ t ∈ PyData.shownKv ps, ok1 t := by
  induction es with
  | nil => exact ⟨[], rfl, rfl, Nat.le_refl _, rfl, rfl, fun t ht => by cases ht⟩
  | cons e es ih =>
    rw [List.all_cons, Bool.and_eq_true] at h
    obtain ⟨ps, h1, h2, h3, h4, h5, h6⟩ := ih h.2
    obtain ⟨a, b⟩ := e
    have q := h.1
    unfold smE at q
    split at q
    · next i j e =>
      cases e
      simp only [Bool.and_eq_true, decide_eq_true_eq] at q
      refine ⟨(.int i, .int j) :: ps, ?_, ?_, ?_, ?_, ?_, ?_⟩
      · show (match toR (.int i), toR (.int j), toRe es with | some p, some q, some ps => some ((p, q) :: ps) | _, _, _ => none) = _
        rw [h1]; rfl
      · show (PyData.showable (.int i) && PyData.showable (.int j) && PyData.showableKv ps) = true
        rw [h2, (shI (k := 0) q.1).sh, (shI (k := 0) q.2).sh]; rfl
      · show ((PyData.shown (.int i) ++ ": " ++ PyData.shown (.int j)).length + ((PyData.shownKv ps).map (·.length)).sum) ≤ _
        have l1 : (PyData.shown (.int i)).length ≤ 101 := by show (Str.ofString (toString i)).length ≤ _; rw [str_int, SX.S_len]; exact small_lenT q.1
        have l2 : (PyData.shown (.int j)).length ≤ 101 := by show (Str.ofString (toString j)).length ≤ _; rw [str_int, SX.S_len]; exact small_lenT q.2
        rw [strLen_append, strLen_append, List.length_cons]
        have : (Str.ofString ": ").length = 2 := rfl
        omega
      · show (PyData.shownKv ps).length + 1 = _; rw [h4]; rfl
      · show max (max 0 0) (PyData.depthKv ps) = 0; rw [h5]; rfl
      · intro t ht
        rcases List.mem_cons.mp (show t ∈ (PyData.shown (.int i) ++ ": " ++ PyData.shown (.int j)) :: PyData.shownKv ps from ht) with z | z
        · rw [z]; exact ok1_app (ok1_app (ok1_str _) (ok1_str _)) (ok1_str _)
        · exact h6 t z
    · cases q
theorem shL {k : Nat} {xs : List D} (h : ∀ x ∈ xs, ∃ p, Sh k x p) : ∃ ps, toRs xs = some ps ∧ PyData.showableAll ps = true ∧ ((PyData.shownAll ps).map (·.length)).sum ≤ bnd k * xs.length ∧ (PyData.shownAll ps).length = xs.length ∧ PyData.depthAll ps ≤ k + 1 ∧ ∀ t ∈ PyData.shownAll ps, ok1 t := by
  induction xs with
  | nil => exact ⟨[], rfl, rfl, Nat.le_refl _, rfl, Nat.zero_le _, fun t ht => by cases ht⟩
  | cons x xs ih =>
    obtain ⟨p, q⟩ := h x List.mem_cons_self
    obtain ⟨ps, h1, h2, h3, h4, h5, h6⟩ := ih fun y hy => h y (List.mem_cons_of_mem _ hy)
    refine ⟨p :: ps, ?_, ?_, ?_, ?_, ?_, ?_⟩
    · show (match toR x, toRs xs with | some p, some ps => some (p :: ps) | _, _ => none) = _
      rw [q.to, h1]
    · show (PyData.showable p && PyData.showableAll ps) = true
      rw [q.sh, h2]; rfl
    · show p.shown.length + ((PyData.shownAll ps).map (·.length)).sum ≤ _
      have := q.ln
      rw [List.length_cons, Nat.mul_succ]
      omega
    · show (PyData.shownAll ps).length + 1 = _; rw [h4]; rfl
    · show max p.depth (PyData.depthAll ps) ≤ _
      exact Nat.max_le.mpr ⟨q.dp, h5⟩
    · intro t ht
      rcases List.mem_cons.mp (show t ∈ p.shown :: PyData.shownAll ps from ht) with z | z
      · rw [z]; exact q.ok
      · exact h6 t z
theorem sm_sh : ∀ (k : Nat) (d : D), sm k d = true → ∃ p, Sh k d p := by
  intro k
  induction k with
  | zero =>
    intro d h
    have b := bnd0 0
    cases d with
    | non => exact ⟨.none, ok1_str _, rfl, rfl, Nat.le_trans (by decide) b, Nat.zero_le _⟩
    | bl x => exact ⟨.bool x, by cases x <;> exact ok1_str _, rfl, rfl, by cases x <;> exact Nat.le_trans (by decide) b, Nat.zero_le _⟩
    | int i => exact ⟨_, shI (of_decide_eq_true h)⟩
    | str x =>
      have h : (decide (x.length ≤ 60) && PyData.strOk x) = true := h
      rw [Bool.and_eq_true] at h
      exact ⟨_, shS (of_decide_eq_true h.1) h.2⟩
    | dic es =>
      have h : (decide (es.length ≤ 2) && es.all smE) = true := h
      rw [Bool.and_eq_true] at h
      obtain ⟨ps, h1, h2, h3, h4, h5, h6⟩ := shE h.2
      have hl := of_decide_eq_true h.1
      refine ⟨.dict ps, ok1_app (ok1_app (ok1_str _) (ok1_join (ok1_str _) _ h6)) (ok1_str _), ?_, h2, ?_, ?_⟩
      · show (match toRe es with | some ps => some (PyData.dict ps) | none => none) = _; rw [h1]
      · have := dictText_len_le (PyData.shownKv ps)
        show (dictText (PyData.shownKv ps)).length ≤ _
        omega
      · show PyData.depthKv ps + 1 ≤ _; omega
    | _ => cases h
  | succ k ih =>
    intro d h
    have b := bnd0 (k + 1)
    cases d with
    | non => exact ⟨.none, ok1_str _, rfl, rfl, Nat.le_trans (by decide) b, Nat.zero_le _⟩
    | bl x => exact ⟨.bool x, by cases x <;> exact ok1_str _, rfl, rfl, by cases x <;> exact Nat.le_trans (by decide) b, Nat.zero_le _⟩
    | int i => exact ⟨_, shI (of_decide_eq_true h)⟩
    | str x =>
      have h : (decide (x.length ≤ 60) && PyData.strOk x) = true := h
      rw [Bool.and_eq_true] at h
      exact ⟨_, shS (of_decide_eq_true h.1) h.2⟩
    | dic es =>
      have h : (decide (es.length ≤ 2) && es.all smE) = true := h
      rw [Bool.and_eq_true] at h
      obtain ⟨ps, h1, h2, h3, h4, h5, h6⟩ := shE h.2
      have hl := of_decide_eq_true h.1
      refine ⟨.dict ps, ok1_app (ok1_app (ok1_str _) (ok1_join (ok1_str _) _ h6)) (ok1_str _), ?_, h2, ?_, ?_⟩
      · show (match toRe es with | some ps => some (PyData.dict ps) | none => none) = _; rw [h1]
      · have := dictText_len_le (PyData.shownKv ps)
        show (dictText (PyData.shownKv ps)).length ≤ _
        omega
      · show PyData.depthKv ps + 1 ≤ _; omega
    | tup xs =>
      have h : (decide (xs.length ≤ 26) && xs.all (sm k)) = true := h
      rw [Bool.and_eq_true] at h
      obtain ⟨ps, h1, h2, h3, h4, h5, h6⟩ := shL fun x hx => ih x (List.all_eq_true.mp h.2 x hx)
      have hl := of_decide_eq_true h.1
      have hm : bnd k * xs.length ≤ bnd k * 26 := Nat.mul_le_mul_left _ hl
      refine ⟨.tuple ps, ok1_app (ok1_app (ok1_str _) (ok1_join (ok1_str _) _ h6)) (ok1_str _), ?_, h2, ?_, ?_⟩
      · show (match toRs xs with | some ps => some (PyData.tuple ps) | none => none) = _; rw [h1]
      · have := tupleText_len_le (PyData.shownAll ps)
        show (tupleText (PyData.shownAll ps)).length ≤ 26 * bnd k + 60
        omega
      · show PyData.depthAll ps + 1 ≤ _; omega
    | lst xs =>
      have h : (decide (xs.length ≤ 26) && xs.all (sm k)) = true := h
      rw [Bool.and_eq_true] at h
      obtain ⟨ps, h1, h2, h3, h4, h5, h6⟩ := shL fun x hx => ih x (List.all_eq_true.mp h.2 x hx)
      have hl := of_decide_eq_true h.1
      have hm : bnd k * xs.length ≤ bnd k * 26 := Nat.mul_le_mul_left _ hl
      refine ⟨.list ps, ok1_app (ok1_from _ _ _ (ok1_str _) h6) (ok1_str _), ?_, h2, ?_, ?_⟩
      · show (match toRs xs with | some ps => some (PyData.list ps) | none => none) = _; rw [h1]
      · have := listText_len_le (PyData.shownAll ps)
        show (listText (PyData.shownAll ps)).length ≤ 26 * bnd k + 60
        omega
      · show PyData.depthAll ps + 1 ≤ _; omega
    | _ => cases h
def nd : Nat → D → Bool
  | k + 1, .tup xs => xs.all (nd k)
  | k + 1, .lst xs => xs.all (nd k)
  | _, .dic _ => false
  | _, _ => true
def nl : Nat → D → Bool
  | k + 1, .tup xs => xs.all (nl k)
  | _, .lst _ => false
  | _, _ => true
theorem nl_no : ∀ (k : Nat) (d : D), sm k d = true → nl k d = true → noLst d = true := by
  intro k
  induction k with
  | zero =>
    intro d h h2
    cases d with
    | lst xs => cases h2
    | tup xs => cases h
    | dic es =>
      replace h : (decide (es.length ≤ 2) && es.all smE) = true := h
      rw [Bool.and_eq_true] at h
      replace h := h.2
      show noLste es = true
      clear h2
      induction es with
      | nil => rfl
      | cons e es ih =>
        rw [List.all_cons, Bool.and_eq_true] at h
        obtain ⟨a, b⟩ := e
        have q := h.1
        unfold smE at q
        split at q
        · next i j e => cases e; show (true && true && noLste es) = true; rw [ih h.2]; rfl
        · cases q
    | _ => rfl
  | succ k ih =>
    intro d h h2
    cases d with
    | lst xs => cases h2
    | tup xs =>
      replace h : (decide (xs.length ≤ 26) && xs.all (sm k)) = true := h
      rw [Bool.and_eq_true] at h
      replace h := h.2
      replace h2 : xs.all (nl k) = true := h2
      show noLsts xs = true
      induction xs with
      | nil => rfl
      | cons x xs ih2 =>
        rw [List.all_cons, Bool.and_eq_true] at h h2
        show (noLst x && noLsts xs) = true
        rw [ih x h.1 h2.1, ih2 h.2 h2.2]; rfl
    | dic es =>
      replace h : (decide (es.length ≤ 2) && es.all smE) = true := h
      rw [Bool.and_eq_true] at h
      replace h := h.2
      show noLste es = true
      clear h2
      induction es with
      | nil => rfl
      | cons e es ih =>
        rw [List.all_cons, Bool.and_eq_true] at h
        obtain ⟨a, b⟩ := e
        have q := h.1
        unfold smE at q
        split at q
        · next i j e => cases e; show (true && true && noLste es) = true; rw [ih h.2]; rfl
        · cases q
    | _ => rfl
theorem nd_no : ∀ (k : Nat) (d : D) (p : PyData), toR d = some p → sm k d = true → nd k d = true → p.hasDict = false := by
  intro k
  induction k with
  | zero =>
    intro d p e h h2
    cases d with
    | dic es => cases h2
    | tup xs => cases h
    | lst xs => cases h
    | non => cases e; rfl
    | bl x => cases e; rfl
    | int x => cases e; rfl
    | str x => cases e; rfl
    | _ => cases e
  | succ k ih =>
    have all : ∀ (xs : List D) (ps : List PyData), toRs xs = some ps → xs.all (sm k) = true → xs.all (nd k) = true → PyData.hasDictAll ps = false := by
      intro xs
      induction xs with
      | nil => intro ps e _ _; cases e; rfl
      | cons x xs ih2 =>
        intro ps e h h2
        rw [List.all_cons, Bool.and_eq_true] at h h2
        have e : (match toR x, toRs xs with | some p, some ps => some (p :: ps) | _, _ => none) = some ps := e
        cases e1 : toR x with
        | none => rw [e1] at e; cases e
        | some p =>
          cases e2 : toRs xs with
          | none => rw [e1, e2] at e; cases e
          | some qs =>
            rw [e1, e2] at e
            cases e
            show (PyData.hasDict p || PyData.hasDictAll qs) = false
            rw [ih x p e1 h.1 h2.1, ih2 qs e2 h.2 h2.2]; rfl
    intro d p e h h2
    cases d with
    | dic es => cases h2
    | tup xs =>
      have h : (decide (xs.length ≤ 26) && xs.all (sm k)) = true := h
      rw [Bool.and_eq_true] at h
      have e : (match toRs xs with | some ps => some (PyData.tuple ps) | none => none) = some p := e
      cases e1 : toRs xs with
      | none => rw [e1] at e; cases e
      | some qs => rw [e1] at e; cases e; exact all xs qs e1 h.2 h2
    | lst xs =>
      have h : (decide (xs.length ≤ 26) && xs.all (sm k)) = true := h
      rw [Bool.and_eq_true] at h
      have e : (match toRs xs with | some ps => some (PyData.list ps) | none => none) = some p := e
      cases e1 : toRs xs with
      | none => rw [e1] at e; cases e
      | some qs => rw [e1] at e; cases e; exact all xs qs e1 h.2 h2
    | non => cases e; rfl
    | bl x => cases e; rfl
    | int x => cases e; rfl
    | str x => cases e; rfl
    | _ => cases e
/-- a thing that can be shown -/
def shw (d : D) : Bool := sm 3 d && (nl 3 d || nd 3 d)
theorem bnd3 {k : Nat} (h : k ≤ 3) : bnd k ≤ 15000000 := by
  have e : k = 0 ∨ k = 1 ∨ k = 2 ∨ k = 3 := by omega
  rcases e with rfl | rfl | rfl | rfl <;> decide
theorem sm_repr {k : Nat} {d : D} (h : sm k d = true) (hk : k ≤ 3) (hd : noLst d = true ∨ ∃ p, toR d = some p ∧ p.hasDict = false) : ∃ x, reprS d = some x ∧ ok1 x := by
  obtain ⟨p, q⟩ := sm_sh k d h
  refine ⟨p.shown, ?_, q.ok⟩
  unfold reprS
  rw [q.to]
  dsimp only
  have h1 : sz p.shown.length = true := by
    have := q.ln
    have := bnd3 hk
    unfold sz; rw [decide_eq_true_eq, sizeLine_eq]; omega
  have h2 : (!p.hasDict || noLst d) = true := by
    rcases hd with hd | ⟨p', e, hd⟩
    · rw [hd, Bool.or_true]
    · have := e.symm.trans q.to
      cases this
      rw [hd]; rfl
  have h3 : decide (p.depth ≤ 60) = true := decide_eq_true (by have := q.dp; omega)
  rw [if_pos (by rw [q.sh, h1, h2, h3]; rfl)]
theorem shw_repr {d : D} (h : shw d = true) : ∃ x, reprS d = some x ∧ ok1 x := by
  unfold shw at h
  rw [Bool.and_eq_true, Bool.or_eq_true] at h
  refine sm_repr h.1 (Nat.le_refl _) ?_
  rcases h.2 with q | q
  · exact .inl (nl_no 3 d h.1 q)
  · obtain ⟨p, z⟩ := sm_sh 3 d h.1
    exact .inr ⟨p, z.to, nd_no 3 d p z.to h.1 q⟩
theorem q_repr {s : S} {K : RV → S → Prop} {d : D} {x : Str} (h : reprS d = some x) : wO (reprD [d]) s K = K (.fz (.str x)) s := by
  unfold reprD; dsimp only; rw [h]; rfl
structure Pl (k : Nat) (d : D) (p : PyData) : Prop where
  to : toP d = some p
  lay : p.canLay0 = true
  dp : p.depth ≤ k
theorem plL {k : Nat} {xs : List D} (h : ∀ x ∈ xs, ∃ p, Pl k x p) : ∃ ps, toPs xs = some ps ∧ PyData.canLayAll0 ps = true ∧ PyData.depthAll ps ≤ k := by
  induction xs with
  | nil => exact ⟨[], rfl, rfl, Nat.zero_le _⟩
  | cons x xs ih =>
    obtain ⟨p, q⟩ := h x List.mem_cons_self
    obtain ⟨ps, h1, h2, h3⟩ := ih fun y hy => h y (List.mem_cons_of_mem _ hy)
    refine ⟨p :: ps, ?_, ?_, ?_⟩
    · show (match toP x, toPs xs with | some p, some ps => some (p :: ps) | _, _ => none) = _
      rw [q.to, h1]
    · show (PyData.canLay0 p && PyData.canLayAll0 ps) = true
      rw [q.lay, h2]; rfl
    · show max p.depth (PyData.depthAll ps) ≤ _
      exact Nat.max_le.mpr ⟨q.dp, h3⟩
/-- a thing that can be compared -/
def cm : Nat → D → Bool
  | _, .non => true
  | _, .bl _ => true
  | _, .int _ => true
  | _, .str x => PyData.strOk x
  | k + 1, .tup xs => xs.all (cm k)
  | k + 1, .lst xs => xs.all (cm k)
  | _, _ => false
theorem cm_pl : ∀ (k : Nat) (d : D), cm k d = true → ∃ p, Pl k d p := by
  intro k
  induction k with
  | zero =>
    intro d h
    cases d with
    | non => exact ⟨.none, rfl, rfl, Nat.zero_le _⟩
    | bl x => exact ⟨.bool x, rfl, rfl, Nat.zero_le _⟩
    | int i => exact ⟨.int i, rfl, rfl, Nat.zero_le _⟩
    | str x => exact ⟨.str x, rfl, h, Nat.zero_le _⟩
    | _ => cases h
  | succ k ih =>
    intro d h
    cases d with
    | non => exact ⟨.none, rfl, rfl, Nat.zero_le _⟩
    | bl x => exact ⟨.bool x, rfl, rfl, Nat.zero_le _⟩
    | int i => exact ⟨.int i, rfl, rfl, Nat.zero_le _⟩
    | str x => exact ⟨.str x, rfl, h, Nat.zero_le _⟩
    | tup xs =>
      have h : xs.all (cm k) = true := h
      obtain ⟨ps, h1, h2, h3⟩ := plL fun x hx => ih x (List.all_eq_true.mp h x hx)
      refine ⟨.tuple ps, ?_, h2, ?_⟩
      · show (match toPs xs with | some ps => some (PyData.tuple ps) | none => none) = _; rw [h1]
      · show PyData.depthAll ps + 1 ≤ _; omega
    | lst xs =>
      have h : xs.all (cm k) = true := h
      obtain ⟨ps, h1, h2, h3⟩ := plL fun x hx => ih x (List.all_eq_true.mp h x hx)
      refine ⟨.list ps, ?_, h2, ?_⟩
      · show (match toPs xs with | some ps => some (PyData.list ps) | none => none) = _; rw [h1]
      · show PyData.depthAll ps + 1 ≤ _; omega
    | _ => cases h
theorem Pl.shaped {k : Nat} {d : D} {p : PyData} (h : Pl k d p) (hk : k ≤ 60) : SeqAt.shaped p = true := by
  unfold SeqAt.shaped
  rw [h.lay, decide_eq_true (show p.depth ≤ 64 by have := h.dp; omega)]; rfl
theorem eqP_same {k : Nat} {d : D} (h : cm k d = true) (hk : k ≤ 60) : eqP d d = some true := by
  obtain ⟨p, q⟩ := cm_pl k d h
  unfold eqP
  rw [q.to]
  dsimp only
  rw [q.shaped hk]
  rw [if_pos (by rfl), SeqAt.eqv_refl p q.lay]
theorem eqP_nil {k : Nat} {x : D} {xs : List D} (h : cm k (.tup (x :: xs)) = true) (hk : k ≤ 60) : eqP (.tup (x :: xs)) (.tup []) = some false := by
  obtain ⟨p, q⟩ := cm_pl k _ h
  have e : (match toPs (x :: xs) with | some ps => some (PyData.tuple ps) | none => none) = some p := q.to
  have e1 : ∃ y ys, toPs (x :: xs) = some (y :: ys) := by
    have z : toPs (x :: xs) = (match toP x, toPs xs with | some p, some ps => some (p :: ps) | _, _ => none) := rfl
    rw [z] at e ⊢
    cases a : toP x with
    | none => rw [a] at e; cases e
    | some y =>
      cases b : toPs xs with
      | none => rw [a, b] at e; cases e
      | some ys => exact ⟨y, ys, rfl⟩
  obtain ⟨y, ys, e1⟩ := e1
  rw [e1] at e
  cases e
  unfold eqP
  rw [q.to]
  show (if (SeqAt.shaped (.tuple (y :: ys)) && SeqAt.shaped (.tuple [])) = true then some (PyData.eqv (.tuple (y :: ys)) (.tuple [])) else none) = _
  rw [q.shaped hk]
  rfl
theorem eqP_nilL {k : Nat} {x : D} {xs : List D} (h : cm k (.lst (x :: xs)) = true) (hk : k ≤ 60) : eqP (.lst (x :: xs)) (.lst []) = some false := by
  obtain ⟨p, q⟩ := cm_pl k _ h
  have e : (match toPs (x :: xs) with | some ps => some (PyData.list ps) | none => none) = some p := q.to
  have e1 : ∃ y ys, toPs (x :: xs) = some (y :: ys) := by
    have z : toPs (x :: xs) = (match toP x, toPs xs with | some p, some ps => some (p :: ps) | _, _ => none) := rfl
    rw [z] at e ⊢
    cases a : toP x with
    | none => rw [a] at e; cases e
    | some y =>
      cases b : toPs xs with
      | none => rw [a, b] at e; cases e
      | some ys => exact ⟨y, ys, rfl⟩
  obtain ⟨y, ys, e1⟩ := e1
  rw [e1] at e
  cases e
  unfold eqP
  rw [q.to]
  show (if (SeqAt.shaped (.list (y :: ys)) && SeqAt.shaped (.list [])) = true then some (PyData.eqv (.list (y :: ys)) (.list [])) else none) = _
  rw [q.shaped hk]
  rfl
variable {s : S} {K : RV → S → Prop} {a b : D} {k : Bool}
theorem q_eqP (h : eqP a b = some k) : wO (cmpD .Eq a b) s K = K (.fz (.bl k)) s := by
  show wO (match eqP a b with | some k => .val (.bl k) | none => .no) s K = _; rw [h]; rfl
theorem q_neP (h : eqP a b = some k) : wO (cmpD .NotEq a b) s K = K (.fz (.bl (!k))) s := by
  show wO (match eqP a b with | some k => .val (.bl (!k)) | none => .no) s K = _; rw [h]; rfl
end Rp

set_option Elab.async false
set_option linter.all false
set_option maxRecDepth 100000
set_option maxHeartbeats 4000000
namespace Wk
open PySem PySem.Spec PyProof.Rows L2 Fw
def d_FIGURES : D := (.str "0123456789")
def clsN : List Str := ["NoNet", "NoCase", "NoShut", "NoPlace", "NoJoint", "NoPipe", "NoPlan", "NoLevels", "NoReadings", "NoFraction", "NoAmount", "NoMeters", "NoTariff", "NotNow", "NoDeed", "NoLine", "NoText"]
def saidT (c : Str) : Str → Bool := fun C => C == c
noncomputable def g_is_whole : SX := (gSeq (gRet (gAnd (gCB isiD [(gVar 0), (gLit (.ty "int"))]) (gNot (gCB isiD [(gVar 0), (gLit (.ty "bool"))])))) gNext)
noncomputable def f_is_whole : Fn := runB 1 g_is_whole
noncomputable def g_common : SX := (gSeq (gPar [0, 1] [(gCB absD [(gVar 0)]), (gCB absD [(gVar 1)])]) (gSeq (gLoop (gBin (lift2 (cmpD .NotEq)) (gVar 1) (gLit (.int 0))) (gSeq (gPar [0, 1] [(gVar 1), (gBin (lift2 (binD .Mod)) (gVar 0) (gVar 1))]) gNext)) (gSeq (gRet (gVar 0)) gNext)))
noncomputable def f_common : Fn := runB 2 g_common
noncomputable def g_is_fraction : SX := (gSeq (gIfS (gOr (gNot (gCB isiD [(gVar 0), (gLit (.ty "tuple"))])) (gOr (gBin (lift2 (cmpD .NotEq)) (gCB lenD [(gVar 0)]) (gLit (.int 2))) (gNot (gCB allD [(gComp [1] (gSeqI (gVar 0)) (pName 1) tstYes (gCall f_is_whole [(gVar 1)]))])))) (gSeq (gRet (gLit (.bl false))) gNext) gNext) (gSeq (gRet (gAnd (gBin (lift2 (cmpD .Gt)) (gBin (lift2 atD) (gVar 0) (gLit (.int 1))) (gLit (.int 0))) (gBin (lift2 (cmpD .Eq)) (gCall f_common [(gBin (lift2 atD) (gVar 0) (gLit (.int 0))), (gBin (lift2 atD) (gVar 0) (gLit (.int 1)))]) (gLit (.int 1))))) gNext))
noncomputable def f_is_fraction : Fn := runB 2 g_is_fraction
noncomputable def g_fraction_by : SX := (gSeq (gAsg (pTup [(pName 1), (pName 2)]) (gVar 0)) (gSeq (gRet (gIf (gBin (lift2 (cmpD .Eq)) (gVar 2) (gLit (.int 1))) (gCB strD [(gVar 1)]) (gJs [(gFmt (gVar 1)), (gLit (.str "/")), (gFmt (gVar 2))] PySem.Str.empty))) gNext))
noncomputable def f_fraction_by : Fn := runB 3 g_fraction_by
noncomputable def g_number_in : SX := (gSeq (gIfS (gOr (gBin (lift2 (cmpD .Eq)) (gVar 0) (gLit (.str ""))) (gNot (gCB allD [(gComp [1] (gSeqI (gVar 0)) (pName 1) tstYes (gBin (lift2 (cmpD .In)) (gVar 1) (gLit d_FIGURES)))]))) (gSeq (gRet (gLit .non)) gNext) gNext) (gSeq (gRet (gIf (gOr (gBin (lift2 (cmpD .NotEq)) (gBin (lift2 atD) (gVar 0) (gLit (.int 0))) (gLit (.str "0"))) (gBin (lift2 (cmpD .Eq)) (gVar 0) (gLit (.str "0")))) (gCB intD [(gVar 0)]) (gLit .non))) gNext))
noncomputable def f_number_in : Fn := runB 2 g_number_in
noncomputable def g_fraction_in : SX := (gSeq (gSet 1 (gBin (lift2 (cmpD .Eq)) (gSlice (gVar 0) none (some (gLit (.int 1)))) (gLit (.str "-")))) (gSeq (gAsg (pTup [(pName 2), (pName 3), (pName 4)]) (gMeth "str" partD (gIf (gVar 1) (gSlice (gVar 0) (some (gLit (.int 1))) none) (gVar 0)) [(gLit (.str "/"))])) (gSeq (gPar [5, 6] [(gCall f_number_in [(gVar 2)]), (gIf (gBin (lift2 (cmpD .NotEq)) (gVar 3) (gLit (.str ""))) (gCall f_number_in [(gVar 4)]) (gLit (.int 1)))]) (gSeq (gIfS (gOr (gBin (lift2 (cmpD .Is)) (gVar 5) (gLit .non)) (gBin (lift2 (cmpD .Is)) (gVar 6) (gLit .non))) (gSeq (gRet (gLit .non)) gNext) gNext) (gSeq (gSet 7 (gWith [(gIf (gVar 1) (gBin (lift2 (binD .Sub)) (gLit (.int 0)) (gVar 5)) (gVar 5)), (gVar 6)] tupK)) (gSeq (gRet (gIf (gAnd (gCall f_is_fraction [(gVar 7)]) (gBin (lift2 (cmpD .Eq)) (gCall f_fraction_by [(gVar 7)]) (gVar 0))) (gVar 7) (gLit .non))) gNext))))))
noncomputable def f_fraction_in : Fn := runB 8 g_fraction_in
noncomputable def g_read_fraction : SX := (gSeq (gSet 1 (gIf (gCB isiD [(gVar 0), (gLit (.ty "str"))]) (gCall f_fraction_in [(gVar 0)]) (gLit .non))) (gSeq (gIfS (gBin (lift2 (cmpD .Is)) (gVar 1) (gLit .non)) (gSeq (gRaiseT "NoText" "line" (gLit (.int 0))) gNext) gNext) (gSeq (gRet (gVar 1)) gNext)))
noncomputable def f_read_fraction : Fn := runB 2 g_read_fraction
noncomputable def g__law_cell_at : SX := (gSeq (gIfS (gBin (lift2 (cmpD .Lt)) (gVar 1) (gCB lenD [(gVar 0)])) (gSeq (gRet (gBin (lift2 atD) (gVar 0) (gVar 1))) gNext) gNext) (gSeq (gRet (gLit (.int 0))) gNext))
noncomputable def f__law_cell_at : Fn := runB 2 g__law_cell_at
noncomputable def g__law_state : SX := (gSeq (gSet 2 (gCall f__law_cell_at [(gVar 0), (gVar 1)])) (gSeq (gRet (gWith [(gCB maxD [(gLit (.int 0)), (gBin (lift2 (binD .Sub)) (gVar 2) (gBin (lift2 (binD .Pow)) (gLit (.int 10)) (gLit (.int 18))))]), (gBin (lift2 (binD .Mod)) (gVar 2) (gLit (.int 2147483647)))] lstK)) gNext))
noncomputable def f__law_state : Fn := runB 3 g__law_state
noncomputable def g__law_take : SX := (gSeq (gIfS (gBin (lift2 (cmpD .Gt)) (gBin (lift2 atD) (gVar 0) (gLit (.int 0))) (gLit (.int 0))) (gSeq (gSet 2 (gBin (lift2 (binD .Mod)) (gBin (lift2 atD) (gVar 0) (gLit (.int 0))) (gVar 1))) (gSeq (gAsg (pSub (gVar 0) (gLit (.int 0))) (gBin (lift2 (binD .FloorDiv)) (gBin (lift2 atD) (gVar 0) (gLit (.int 0))) (gVar 1))) (gSeq (gRet (gVar 2)) gNext))) gNext) (gSeq (gAsg (pSub (gVar 0) (gLit (.int 1))) (gBin (lift2 (binD .Mod)) (gBin (lift2 (binD .Add)) (gBin (lift2 (binD .Mult)) (gBin (lift2 atD) (gVar 0) (gLit (.int 1))) (gLit (.int 48271))) (gLit (.int 29))) (gLit (.int 2147483647)))) (gSeq (gSet 3 (gBin (lift2 (binD .Mod)) (gBin (lift2 (binD .Add)) (gBin (lift2 (binD .Add)) (gBin (lift2 (binD .Mult)) (gBin (lift2 atD) (gVar 0) (gLit (.int 1))) (gBin (lift2 atD) (gVar 0) (gLit (.int 1)))) (gBin (lift2 (binD .Mult)) (gLit (.int 39373)) (gBin (lift2 atD) (gVar 0) (gLit (.int 1))))) (gLit (.int 7))) (gLit (.int 2147483629)))) (gSeq (gSet 3 (gBin (lift2 (binD .Mod)) (gBin (lift2 (binD .Add)) (gBin (lift2 (binD .Mult)) (gVar 3) (gVar 3)) (gBin (lift2 (binD .Mult)) (gLit (.int 16807)) (gVar 3))) (gLit (.int 2147483587)))) (gSeq (gRet (gBin (lift2 (binD .Mod)) (gBin (lift2 (binD .FloorDiv)) (gVar 3) (gLit (.int 8))) (gVar 1))) gNext)))))
noncomputable def f__law_take : Fn := runB 4 g__law_take
noncomputable def g__law_marks_of (T : Str → Bool) (dd : Option Addr) (a : Addr) : SX := (gSeq (gSet 1 (gWith [(gIsE a dd 0 (T "NoNet")), (gIsE a dd 0 (T "NoCase")), (gIsE a dd 0 (T "NoShut")), (gIsE a dd 0 (T "NoPlace"))] lstK)) (gSeq (gSet 1 (gBin (lift2 (binD .Add)) (gVar 1) (gWith [(gIsE a dd 0 (T "NoJoint")), (gIsE a dd 0 (T "NoPipe")), (gIsE a dd 0 (T "NoPlan")), (gIsE a dd 0 (T "NoLevels"))] lstK))) (gSeq (gSet 1 (gBin (lift2 (binD .Add)) (gVar 1) (gWith [(gIsE a dd 0 (T "NoReadings")), (gIsE a dd 0 (T "NoFraction")), (gIsE a dd 0 (T "NoAmount"))] lstK))) (gSeq (gSet 1 (gBin (lift2 (binD .Add)) (gVar 1) (gWith [(gIsE a dd 0 (T "NoMeters")), (gIsE a dd 0 (T "NoTariff")), (gIsE a dd 0 (T "NotNow")), (gIsE a dd 0 (T "NoDeed"))] lstK))) (gSeq (gRet (gBin (lift2 (binD .Add)) (gVar 1) (gWith [(gIsE a dd 0 (T "NoLine")), (gIsE a dd 0 (T "NoText"))] lstK))) gNext)))))
noncomputable def f__law_marks_of (T : Str → Bool) (dd : Option Addr) (a : Addr) : Fn := runB 2 (g__law_marks_of T dd a)
noncomputable def g__law_word (T : Str → Bool) (dd : Option Addr) (a : Addr) : SX := (gSeq (gSet 1 (gCall (f__law_marks_of T dd a) [gVar 0])) (gSeq (gIfS (gOr (gBin (lift2 (cmpD .NotEq)) (gMeth "list" countD (gVar 1) [(gLit (.bl true))]) (gLit (.int 1))) (gNot (gIsE a dd 0 true))) (gSeq (gRet (gWith [(gLit (.str "other"))] tupK)) gNext) gNext) (gSeq (gSet 2 (gWith [(gLit (.str "net")), (gLit (.str "case")), (gLit (.str "shut")), (gLit (.str "place")), (gLit (.str "joint")), (gLit (.str "pipe")), (gLit (.str "plan")), (gLit (.str "levels")), (gLit (.str "readings")), (gLit (.str "fraction")), (gLit (.str "amount"))] lstK)) (gSeq (gSet 3 (gBin (lift2 atD) (gBin (lift2 (binD .Add)) (gVar 2) (gWith [(gLit (.str "meters")), (gLit (.str "tariff")), (gLit (.str "now")), (gLit (.str "deed")), (gLit (.str "line")), (gLit (.str "text"))] lstK)) (gMeth "list" indexD (gVar 1) [(gLit (.bl true))]))) (gSeq (gRet (gIf (gBin (lift2 (cmpD .Eq)) (gVar 3) (gLit (.str "text"))) (gWith [(gVar 3), (gXd a dd 0 "line")] tupK) (gWith [(gVar 3)] tupK))) gNext)))))
noncomputable def f__law_word (T : Str → Bool) (dd : Option Addr) (a : Addr) : Fn := runB 4 (g__law_word T dd a)
noncomputable def g__law_whole : SX := (gSeq (gRet (gAnd (gCB isiD [(gVar 0), (gLit (.ty "int"))]) (gNot (gCB isiD [(gVar 0), (gLit (.ty "bool"))])))) gNext)
noncomputable def f__law_whole : Fn := runB 1 g__law_whole
noncomputable def g__law_common : SX := (gSeq (gPar [0, 1] [(gCB absD [(gVar 0)]), (gCB absD [(gVar 1)])]) (gSeq (gLoop (gBin (lift2 (cmpD .NotEq)) (gVar 1) (gLit (.int 0))) (gSeq (gPar [0, 1] [(gVar 1), (gBin (lift2 (binD .Mod)) (gVar 0) (gVar 1))]) gNext)) (gSeq (gRet (gVar 0)) gNext)))
noncomputable def f__law_common : Fn := runB 2 g__law_common
noncomputable def g__law_lowest : SX := (gSeq (gSet 2 (gCall f__law_common [(gVar 0), (gVar 1)])) (gSeq (gRet (gWith [(gBin (lift2 (binD .FloorDiv)) (gVar 0) (gVar 2)), (gBin (lift2 (binD .FloorDiv)) (gVar 1) (gVar 2))] tupK)) gNext))
noncomputable def f__law_lowest : Fn := runB 3 g__law_lowest
noncomputable def g__law_is_fraction : SX := (gSeq (gIfS (gOr (gNot (gCB isiD [(gVar 0), (gLit (.ty "tuple"))])) (gOr (gBin (lift2 (cmpD .NotEq)) (gCB lenD [(gVar 0)]) (gLit (.int 2))) (gNot (gCB allD [(gComp [1] (gSeqI (gVar 0)) (pName 1) tstYes (gCall f__law_whole [(gVar 1)]))])))) (gSeq (gRet (gLit (.bl false))) gNext) gNext) (gSeq (gRet (gAnd (gBin (lift2 (cmpD .Gt)) (gBin (lift2 atD) (gVar 0) (gLit (.int 1))) (gLit (.int 0))) (gBin (lift2 (cmpD .Eq)) (gCall f__law_common [(gBin (lift2 atD) (gVar 0) (gLit (.int 0))), (gBin (lift2 atD) (gVar 0) (gLit (.int 1)))]) (gLit (.int 1))))) gNext))
noncomputable def f__law_is_fraction : Fn := runB 2 g__law_is_fraction
noncomputable def g__law_odd : SX := (gSeq (gSet 1 (gWith [(gLit .non), (gLit (.bl true)), (gLit (.bl false)), (gUn negD (gLit (.int 1))), (gBin (lift2 (binD .Pow)) (gLit (.int 10)) (gLit (.int 11))), (gLit (.str "")), (gLit (.str "source 10")), (gLit (.str "1/2")), (gWith [] tupK), (gWith [] lstK), gDic0, (gWith [(gLit (.int 0))] tupK), (gWith [(gLit (.int 1)), (gLit (.int 2))] tupK), (gWith [(gLit (.int 2)), (gLit (.int 4))] tupK), (gWith [(gLit (.int 1)), (gLit (.int 0))] tupK), (gWith [(gLit (.int 1)), (gLit (.int 2))] lstK)] lstK)) (gSeq (gSet 1 (gBin (lift2 (binD .Add)) (gVar 1) (gWith [(gWith [(gLit (.int 1)), (gLit (.bl true))] tupK), (gWith [(gWith [(gLit (.int 0)), (gLit (.int 1))] tupK)] tupK), (gWith [(gWith [(gLit (.int 0)), (gLit (.int 1))] tupK), (gWith [(gLit (.int 5)), (gLit (.int 2))] tupK)] tupK), (gDisp [((gLit (.int 0)), (gLit (.int 1)))]), (gWith [(gLit (.str "place")), (gLit (.int 0)), (gLit (.int 0)), (gLit (.int 5))] tupK), (gWith [(gLit (.int 1)), (gUn negD (gLit (.int 2)))] tupK), (gLit (.str "0")), (gWith [(gLit (.int 0)), (gLit (.int 2))] tupK)] lstK))) (gSeq (gRet (gBin (lift2 atD) (gVar 1) (gCall f__law_take [(gVar 0), (gLit (.int 24))]))) gNext)))
noncomputable def f__law_odd : Fn := runB 2 g__law_odd
noncomputable def g__law_fraction_text : SX := (gSeq (gRet (gBin (lift2 (binD .Add)) (gCB strD [(gBin (lift2 atD) (gVar 0) (gLit (.int 0)))]) (gIf (gBin (lift2 (cmpD .Eq)) (gBin (lift2 atD) (gVar 0) (gLit (.int 1))) (gLit (.int 1))) (gLit (.str "")) (gBin (lift2 (binD .Add)) (gLit (.str "/")) (gCB strD [(gBin (lift2 atD) (gVar 0) (gLit (.int 1)))]))))) gNext)
noncomputable def f__law_fraction_text : Fn := runB 1 g__law_fraction_text
noncomputable def g__law_figures : SX := (gSeq (gIfS (gOr (gBin (lift2 (cmpD .Eq)) (gVar 0) (gLit (.str ""))) (gBin (lift2 (cmpD .NotEq)) (gComp [1] (gSeqI (gVar 0)) (pName 1) (toT (gBin (lift2 (cmpD .NotIn)) (gVar 1) (gLit (.str "0123456789")))) (gVar 1)) (gWith [] lstK))) (gSeq (gRet (gLit .non)) gNext) gNext) (gSeq (gRet (gIf (gOr (gBin (lift2 (cmpD .Eq)) (gVar 0) (gLit (.str "0"))) (gBin (lift2 (cmpD .NotEq)) (gBin (lift2 atD) (gVar 0) (gLit (.int 0))) (gLit (.str "0")))) (gCB intD [(gVar 0)]) (gLit .non))) gNext))
noncomputable def f__law_figures : Fn := runB 2 g__law_figures
noncomputable def g__law_read : SX := (gSeq (gSet 1 (gBin (lift2 (cmpD .Eq)) (gSlice (gVar 0) none (some (gLit (.int 1)))) (gLit (.str "-")))) (gSeq (gSet 2 (gMeth "str" splitD (gSlice (gVar 0) (some (gCB intD [(gVar 1)])) none) [(gLit (.str "/"))])) (gSeq (gSet 3 (gComp [5] (gSeqI (gVar 2)) (pName 5) tstYes (gCall f__law_figures [(gVar 5)]))) (gSeq (gIfS (gOr (gBin (lift2 (cmpD .In)) (gLit .non) (gVar 3)) (gBin (lift2 (cmpD .Gt)) (gCB lenD [(gVar 2)]) (gLit (.int 2)))) (gSeq (gRet (gLit .non)) gNext) gNext) (gSeq (gSet 4 (gWith [(gIf (gVar 1) (gBin (lift2 (binD .Sub)) (gLit (.int 0)) (gBin (lift2 atD) (gVar 3) (gLit (.int 0)))) (gBin (lift2 atD) (gVar 3) (gLit (.int 0)))), (gIf (gBin (lift2 (cmpD .Eq)) (gCB lenD [(gVar 2)]) (gLit (.int 1))) (gLit (.int 1)) (gBin (lift2 atD) (gVar 3) (gLit (.int 1))))] tupK)) (gSeq (gRet (gIf (gAnd (gCall f__law_is_fraction [(gVar 4)]) (gBin (lift2 (cmpD .Eq)) (gCall f__law_fraction_text [(gVar 4)]) (gVar 0))) (gVar 4) (gLit .non))) gNext))))))
noncomputable def f__law_read : Fn := runB 6 g__law_read
noncomputable def g__law_bent : SX := (gSeq (gPar [2, 3, 4] [(gCall f__law_take [(gVar 0), (gBin (lift2 (binD .Add)) (gCB lenD [(gVar 1)]) (gLit (.int 1)))]), (gCall f__law_take [(gVar 0), (gLit (.int 4))]), (gBin (lift2 atD) (gLit (.str "0123456789/- .+x")) (gCall f__law_take [(gVar 0), (gLit (.int 16))]))]) (gSeq (gRet (gBin (lift2 atD) (gWith [(gBin (lift2 (binD .Add)) (gBin (lift2 (binD .Add)) (gSlice (gVar 1) none (some (gVar 2))) (gVar 4)) (gSlice (gVar 1) (some (gVar 2)) none)), (gBin (lift2 (binD .Add)) (gSlice (gVar 1) none (some (gVar 2))) (gSlice (gVar 1) (some (gBin (lift2 (binD .Add)) (gVar 2) (gLit (.int 1)))) none)), (gBin (lift2 (binD .Add)) (gBin (lift2 (binD .Add)) (gSlice (gVar 1) none (some (gVar 2))) (gVar 4)) (gSlice (gVar 1) (some (gBin (lift2 (binD .Add)) (gVar 2) (gLit (.int 1)))) none)), (gBin (lift2 (binD .Add)) (gSlice (gVar 1) none (some (gVar 2))) (gSlice (gVar 1) (some (gCB maxD [(gLit (.int 0)), (gBin (lift2 (binD .Sub)) (gVar 2) (gLit (.int 1)))])) none))] lstK) (gVar 3))) gNext))
noncomputable def f__law_bent : Fn := runB 5 g__law_bent
noncomputable def g_law (word : Ex → Option D) : SX := (gSeq (gSet 1 (gWith [(gLit (.str "")), (gLit (.str "0")), (gLit (.str "-0")), (gLit (.str "00")), (gLit (.str "01")), (gLit (.str "1")), (gLit (.str "-1")), (gLit (.str "--1")), (gLit (.str "1/2")), (gLit (.str "2/4")), (gLit (.str "1/1")), (gLit (.str "3/1")), (gLit (.str "0/1")), (gLit (.str "0/5")), (gLit (.str "1/0")), (gLit (.str "-1/2"))] lstK)) (gSeq (gSet 1 (gBin (lift2 (binD .Add)) (gVar 1) (gWith [(gLit (.str "1/-2")), (gLit (.str "1/02")), (gLit (.str "1//2")), (gLit (.str "1/2/3")), (gLit (.str "/2")), (gLit (.str "1/")), (gLit (.str "-")), (gLit (.str "/")), (gLit (.str " 1")), (gLit (.str "1 ")), (gLit (.str "1/ 2")), (gLit (.str "+1")), (gLit (.str "1.5")), (gLit (.str "-0/3"))] lstK))) (gSeq (gSet 1 (gBin (lift2 (binD .Add)) (gVar 1) (gWith [(gLit (.str "7/3")), (gLit (.str "-7/3"))] lstK))) (gSeq (gFor (gRng1 (gCB maxD [(gLit (.int 1)), (gCB minD [(gCB lenD [(gVar 0)]), (gLit (.int 6))])])) (pName 2) (gSeq (gSet 3 (gPro (gCall f__law_state [(gVar 0), (gVar 2)]))) (gSeq (gSet 4 (gCB listD [(gVar 1)])) (gSeq (gFor (gRng1 (gLit (.int 6))) (pName 5) (gSeq (gSet 6 (gCall f__law_fraction_text [(gCall f__law_lowest [(gCall f__law_take [(gVar 3), (gLit (.int 900))]), (gBin (lift2 (binD .Add)) (gLit (.int 1)) (gCall f__law_take [(gVar 3), (gLit (.int 90))]))])])) (gSeq (gSet 4 (gBin (lift2 (binD .Add)) (gVar 4) (gWith [(gVar 6), (gBin (lift2 (binD .Add)) (gLit (.str "-")) (gVar 6)), (gCall f__law_bent [(gVar 3), (gVar 6)]), (gCall f__law_bent [(gVar 3), (gCall f__law_bent [(gVar 3), (gBin (lift2 (binD .Add)) (gLit (.str "-")) (gVar 6))])])] lstK))) gNext))) (gSeq (gFor (gSeqI (gVar 4)) (pName 6) (gSeq (gSet 7 (gCall f__law_read [(gVar 6)])) (gSeq (gIfS (gBin (lift2 (cmpD .NotEq)) (gCB reprD [(gSaid word (gCall f_read_fraction [(gVar 6)]))]) (gCB reprD [(gIf (gBin (lift2 (cmpD .Is)) (gVar 7) (gLit .non)) (gWith [(gLit (.str "text")), (gLit (.int 0))] tupK) (gWith [(gLit (.str "told")), (gVar 7)] tupK))])) (gSeq (gRet (gLit (.bl false))) gNext) gNext) gNext))) (gSeq (gFor (gSeqI (gWith [(gLit .non), (gLit (.int 0)), (gLit (.bl true)), (gWith [(gLit (.str "1"))] lstK), (gWith [(gLit (.str "1")), (gLit (.str "2"))] tupK), (gWith [(gLit (.int 1)), (gLit (.int 2))] tupK), gDic0, (gCall f__law_odd [(gVar 3)])] lstK)) (pName 8) (gSeq (gIfS (gAnd (gNot (gCB isiD [(gVar 8), (gLit (.ty "str"))])) (gBin (lift2 (cmpD .NotEq)) (gSaid word (gCall f_read_fraction [(gVar 8)])) (gWith [(gLit (.str "text")), (gLit (.int 0))] tupK))) (gSeq (gRet (gLit (.bl false))) gNext) gNext) gNext)) gNext)))))) (gSeq (gRet (gLit (.bl true))) gNext)))))
noncomputable def f_law (word : Ex → Option D) : Fn := runB 9 (g_law word)
end Wk

set_option Elab.async false
set_option linter.all false
set_option maxRecDepth 100000
set_option maxHeartbeats 4000000
local macro_rules | `(tactic| walk_at "run") => `(tactic| first | simp -dsimp -implicitDefEqProofs only [↓En.cndP, ↓En.cndQ, ↓En.cndN, ↓En.l_non, ↓En.l_bl, ↓En.l_int, ↓En.l_str, ↓En.l_tup, ↓En.l_lst, ↓En.l_dic, ↓En.l_scr, ↓En.l_ty, ↓En.l_exc, ↓En.l_any, ↓En.l_ow, ↓En.l_lnow0, ↓En.v_ow0, ↓En.st_lnow0, ↓En.rt_lnow0, ↓En.l_lnfz0, ↓En.v_fz0, ↓En.st_lnfz0, ↓En.rt_lnfz0, ↓En.so_fz0, ↓En.so_ow0, ↓En.s1_0, ↓En.ch_ow0, ↓En.l_lnow1, ↓En.v_ow1, ↓En.st_lnow1, ↓En.rt_lnow1, ↓En.l_lnfz1, ↓En.v_fz1, ↓En.st_lnfz1, ↓En.rt_lnfz1, ↓En.so_fz1, ↓En.so_ow1, ↓En.s1_1, ↓En.ch_ow1, ↓En.l_lnow2, ↓En.v_ow2, ↓En.st_lnow2, ↓En.rt_lnow2, ↓En.l_lnfz2, ↓En.v_fz2, ↓En.st_lnfz2, ↓En.rt_lnfz2, ↓En.so_fz2, ↓En.so_ow2, ↓En.s1_2, ↓En.ch_ow2, ↓En.l_lnow3, ↓En.v_ow3, ↓En.st_lnow3, ↓En.rt_lnow3, ↓En.l_lnfz3, ↓En.v_fz3, ↓En.st_lnfz3, ↓En.rt_lnfz3, ↓En.so_fz3, ↓En.so_ow3, ↓En.s1_3, ↓En.ch_ow3, ↓En.l_lnow4, ↓En.v_ow4, ↓En.st_lnow4, ↓En.rt_lnow4, ↓En.l_lnfz4, ↓En.v_fz4, ↓En.st_lnfz4, ↓En.rt_lnfz4, ↓En.so_fz4, ↓En.so_ow4, ↓En.s1_4, ↓En.ch_ow4, ↓En.l_lnow5, ↓En.v_ow5, ↓En.st_lnow5, ↓En.rt_lnow5, ↓En.l_lnfz5, ↓En.v_fz5, ↓En.st_lnfz5, ↓En.rt_lnfz5, ↓En.so_fz5, ↓En.so_ow5, ↓En.s1_5, ↓En.ch_ow5, ↓En.l_lnow6, ↓En.v_ow6, ↓En.st_lnow6, ↓En.rt_lnow6, ↓En.l_lnfz6, ↓En.v_fz6, ↓En.st_lnfz6, ↓En.rt_lnfz6, ↓En.so_fz6, ↓En.so_ow6, ↓En.s1_6, ↓En.ch_ow6, ↓En.l_lnow7, ↓En.v_ow7, ↓En.st_lnow7, ↓En.rt_lnow7, ↓En.l_lnfz7, ↓En.v_fz7, ↓En.st_lnfz7, ↓En.rt_lnfz7, ↓En.so_fz7, ↓En.so_ow7, ↓En.s1_7, ↓En.ch_ow7, ↓En.l_lnow8, ↓En.v_ow8, ↓En.st_lnow8, ↓En.rt_lnow8, ↓En.l_lnfz8, ↓En.v_fz8, ↓En.st_lnfz8, ↓En.rt_lnfz8, ↓En.so_fz8, ↓En.so_ow8, ↓En.s1_8, ↓En.ch_ow8, ↓En.l_lnow9, ↓En.v_ow9, ↓En.st_lnow9, ↓En.rt_lnow9, ↓En.l_lnfz9, ↓En.v_fz9, ↓En.st_lnfz9, ↓En.rt_lnfz9, ↓En.so_fz9, ↓En.so_ow9, ↓En.s1_9, ↓En.ch_ow9, ↓En.l_lnow10, ↓En.v_ow10, ↓En.st_lnow10, ↓En.rt_lnow10, ↓En.l_lnfz10, ↓En.v_fz10, ↓En.st_lnfz10, ↓En.rt_lnfz10, ↓En.so_fz10, ↓En.so_ow10, ↓En.s1_10, ↓En.ch_ow10, ↓En.l_lnow11, ↓En.v_ow11, ↓En.st_lnow11, ↓En.rt_lnow11, ↓En.l_lnfz11, ↓En.v_fz11, ↓En.st_lnfz11, ↓En.rt_lnfz11, ↓En.so_fz11, ↓En.so_ow11, ↓En.s1_11, ↓En.ch_ow11, ↓En.l_lnow12, ↓En.v_ow12, ↓En.st_lnow12, ↓En.rt_lnow12, ↓En.l_lnfz12, ↓En.v_fz12, ↓En.st_lnfz12, ↓En.rt_lnfz12, ↓En.so_fz12, ↓En.so_ow12, ↓En.s1_12, ↓En.ch_ow12, ↓En.l_lnow13, ↓En.v_ow13, ↓En.st_lnow13, ↓En.rt_lnow13, ↓En.l_lnfz13, ↓En.v_fz13, ↓En.st_lnfz13, ↓En.rt_lnfz13, ↓En.so_fz13, ↓En.so_ow13, ↓En.s1_13, ↓En.ch_ow13, ↓En.l_lnow14, ↓En.v_ow14, ↓En.st_lnow14, ↓En.rt_lnow14, ↓En.l_lnfz14, ↓En.v_fz14, ↓En.st_lnfz14, ↓En.rt_lnfz14, ↓En.so_fz14, ↓En.so_ow14, ↓En.s1_14, ↓En.ch_ow14, ↓En.l_lnow15, ↓En.v_ow15, ↓En.st_lnow15, ↓En.rt_lnow15, ↓En.l_lnfz15, ↓En.v_fz15, ↓En.st_lnfz15, ↓En.rt_lnfz15, ↓En.so_fz15, ↓En.so_ow15, ↓En.s1_15, ↓En.ch_ow15, ↓En.l_lnow16, ↓En.v_ow16, ↓En.st_lnow16, ↓En.rt_lnow16, ↓En.l_lnfz16, ↓En.v_fz16, ↓En.st_lnfz16, ↓En.rt_lnfz16, ↓En.so_fz16, ↓En.so_ow16, ↓En.s1_16, ↓En.ch_ow16, ↓En.l_lnow17, ↓En.v_ow17, ↓En.st_lnow17, ↓En.rt_lnow17, ↓En.l_lnfz17, ↓En.v_fz17, ↓En.st_lnfz17, ↓En.rt_lnfz17, ↓En.so_fz17, ↓En.so_ow17, ↓En.s1_17, ↓En.ch_ow17, ↓En.l_lnow18, ↓En.v_ow18, ↓En.st_lnow18, ↓En.rt_lnow18, ↓En.l_lnfz18, ↓En.v_fz18, ↓En.st_lnfz18, ↓En.rt_lnfz18, ↓En.so_fz18, ↓En.so_ow18, ↓En.s1_18, ↓En.ch_ow18, ↓En.l_lnow19, ↓En.v_ow19, ↓En.st_lnow19, ↓En.rt_lnow19, ↓En.l_lnfz19, ↓En.v_fz19, ↓En.st_lnfz19, ↓En.rt_lnfz19, ↓En.so_fz19, ↓En.so_ow19, ↓En.s1_19, ↓En.ch_ow19, ↓En.l_lnow20, ↓En.v_ow20, ↓En.st_lnow20, ↓En.rt_lnow20, ↓En.l_lnfz20, ↓En.v_fz20, ↓En.st_lnfz20, ↓En.rt_lnfz20, ↓En.so_fz20, ↓En.so_ow20, ↓En.s1_20, ↓En.ch_ow20, ↓En.l_lnow21, ↓En.v_ow21, ↓En.st_lnow21, ↓En.rt_lnow21, ↓En.l_lnfz21, ↓En.v_fz21, ↓En.st_lnfz21, ↓En.rt_lnfz21, ↓En.so_fz21, ↓En.so_ow21, ↓En.s1_21, ↓En.ch_ow21, ↓En.so_ln, ↓En.wop_some, ↓En.st_fz, ↓En.rt_fz, ↓En.rt_ow, ↓En.k_fz, ↓En.k_ow, ↓En.k_ln, ↓En.ls0, ↓En.ls1, ↓En.sa0, ↓En.sa1, ↓En.g_lit, ↓En.g_bin, ↓En.lift2_eq, ↓En.lift1_eq, ↓En.g_un, ↓En.g_not, ↓En.g_and, ↓En.g_or, ↓En.g_if, ↓En.g_toT, ↓En.wt_or, ↓En.wt_and, ↓En.wt_not, ↓En.wt_bin, ↓En.wt_un, ↓En.wt_cb, ↓En.wt_var, ↓En.wt_call, ↓En.wt_lit, ↓En.wt_meth, ↓En.wt_chain, ↓En.wt_comp, ↓En.wt_if, ↓En.g_args0, ↓En.g_args1, ↓En.g_with, ↓En.ca, ↓En.g_call, ↓En.tup_ok, ↓En.lst_ok, ↓En.g_cb, ↓En.g_meth, ↓En.is_str, ↓En.is_lst, ↓En.isl, ↓En.part0, ↓En.part1, ↓En.wint, ↓En.g_slice, ↓En.g_d01, ↓En.g_rev, ↓En.g_dic0, ↓En.g_fmt, ↓En.js0, ↓En.js_e, ↓En.js_S, ↓En.wstr, ↓En.g_chain, ↓En.chn, ↓En.g_app, ↓En.g_ext, ↓En.wlst, ↓En.g_pop, ↓En.g_pro, ↓En.pro, ↓En.to_, ↓En.fz0, ↓En.fzF, ↓En.fzO, ↓En.fzN, ↓En.g_said, ↓En.t_name, ↓En.ta0, ↓En.taF, ↓En.taO, ↓En.gs0, ↓En.gs1, ↓En.t_tup, ↓En.wtup, ↓En.t_sub, ↓En.s_seq, ↓En.s_next, ↓En.s_cont, ↓En.s_drop, ↓En.s_ret, ↓En.s_retn, ↓En.s_if, ↓En.s_set, ↓En.s_asg, ↓En.s_par, ↓En.s_parg, ↓En.set0, ↓En.set1, ↓En.held0, ↓En.held1, ↓En.ho_fz, ↓En.ho_ow, ↓En.ho_ln, ↓En.s_raise, ↓En.s_raiset, ↓En.s_for, ↓En.i_seq, ↓En.it_lst, ↓En.it_tup, ↓En.it_str, ↓En.wrg, ↓En.i_rng1, ↓En.i_rng2, ↓En.cm, ↓En.g_comp, ↓En.t_yes, ↓En.fo_fz, ↓En.fo_ow, ↓En.s_loop, ↓En.q_add, ↓En.q_sub, ↓En.q_div, ↓En.q_mod, ↓En.q_pow, ↓En.q_lt, ↓En.q_le, ↓En.q_gt, ↓En.q_ge, ↓En.q_eqi, ↓En.q_nei, ↓En.q_is_non, ↓En.q_isn_non, ↓En.q_is_bl, ↓En.q_isn_bl, ↓En.q_is_int, ↓En.q_isn_int, ↓En.q_is_str, ↓En.q_isn_str, ↓En.q_is_tup, ↓En.q_isn_tup, ↓En.q_is_lst, ↓En.q_isn_lst, ↓En.q_is_dic, ↓En.q_isn_dic, ↓En.q_is_obj, ↓En.q_isn_obj, ↓En.q_eqb, ↓En.q_neb, ↓En.q_not, ↓En.q_neg, ↓En.q_abs, ↓En.q_max, ↓En.q_min, ↓En.q_lenl, ↓En.q_lent, ↓En.q_lenc, ↓En.q_listl, ↓En.q_listt, ↓En.q_tupl, ↓En.q_tupt, ↓En.q_revl, ↓En.q_revt, ↓En.q_sll, ↓En.q_slt, ↓En.q_int, ↓En.q_intb, ↓En.q_strs, ↓En.q_atl0, ↓En.q_att0, ↓En.q_atl1, ↓En.q_att1, ↓En.q_atl2, ↓En.q_att2, ↓En.q_atl3, ↓En.q_att3, ↓En.q_atl4, ↓En.q_att4, ↓En.q_atl5, ↓En.q_att5, ↓En.q_atl6, ↓En.q_att6, ↓En.q_atl7, ↓En.q_att7, ↓En.tr_bl, ↓En.tr_int, ↓En.tr_non, ↓En.tr_tup, ↓En.tr_lst, ↓En.no0, ↓En.no1, ↓En.wp0, ↓En.wp1, ↓En.bk0, ↓En.bk1, ↓En.no_no0, ↓En.no_fz0, ↓En.gt0, ↓En.no_no1, ↓En.no_fz1, ↓En.gt1, ↓En.no_no2, ↓En.no_fz2, ↓En.gt2, ↓En.no_no3, ↓En.no_fz3, ↓En.gt3, ↓En.no_no4, ↓En.no_fz4, ↓En.gt4, ↓En.no_no5, ↓En.no_fz5, ↓En.gt5, ↓En.no_no6, ↓En.no_fz6, ↓En.gt6, ↓En.no_no7, ↓En.no_fz7, ↓En.gt7, ↓En.no_no8, ↓En.no_fz8, ↓En.gt8, ↓En.no_no9, ↓En.no_fz9, ↓En.gt9, ↓En.no_no10, ↓En.no_fz10, ↓En.gt10, ↓En.no_no11, ↓En.no_fz11, ↓En.gt11, ↓En.no_no12, ↓En.no_fz12, ↓En.gt12, ↓En.no_no13, ↓En.no_fz13, ↓En.gt13, ↓En.no_no14, ↓En.no_fz14, ↓En.gt14, ↓En.no_no15, ↓En.no_fz15, ↓En.gt15, ↓En.no_no16, ↓En.no_fz16, ↓En.gt16, ↓En.no_no17, ↓En.no_fz17, ↓En.gt17, ↓En.no_no18, ↓En.no_fz18, ↓En.gt18, ↓En.no_no19, ↓En.no_fz19, ↓En.gt19, ↓En.no_no20, ↓En.no_fz20, ↓En.gt20, ↓En.no_no21, ↓En.no_fz21, ↓En.gt21, ↓En.wCp0, ↓En.c_step, ↓En.c_one, ↓En.ap_no, ↓En.ap0, ↓En.ap1, ↓En.ap2, ↓En.ap3, ↓En.ap4, ↓En.ap5, ↓En.ap6, ↓En.ap7, ↓En.ap8, ↓En.ap9, ↓En.q_all, ↓En.q_any, ↓En.bls0, ↓En.bls1, ↓En.isi_non_bool, ↓En.isi_non_int, ↓En.isi_non_str, ↓En.isi_non_tuple, ↓En.isi_non_list, ↓En.isi_non_dict, ↓En.isi_bl_bool, ↓En.isi_bl_int, ↓En.isi_bl_str, ↓En.isi_bl_tuple, ↓En.isi_bl_list, ↓En.isi_bl_dict, ↓En.isi_int_bool, ↓En.isi_int_int, ↓En.isi_int_str, ↓En.isi_int_tuple, ↓En.isi_int_list, ↓En.isi_int_dict, ↓En.isi_str_bool, ↓En.isi_str_int, ↓En.isi_str_str, ↓En.isi_str_tuple, ↓En.isi_str_list, ↓En.isi_str_dict, ↓En.isi_tup_bool, ↓En.isi_tup_int, ↓En.isi_tup_str, ↓En.isi_tup_tuple, ↓En.isi_tup_list, ↓En.isi_tup_dict, ↓En.isi_lst_bool, ↓En.isi_lst_int, ↓En.isi_lst_str, ↓En.isi_lst_tuple, ↓En.isi_lst_list, ↓En.isi_lst_dict, ↓En.isi_dic_bool, ↓En.isi_dic_int, ↓En.isi_dic_str, ↓En.isi_dic_tuple, ↓En.isi_dic_list, ↓En.isi_dic_dict, ↓En.isi_scr_bool, ↓En.isi_scr_int, ↓En.isi_scr_str, ↓En.isi_scr_tuple, ↓En.isi_scr_list, ↓En.isi_scr_dict, reduceCtorEq, List.cons.injEq, Nat.reduceEqDiff, and_true, true_and, and_false, false_and, Int.cast_ofNat_Int, List.length_cons, List.length_nil, Nat.reduceAdd, Nat.reduceLeDiff, Nat.zero_add, Nat.reduceLT, Int.reduceLT, Int.reduceLE, Int.reducePow, Int.reduceToNat, Int.reduceNeg, Int.reduceAdd, Int.reduceSub, Int.reduceMul, Nat.reducePow, Int.reduceEq, Int.reduceBNe, decide_true, decide_false, Bool.not_true, Bool.not_false, beq_self_eq_true, Bool.true_beq, Bool.false_beq, En.cndP, En.cndQ, En.cndN, gt_iff_lt, if_true, if_false] | skip)
local macro_rules | `(tactic| walk_at "start") => `(tactic| (rw [En.wF_run]; simp only [List.map_cons, List.map_nil, List.cons_append, List.nil_append, List.length_cons, List.length_nil, Nat.reduceAdd, Nat.reduceSub, List.replicate_succ, List.replicate_zero]))
local macro_rules | `(tactic| walk_at "if") => `(tactic| (refine En.cnd_if (fun _ => ?_) (fun _ => ?_) <;> walk_at "run"))
namespace Lk
open PySem PySem.Spec PyProof.Rows L2 Fw Wk En
/-- a state that is drawn from -/
structure Dw where
  a : Int
  b : Int
  ha : 0 ≤ a
  hb : 0 ≤ b
  hb2 : b < 2147483647
def drw (q : Dw) : Cell := .lst [.int q.a, .int q.b]
variable {K : RV → S → Prop} {E : Ex → S → Prop} {s : S} {sl : List Sl} {p : List Cell} {q : Dw}
theorem l_obj {n : Nat} {st : List Cell} {ds : List D} (h : st[n]? = some (.lst ds)) {L : D → Prop} : wL ⟨sl, st⟩ (.fz (.obj n)) L = L (.lst ds) := by
  unfold wL look lookO
  dsimp only
  rw [h]
theorem l_drw {L : D → Prop} : wL ⟨sl, p ++ [.lst [.int x, .int y]]⟩ (.fz (.obj p.length)) L = L (.lst [.int x, .int y]) := l_obj at_end
theorem c_drw {f : D → Option D} {N : S → Prop} {xs ys : List D} (h : f (.lst xs) = some (.lst ys)) : wCh f (.fz (.obj p.length)) ⟨sl, p ++ [.lst xs]⟩ N = N ⟨sl, p ++ [.lst ys]⟩ := by
  unfold wCh change
  dsimp only
  rw [at_end]
  dsimp only
  rw [h]
  dsimp only
  rw [set_end]
theorem c_drw0 {N : S → Prop} {a b x : D} : wCh (fun d => updAt d (.int 0) x) (.fz (.obj p.length)) ⟨sl, p ++ [.lst [a, b]]⟩ N = N ⟨sl, p ++ [.lst [x, b]]⟩ := c_drw rfl
theorem c_drw1 {N : S → Prop} {a b x : D} : wCh (fun d => updAt d (.int 1) x) (.fz (.obj p.length)) ⟨sl, p ++ [.lst [a, b]]⟩ N = N ⟨sl, p ++ [.lst [a, x]]⟩ := c_drw rfl
local macro_rules | `(tactic| walk_at "run") => `(tactic| first | simp -dsimp -implicitDefEqProofs only [↓En.cndP, ↓En.cndQ, ↓En.cndN, ↓En.l_non, ↓En.l_bl, ↓En.l_int, ↓En.l_str, ↓En.l_tup, ↓En.l_lst, ↓En.l_dic, ↓En.l_scr, ↓En.l_ty, ↓En.l_exc, ↓En.l_any, ↓En.l_ow, ↓En.l_lnow0, ↓En.v_ow0, ↓En.st_lnow0, ↓En.rt_lnow0, ↓En.l_lnfz0, ↓En.v_fz0, ↓En.st_lnfz0, ↓En.rt_lnfz0, ↓En.so_fz0, ↓En.so_ow0, ↓En.s1_0, ↓En.ch_ow0, ↓En.l_lnow1, ↓En.v_ow1, ↓En.st_lnow1, ↓En.rt_lnow1, ↓En.l_lnfz1, ↓En.v_fz1, ↓En.st_lnfz1, ↓En.rt_lnfz1, ↓En.so_fz1, ↓En.so_ow1, ↓En.s1_1, ↓En.ch_ow1, ↓En.l_lnow2, ↓En.v_ow2, ↓En.st_lnow2, ↓En.rt_lnow2, ↓En.l_lnfz2, ↓En.v_fz2, ↓En.st_lnfz2, ↓En.rt_lnfz2, ↓En.so_fz2, ↓En.so_ow2, ↓En.s1_2, ↓En.ch_ow2, ↓En.l_lnow3, ↓En.v_ow3, ↓En.st_lnow3, ↓En.rt_lnow3, ↓En.l_lnfz3, ↓En.v_fz3, ↓En.st_lnfz3, ↓En.rt_lnfz3, ↓En.so_fz3, ↓En.so_ow3, ↓En.s1_3, ↓En.ch_ow3, ↓En.l_lnow4, ↓En.v_ow4, ↓En.st_lnow4, ↓En.rt_lnow4, ↓En.l_lnfz4, ↓En.v_fz4, ↓En.st_lnfz4, ↓En.rt_lnfz4, ↓En.so_fz4, ↓En.so_ow4, ↓En.s1_4, ↓En.ch_ow4, ↓En.l_lnow5, ↓En.v_ow5, ↓En.st_lnow5, ↓En.rt_lnow5, ↓En.l_lnfz5, ↓En.v_fz5, ↓En.st_lnfz5, ↓En.rt_lnfz5, ↓En.so_fz5, ↓En.so_ow5, ↓En.s1_5, ↓En.ch_ow5, ↓En.l_lnow6, ↓En.v_ow6, ↓En.st_lnow6, ↓En.rt_lnow6, ↓En.l_lnfz6, ↓En.v_fz6, ↓En.st_lnfz6, ↓En.rt_lnfz6, ↓En.so_fz6, ↓En.so_ow6, ↓En.s1_6, ↓En.ch_ow6, ↓En.l_lnow7, ↓En.v_ow7, ↓En.st_lnow7, ↓En.rt_lnow7, ↓En.l_lnfz7, ↓En.v_fz7, ↓En.st_lnfz7, ↓En.rt_lnfz7, ↓En.so_fz7, ↓En.so_ow7, ↓En.s1_7, ↓En.ch_ow7, ↓En.l_lnow8, ↓En.v_ow8, ↓En.st_lnow8, ↓En.rt_lnow8, ↓En.l_lnfz8, ↓En.v_fz8, ↓En.st_lnfz8, ↓En.rt_lnfz8, ↓En.so_fz8, ↓En.so_ow8, ↓En.s1_8, ↓En.ch_ow8, ↓En.l_lnow9, ↓En.v_ow9, ↓En.st_lnow9, ↓En.rt_lnow9, ↓En.l_lnfz9, ↓En.v_fz9, ↓En.st_lnfz9, ↓En.rt_lnfz9, ↓En.so_fz9, ↓En.so_ow9, ↓En.s1_9, ↓En.ch_ow9, ↓En.l_lnow10, ↓En.v_ow10, ↓En.st_lnow10, ↓En.rt_lnow10, ↓En.l_lnfz10, ↓En.v_fz10, ↓En.st_lnfz10, ↓En.rt_lnfz10, ↓En.so_fz10, ↓En.so_ow10, ↓En.s1_10, ↓En.ch_ow10, ↓En.l_lnow11, ↓En.v_ow11, ↓En.st_lnow11, ↓En.rt_lnow11, ↓En.l_lnfz11, ↓En.v_fz11, ↓En.st_lnfz11, ↓En.rt_lnfz11, ↓En.so_fz11, ↓En.so_ow11, ↓En.s1_11, ↓En.ch_ow11, ↓En.l_lnow12, ↓En.v_ow12, ↓En.st_lnow12, ↓En.rt_lnow12, ↓En.l_lnfz12, ↓En.v_fz12, ↓En.st_lnfz12, ↓En.rt_lnfz12, ↓En.so_fz12, ↓En.so_ow12, ↓En.s1_12, ↓En.ch_ow12, ↓En.l_lnow13, ↓En.v_ow13, ↓En.st_lnow13, ↓En.rt_lnow13, ↓En.l_lnfz13, ↓En.v_fz13, ↓En.st_lnfz13, ↓En.rt_lnfz13, ↓En.so_fz13, ↓En.so_ow13, ↓En.s1_13, ↓En.ch_ow13, ↓En.l_lnow14, ↓En.v_ow14, ↓En.st_lnow14, ↓En.rt_lnow14, ↓En.l_lnfz14, ↓En.v_fz14, ↓En.st_lnfz14, ↓En.rt_lnfz14, ↓En.so_fz14, ↓En.so_ow14, ↓En.s1_14, ↓En.ch_ow14, ↓En.l_lnow15, ↓En.v_ow15, ↓En.st_lnow15, ↓En.rt_lnow15, ↓En.l_lnfz15, ↓En.v_fz15, ↓En.st_lnfz15, ↓En.rt_lnfz15, ↓En.so_fz15, ↓En.so_ow15, ↓En.s1_15, ↓En.ch_ow15, ↓En.l_lnow16, ↓En.v_ow16, ↓En.st_lnow16, ↓En.rt_lnow16, ↓En.l_lnfz16, ↓En.v_fz16, ↓En.st_lnfz16, ↓En.rt_lnfz16, ↓En.so_fz16, ↓En.so_ow16, ↓En.s1_16, ↓En.ch_ow16, ↓En.l_lnow17, ↓En.v_ow17, ↓En.st_lnow17, ↓En.rt_lnow17, ↓En.l_lnfz17, ↓En.v_fz17, ↓En.st_lnfz17, ↓En.rt_lnfz17, ↓En.so_fz17, ↓En.so_ow17, ↓En.s1_17, ↓En.ch_ow17, ↓En.l_lnow18, ↓En.v_ow18, ↓En.st_lnow18, ↓En.rt_lnow18, ↓En.l_lnfz18, ↓En.v_fz18, ↓En.st_lnfz18, ↓En.rt_lnfz18, ↓En.so_fz18, ↓En.so_ow18, ↓En.s1_18, ↓En.ch_ow18, ↓En.l_lnow19, ↓En.v_ow19, ↓En.st_lnow19, ↓En.rt_lnow19, ↓En.l_lnfz19, ↓En.v_fz19, ↓En.st_lnfz19, ↓En.rt_lnfz19, ↓En.so_fz19, ↓En.so_ow19, ↓En.s1_19, ↓En.ch_ow19, ↓En.l_lnow20, ↓En.v_ow20, ↓En.st_lnow20, ↓En.rt_lnow20, ↓En.l_lnfz20, ↓En.v_fz20, ↓En.st_lnfz20, ↓En.rt_lnfz20, ↓En.so_fz20, ↓En.so_ow20, ↓En.s1_20, ↓En.ch_ow20, ↓En.l_lnow21, ↓En.v_ow21, ↓En.st_lnow21, ↓En.rt_lnow21, ↓En.l_lnfz21, ↓En.v_fz21, ↓En.st_lnfz21, ↓En.rt_lnfz21, ↓En.so_fz21, ↓En.so_ow21, ↓En.s1_21, ↓En.ch_ow21, ↓En.so_ln, ↓En.wop_some, ↓En.st_fz, ↓En.rt_fz, ↓En.rt_ow, ↓En.k_fz, ↓En.k_ow, ↓En.k_ln, ↓En.ls0, ↓En.ls1, ↓En.sa0, ↓En.sa1, ↓En.g_lit, ↓En.g_bin, ↓En.lift2_eq, ↓En.lift1_eq, ↓En.g_un, ↓En.g_not, ↓En.g_and, ↓En.g_or, ↓En.g_if, ↓En.g_toT, ↓En.wt_or, ↓En.wt_and, ↓En.wt_not, ↓En.wt_bin, ↓En.wt_un, ↓En.wt_cb, ↓En.wt_var, ↓En.wt_call, ↓En.wt_lit, ↓En.wt_meth, ↓En.wt_chain, ↓En.wt_comp, ↓En.wt_if, ↓En.g_args0, ↓En.g_args1, ↓En.g_with, ↓En.ca, ↓En.g_call, ↓En.tup_ok, ↓En.lst_ok, ↓En.g_cb, ↓En.g_meth, ↓En.is_str, ↓En.is_lst, ↓En.isl, ↓En.part0, ↓En.part1, ↓En.wint, ↓En.g_slice, ↓En.g_d01, ↓En.g_rev, ↓En.g_dic0, ↓En.g_fmt, ↓En.js0, ↓En.js_e, ↓En.js_S, ↓En.wstr, ↓En.g_chain, ↓En.chn, ↓En.g_app, ↓En.g_ext, ↓En.wlst, ↓En.g_pop, ↓En.g_pro, ↓En.pro, ↓En.to_, ↓En.fz0, ↓En.fzF, ↓En.fzO, ↓En.fzN, ↓En.g_said, ↓En.t_name, ↓En.ta0, ↓En.taF, ↓En.taO, ↓En.gs0, ↓En.gs1, ↓En.t_tup, ↓En.wtup, ↓En.t_sub, ↓En.s_seq, ↓En.s_next, ↓En.s_cont, ↓En.s_drop, ↓En.s_ret, ↓En.s_retn, ↓En.s_if, ↓En.s_set, ↓En.s_asg, ↓En.s_par, ↓En.s_parg, ↓En.set0, ↓En.set1, ↓En.held0, ↓En.held1, ↓En.ho_fz, ↓En.ho_ow, ↓En.ho_ln, ↓En.s_raise, ↓En.s_raiset, ↓En.s_for, ↓En.i_seq, ↓En.it_lst, ↓En.it_tup, ↓En.it_str, ↓En.wrg, ↓En.i_rng1, ↓En.i_rng2, ↓En.cm, ↓En.g_comp, ↓En.t_yes, ↓En.fo_fz, ↓En.fo_ow, ↓En.s_loop, ↓En.q_add, ↓En.q_sub, ↓En.q_div, ↓En.q_mod, ↓En.q_pow, ↓En.q_lt, ↓En.q_le, ↓En.q_gt, ↓En.q_ge, ↓En.q_eqi, ↓En.q_nei, ↓En.q_is_non, ↓En.q_isn_non, ↓En.q_is_bl, ↓En.q_isn_bl, ↓En.q_is_int, ↓En.q_isn_int, ↓En.q_is_str, ↓En.q_isn_str, ↓En.q_is_tup, ↓En.q_isn_tup, ↓En.q_is_lst, ↓En.q_isn_lst, ↓En.q_is_dic, ↓En.q_isn_dic, ↓En.q_is_obj, ↓En.q_isn_obj, ↓En.q_eqb, ↓En.q_neb, ↓En.q_not, ↓En.q_neg, ↓En.q_abs, ↓En.q_max, ↓En.q_min, ↓En.q_lenl, ↓En.q_lent, ↓En.q_lenc, ↓En.q_listl, ↓En.q_listt, ↓En.q_tupl, ↓En.q_tupt, ↓En.q_revl, ↓En.q_revt, ↓En.q_sll, ↓En.q_slt, ↓En.q_int, ↓En.q_intb, ↓En.q_strs, ↓En.q_atl0, ↓En.q_att0, ↓En.q_atl1, ↓En.q_att1, ↓En.q_atl2, ↓En.q_att2, ↓En.q_atl3, ↓En.q_att3, ↓En.q_atl4, ↓En.q_att4, ↓En.q_atl5, ↓En.q_att5, ↓En.q_atl6, ↓En.q_att6, ↓En.q_atl7, ↓En.q_att7, ↓En.tr_bl, ↓En.tr_int, ↓En.tr_non, ↓En.tr_tup, ↓En.tr_lst, ↓En.no0, ↓En.no1, ↓En.wp0, ↓En.wp1, ↓En.bk0, ↓En.bk1, ↓En.no_no0, ↓En.no_fz0, ↓En.gt0, ↓En.no_no1, ↓En.no_fz1, ↓En.gt1, ↓En.no_no2, ↓En.no_fz2, ↓En.gt2, ↓En.no_no3, ↓En.no_fz3, ↓En.gt3, ↓En.no_no4, ↓En.no_fz4, ↓En.gt4, ↓En.no_no5, ↓En.no_fz5, ↓En.gt5, ↓En.no_no6, ↓En.no_fz6, ↓En.gt6, ↓En.no_no7, ↓En.no_fz7, ↓En.gt7, ↓En.no_no8, ↓En.no_fz8, ↓En.gt8, ↓En.no_no9, ↓En.no_fz9, ↓En.gt9, ↓En.no_no10, ↓En.no_fz10, ↓En.gt10, ↓En.no_no11, ↓En.no_fz11, ↓En.gt11, ↓En.no_no12, ↓En.no_fz12, ↓En.gt12, ↓En.no_no13, ↓En.no_fz13, ↓En.gt13, ↓En.no_no14, ↓En.no_fz14, ↓En.gt14, ↓En.no_no15, ↓En.no_fz15, ↓En.gt15, ↓En.no_no16, ↓En.no_fz16, ↓En.gt16, ↓En.no_no17, ↓En.no_fz17, ↓En.gt17, ↓En.no_no18, ↓En.no_fz18, ↓En.gt18, ↓En.no_no19, ↓En.no_fz19, ↓En.gt19, ↓En.no_no20, ↓En.no_fz20, ↓En.gt20, ↓En.no_no21, ↓En.no_fz21, ↓En.gt21, ↓En.wCp0, ↓En.c_step, ↓En.c_one, ↓En.ap_no, ↓En.ap0, ↓En.ap1, ↓En.ap2, ↓En.ap3, ↓En.ap4, ↓En.ap5, ↓En.ap6, ↓En.ap7, ↓En.ap8, ↓En.ap9, ↓En.q_all, ↓En.q_any, ↓En.bls0, ↓En.bls1, ↓En.isi_non_bool, ↓En.isi_non_int, ↓En.isi_non_str, ↓En.isi_non_tuple, ↓En.isi_non_list, ↓En.isi_non_dict, ↓En.isi_bl_bool, ↓En.isi_bl_int, ↓En.isi_bl_str, ↓En.isi_bl_tuple, ↓En.isi_bl_list, ↓En.isi_bl_dict, ↓En.isi_int_bool, ↓En.isi_int_int, ↓En.isi_int_str, ↓En.isi_int_tuple, ↓En.isi_int_list, ↓En.isi_int_dict, ↓En.isi_str_bool, ↓En.isi_str_int, ↓En.isi_str_str, ↓En.isi_str_tuple, ↓En.isi_str_list, ↓En.isi_str_dict, ↓En.isi_tup_bool, ↓En.isi_tup_int, ↓En.isi_tup_str, ↓En.isi_tup_tuple, ↓En.isi_tup_list, ↓En.isi_tup_dict, ↓En.isi_lst_bool, ↓En.isi_lst_int, ↓En.isi_lst_str, ↓En.isi_lst_tuple, ↓En.isi_lst_list, ↓En.isi_lst_dict, ↓En.isi_dic_bool, ↓En.isi_dic_int, ↓En.isi_dic_str, ↓En.isi_dic_tuple, ↓En.isi_dic_list, ↓En.isi_dic_dict, ↓En.isi_scr_bool, ↓En.isi_scr_int, ↓En.isi_scr_str, ↓En.isi_scr_tuple, ↓En.isi_scr_list, ↓En.isi_scr_dict, reduceCtorEq, List.cons.injEq, Nat.reduceEqDiff, and_true, true_and, and_false, false_and, Int.cast_ofNat_Int, List.length_cons, List.length_nil, Nat.reduceAdd, Nat.reduceLeDiff, Nat.zero_add, Nat.reduceLT, Int.reduceLT, Int.reduceLE, Int.reducePow, Int.reduceToNat, Int.reduceNeg, Int.reduceAdd, Int.reduceSub, Int.reduceMul, Nat.reducePow, Int.reduceEq, Int.reduceBNe, decide_true, decide_false, Bool.not_true, Bool.not_false, beq_self_eq_true, Bool.true_beq, Bool.false_beq, En.cndP, En.cndQ, En.cndN, gt_iff_lt, if_true, if_false, ↓Lk.l_drw, ↓Lk.c_drw0, ↓Lk.c_drw1] | skip)
theorem w_take {m : Int} {K : RV → List Cell → Prop} {E : Ex → List Cell → Prop} (hm : 0 < m) (hm2 : m < 2 ^ 60) (h : ∀ (r : Int) (q1 : Dw), 0 ≤ r → r < m → K (.fz (.int r)) (p ++ [drw q1])) :
    wF (f__law_take [.obj p.length, .int m] (p ++ [drw q])) K E := by
  obtain ⟨a, b, ha, hb, hb2⟩ := q
  unfold f__law_take g__law_take drw
  walk_at "start"
  walk_at "run"
  walk_at "if"
  · walk_at "run"
    rw [q_mod hm]
    walk_at "run"
    rw [q_div hm (by omega)]
    walk_at "run"
    exact h _ ⟨a / m, b, Int.ediv_nonneg ha (by omega), hb, hb2⟩ (Int.emod_nonneg _ (by omega)) (Int.emod_lt_of_pos _ hm)
  · walk_at "run"
    rw [q_mul (by omega) (by decide)]
    walk_at "run"
    rw [q_mul (by omega) (by omega)]
    walk_at "run"
    rw [q_mul (by omega) (by omega)]
    walk_at "run"
    rw [q_mul (by omega) (by omega)]
    walk_at "run"
    rw [q_mul (by omega) (by omega)]
    walk_at "run"
    rw [q_mod hm]
    walk_at "run"
    exact h _ ⟨a, (b * 48271 + 29) % 2147483647, ha, by omega, by omega⟩ (Int.emod_nonneg _ (by omega)) (Int.emod_lt_of_pos _ hm)
end Lk

set_option Elab.async false
set_option linter.all false
set_option maxRecDepth 100000
set_option maxHeartbeats 4000000
local macro_rules | `(tactic| walk_at "run") => `(tactic| first | simp -dsimp -implicitDefEqProofs only [↓En.cndP, ↓En.cndQ, ↓En.cndN, ↓En.l_non, ↓En.l_bl, ↓En.l_int, ↓En.l_str, ↓En.l_tup, ↓En.l_lst, ↓En.l_dic, ↓En.l_scr, ↓En.l_ty, ↓En.l_exc, ↓En.l_any, ↓En.l_ow, ↓En.l_lnow0, ↓En.v_ow0, ↓En.st_lnow0, ↓En.rt_lnow0, ↓En.l_lnfz0, ↓En.v_fz0, ↓En.st_lnfz0, ↓En.rt_lnfz0, ↓En.so_fz0, ↓En.so_ow0, ↓En.s1_0, ↓En.ch_ow0, ↓En.l_lnow1, ↓En.v_ow1, ↓En.st_lnow1, ↓En.rt_lnow1, ↓En.l_lnfz1, ↓En.v_fz1, ↓En.st_lnfz1, ↓En.rt_lnfz1, ↓En.so_fz1, ↓En.so_ow1, ↓En.s1_1, ↓En.ch_ow1, ↓En.l_lnow2, ↓En.v_ow2, ↓En.st_lnow2, ↓En.rt_lnow2, ↓En.l_lnfz2, ↓En.v_fz2, ↓En.st_lnfz2, ↓En.rt_lnfz2, ↓En.so_fz2, ↓En.so_ow2, ↓En.s1_2, ↓En.ch_ow2, ↓En.l_lnow3, ↓En.v_ow3, ↓En.st_lnow3, ↓En.rt_lnow3, ↓En.l_lnfz3, ↓En.v_fz3, ↓En.st_lnfz3, ↓En.rt_lnfz3, ↓En.so_fz3, ↓En.so_ow3, ↓En.s1_3, ↓En.ch_ow3, ↓En.l_lnow4, ↓En.v_ow4, ↓En.st_lnow4, ↓En.rt_lnow4, ↓En.l_lnfz4, ↓En.v_fz4, ↓En.st_lnfz4, ↓En.rt_lnfz4, ↓En.so_fz4, ↓En.so_ow4, ↓En.s1_4, ↓En.ch_ow4, ↓En.l_lnow5, ↓En.v_ow5, ↓En.st_lnow5, ↓En.rt_lnow5, ↓En.l_lnfz5, ↓En.v_fz5, ↓En.st_lnfz5, ↓En.rt_lnfz5, ↓En.so_fz5, ↓En.so_ow5, ↓En.s1_5, ↓En.ch_ow5, ↓En.l_lnow6, ↓En.v_ow6, ↓En.st_lnow6, ↓En.rt_lnow6, ↓En.l_lnfz6, ↓En.v_fz6, ↓En.st_lnfz6, ↓En.rt_lnfz6, ↓En.so_fz6, ↓En.so_ow6, ↓En.s1_6, ↓En.ch_ow6, ↓En.l_lnow7, ↓En.v_ow7, ↓En.st_lnow7, ↓En.rt_lnow7, ↓En.l_lnfz7, ↓En.v_fz7, ↓En.st_lnfz7, ↓En.rt_lnfz7, ↓En.so_fz7, ↓En.so_ow7, ↓En.s1_7, ↓En.ch_ow7, ↓En.l_lnow8, ↓En.v_ow8, ↓En.st_lnow8, ↓En.rt_lnow8, ↓En.l_lnfz8, ↓En.v_fz8, ↓En.st_lnfz8, ↓En.rt_lnfz8, ↓En.so_fz8, ↓En.so_ow8, ↓En.s1_8, ↓En.ch_ow8, ↓En.l_lnow9, ↓En.v_ow9, ↓En.st_lnow9, ↓En.rt_lnow9, ↓En.l_lnfz9, ↓En.v_fz9, ↓En.st_lnfz9, ↓En.rt_lnfz9, ↓En.so_fz9, ↓En.so_ow9, ↓En.s1_9, ↓En.ch_ow9, ↓En.l_lnow10, ↓En.v_ow10, ↓En.st_lnow10, ↓En.rt_lnow10, ↓En.l_lnfz10, ↓En.v_fz10, ↓En.st_lnfz10, ↓En.rt_lnfz10, ↓En.so_fz10, ↓En.so_ow10, ↓En.s1_10, ↓En.ch_ow10, ↓En.l_lnow11, ↓En.v_ow11, ↓En.st_lnow11, ↓En.rt_lnow11, ↓En.l_lnfz11, ↓En.v_fz11, ↓En.st_lnfz11, ↓En.rt_lnfz11, ↓En.so_fz11, ↓En.so_ow11, ↓En.s1_11, ↓En.ch_ow11, ↓En.l_lnow12, ↓En.v_ow12, ↓En.st_lnow12, ↓En.rt_lnow12, ↓En.l_lnfz12, ↓En.v_fz12, ↓En.st_lnfz12, ↓En.rt_lnfz12, ↓En.so_fz12, ↓En.so_ow12, ↓En.s1_12, ↓En.ch_ow12, ↓En.l_lnow13, ↓En.v_ow13, ↓En.st_lnow13, ↓En.rt_lnow13, ↓En.l_lnfz13, ↓En.v_fz13, ↓En.st_lnfz13, ↓En.rt_lnfz13, ↓En.so_fz13, ↓En.so_ow13, ↓En.s1_13, ↓En.ch_ow13, ↓En.l_lnow14, ↓En.v_ow14, ↓En.st_lnow14, ↓En.rt_lnow14, ↓En.l_lnfz14, ↓En.v_fz14, ↓En.st_lnfz14, ↓En.rt_lnfz14, ↓En.so_fz14, ↓En.so_ow14, ↓En.s1_14, ↓En.ch_ow14, ↓En.l_lnow15, ↓En.v_ow15, ↓En.st_lnow15, ↓En.rt_lnow15, ↓En.l_lnfz15, ↓En.v_fz15, ↓En.st_lnfz15, ↓En.rt_lnfz15, ↓En.so_fz15, ↓En.so_ow15, ↓En.s1_15, ↓En.ch_ow15, ↓En.l_lnow16, ↓En.v_ow16, ↓En.st_lnow16, ↓En.rt_lnow16, ↓En.l_lnfz16, ↓En.v_fz16, ↓En.st_lnfz16, ↓En.rt_lnfz16, ↓En.so_fz16, ↓En.so_ow16, ↓En.s1_16, ↓En.ch_ow16, ↓En.l_lnow17, ↓En.v_ow17, ↓En.st_lnow17, ↓En.rt_lnow17, ↓En.l_lnfz17, ↓En.v_fz17, ↓En.st_lnfz17, ↓En.rt_lnfz17, ↓En.so_fz17, ↓En.so_ow17, ↓En.s1_17, ↓En.ch_ow17, ↓En.l_lnow18, ↓En.v_ow18, ↓En.st_lnow18, ↓En.rt_lnow18, ↓En.l_lnfz18, ↓En.v_fz18, ↓En.st_lnfz18, ↓En.rt_lnfz18, ↓En.so_fz18, ↓En.so_ow18, ↓En.s1_18, ↓En.ch_ow18, ↓En.l_lnow19, ↓En.v_ow19, ↓En.st_lnow19, ↓En.rt_lnow19, ↓En.l_lnfz19, ↓En.v_fz19, ↓En.st_lnfz19, ↓En.rt_lnfz19, ↓En.so_fz19, ↓En.so_ow19, ↓En.s1_19, ↓En.ch_ow19, ↓En.l_lnow20, ↓En.v_ow20, ↓En.st_lnow20, ↓En.rt_lnow20, ↓En.l_lnfz20, ↓En.v_fz20, ↓En.st_lnfz20, ↓En.rt_lnfz20, ↓En.so_fz20, ↓En.so_ow20, ↓En.s1_20, ↓En.ch_ow20, ↓En.l_lnow21, ↓En.v_ow21, ↓En.st_lnow21, ↓En.rt_lnow21, ↓En.l_lnfz21, ↓En.v_fz21, ↓En.st_lnfz21, ↓En.rt_lnfz21, ↓En.so_fz21, ↓En.so_ow21, ↓En.s1_21, ↓En.ch_ow21, ↓En.so_ln, ↓En.wop_some, ↓En.st_fz, ↓En.rt_fz, ↓En.rt_ow, ↓En.k_fz, ↓En.k_ow, ↓En.k_ln, ↓En.ls0, ↓En.ls1, ↓En.sa0, ↓En.sa1, ↓En.g_lit, ↓En.g_bin, ↓En.lift2_eq, ↓En.lift1_eq, ↓En.g_un, ↓En.g_not, ↓En.g_and, ↓En.g_or, ↓En.g_if, ↓En.g_toT, ↓En.wt_or, ↓En.wt_and, ↓En.wt_not, ↓En.wt_bin, ↓En.wt_un, ↓En.wt_cb, ↓En.wt_var, ↓En.wt_call, ↓En.wt_lit, ↓En.wt_meth, ↓En.wt_chain, ↓En.wt_comp, ↓En.wt_if, ↓En.g_args0, ↓En.g_args1, ↓En.g_with, ↓En.ca, ↓En.g_call, ↓En.tup_ok, ↓En.lst_ok, ↓En.g_cb, ↓En.g_meth, ↓En.is_str, ↓En.is_lst, ↓En.isl, ↓En.part0, ↓En.part1, ↓En.wint, ↓En.g_slice, ↓En.g_d01, ↓En.g_rev, ↓En.g_dic0, ↓En.g_fmt, ↓En.js0, ↓En.js_e, ↓En.js_S, ↓En.wstr, ↓En.g_chain, ↓En.chn, ↓En.g_app, ↓En.g_ext, ↓En.wlst, ↓En.g_pop, ↓En.g_pro, ↓En.pro, ↓En.to_, ↓En.fz0, ↓En.fzF, ↓En.fzO, ↓En.fzN, ↓En.g_said, ↓En.t_name, ↓En.ta0, ↓En.taF, ↓En.taO, ↓En.gs0, ↓En.gs1, ↓En.t_tup, ↓En.wtup, ↓En.t_sub, ↓En.s_seq, ↓En.s_next, ↓En.s_cont, ↓En.s_drop, ↓En.s_ret, ↓En.s_retn, ↓En.s_if, ↓En.s_set, ↓En.s_asg, ↓En.s_par, ↓En.s_parg, ↓En.set0, ↓En.set1, ↓En.held0, ↓En.held1, ↓En.ho_fz, ↓En.ho_ow, ↓En.ho_ln, ↓En.s_raise, ↓En.s_raiset, ↓En.s_for, ↓En.i_seq, ↓En.it_lst, ↓En.it_tup, ↓En.it_str, ↓En.wrg, ↓En.i_rng1, ↓En.i_rng2, ↓En.cm, ↓En.g_comp, ↓En.t_yes, ↓En.fo_fz, ↓En.fo_ow, ↓En.s_loop, ↓En.q_add, ↓En.q_sub, ↓En.q_div, ↓En.q_mod, ↓En.q_pow, ↓En.q_lt, ↓En.q_le, ↓En.q_gt, ↓En.q_ge, ↓En.q_eqi, ↓En.q_nei, ↓En.q_is_non, ↓En.q_isn_non, ↓En.q_is_bl, ↓En.q_isn_bl, ↓En.q_is_int, ↓En.q_isn_int, ↓En.q_is_str, ↓En.q_isn_str, ↓En.q_is_tup, ↓En.q_isn_tup, ↓En.q_is_lst, ↓En.q_isn_lst, ↓En.q_is_dic, ↓En.q_isn_dic, ↓En.q_is_obj, ↓En.q_isn_obj, ↓En.q_eqb, ↓En.q_neb, ↓En.q_not, ↓En.q_neg, ↓En.q_abs, ↓En.q_max, ↓En.q_min, ↓En.q_lenl, ↓En.q_lent, ↓En.q_lenc, ↓En.q_listl, ↓En.q_listt, ↓En.q_tupl, ↓En.q_tupt, ↓En.q_revl, ↓En.q_revt, ↓En.q_sll, ↓En.q_slt, ↓En.q_int, ↓En.q_intb, ↓En.q_strs, ↓En.q_atl0, ↓En.q_att0, ↓En.q_atl1, ↓En.q_att1, ↓En.q_atl2, ↓En.q_att2, ↓En.q_atl3, ↓En.q_att3, ↓En.q_atl4, ↓En.q_att4, ↓En.q_atl5, ↓En.q_att5, ↓En.q_atl6, ↓En.q_att6, ↓En.q_atl7, ↓En.q_att7, ↓En.tr_bl, ↓En.tr_int, ↓En.tr_non, ↓En.tr_tup, ↓En.tr_lst, ↓En.no0, ↓En.no1, ↓En.wp0, ↓En.wp1, ↓En.bk0, ↓En.bk1, ↓En.no_no0, ↓En.no_fz0, ↓En.gt0, ↓En.no_no1, ↓En.no_fz1, ↓En.gt1, ↓En.no_no2, ↓En.no_fz2, ↓En.gt2, ↓En.no_no3, ↓En.no_fz3, ↓En.gt3, ↓En.no_no4, ↓En.no_fz4, ↓En.gt4, ↓En.no_no5, ↓En.no_fz5, ↓En.gt5, ↓En.no_no6, ↓En.no_fz6, ↓En.gt6, ↓En.no_no7, ↓En.no_fz7, ↓En.gt7, ↓En.no_no8, ↓En.no_fz8, ↓En.gt8, ↓En.no_no9, ↓En.no_fz9, ↓En.gt9, ↓En.no_no10, ↓En.no_fz10, ↓En.gt10, ↓En.no_no11, ↓En.no_fz11, ↓En.gt11, ↓En.no_no12, ↓En.no_fz12, ↓En.gt12, ↓En.no_no13, ↓En.no_fz13, ↓En.gt13, ↓En.no_no14, ↓En.no_fz14, ↓En.gt14, ↓En.no_no15, ↓En.no_fz15, ↓En.gt15, ↓En.no_no16, ↓En.no_fz16, ↓En.gt16, ↓En.no_no17, ↓En.no_fz17, ↓En.gt17, ↓En.no_no18, ↓En.no_fz18, ↓En.gt18, ↓En.no_no19, ↓En.no_fz19, ↓En.gt19, ↓En.no_no20, ↓En.no_fz20, ↓En.gt20, ↓En.no_no21, ↓En.no_fz21, ↓En.gt21, ↓En.wCp0, ↓En.c_step, ↓En.c_one, ↓En.ap_no, ↓En.ap0, ↓En.ap1, ↓En.ap2, ↓En.ap3, ↓En.ap4, ↓En.ap5, ↓En.ap6, ↓En.ap7, ↓En.ap8, ↓En.ap9, ↓En.q_all, ↓En.q_any, ↓En.bls0, ↓En.bls1, ↓En.isi_non_bool, ↓En.isi_non_int, ↓En.isi_non_str, ↓En.isi_non_tuple, ↓En.isi_non_list, ↓En.isi_non_dict, ↓En.isi_bl_bool, ↓En.isi_bl_int, ↓En.isi_bl_str, ↓En.isi_bl_tuple, ↓En.isi_bl_list, ↓En.isi_bl_dict, ↓En.isi_int_bool, ↓En.isi_int_int, ↓En.isi_int_str, ↓En.isi_int_tuple, ↓En.isi_int_list, ↓En.isi_int_dict, ↓En.isi_str_bool, ↓En.isi_str_int, ↓En.isi_str_str, ↓En.isi_str_tuple, ↓En.isi_str_list, ↓En.isi_str_dict, ↓En.isi_tup_bool, ↓En.isi_tup_int, ↓En.isi_tup_str, ↓En.isi_tup_tuple, ↓En.isi_tup_list, ↓En.isi_tup_dict, ↓En.isi_lst_bool, ↓En.isi_lst_int, ↓En.isi_lst_str, ↓En.isi_lst_tuple, ↓En.isi_lst_list, ↓En.isi_lst_dict, ↓En.isi_dic_bool, ↓En.isi_dic_int, ↓En.isi_dic_str, ↓En.isi_dic_tuple, ↓En.isi_dic_list, ↓En.isi_dic_dict, ↓En.isi_scr_bool, ↓En.isi_scr_int, ↓En.isi_scr_str, ↓En.isi_scr_tuple, ↓En.isi_scr_list, ↓En.isi_scr_dict, reduceCtorEq, List.cons.injEq, Nat.reduceEqDiff, and_true, true_and, and_false, false_and, Int.cast_ofNat_Int, List.length_cons, List.length_nil, Nat.reduceAdd, Nat.reduceLeDiff, Nat.zero_add, Nat.reduceLT, Int.reduceLT, Int.reduceLE, Int.reducePow, Int.reduceToNat, Int.reduceNeg, Int.reduceAdd, Int.reduceSub, Int.reduceMul, Nat.reducePow, Int.reduceEq, Int.reduceBNe, decide_true, decide_false, Bool.not_true, Bool.not_false, beq_self_eq_true, Bool.true_beq, Bool.false_beq, En.cndP, En.cndQ, En.cndN, gt_iff_lt, if_true, if_false] | skip)
local macro_rules | `(tactic| walk_at "start") => `(tactic| (rw [En.wF_run]; simp only [List.map_cons, List.map_nil, List.cons_append, List.nil_append, List.length_cons, List.length_nil, Nat.reduceAdd, Nat.reduceSub, List.replicate_succ, List.replicate_zero]))
local macro_rules | `(tactic| walk_at "if") => `(tactic| (refine En.cnd_if (fun _ => ?_) (fun _ => ?_) <;> walk_at "run"))
namespace Lk
open PySem PySem.Spec PyProof.Rows L2 Fw Wk En
variable {st : List Cell} {K : RV → List Cell → Prop} {E : Ex → List Cell → Prop}
theorem loop_common : ∀ (m n : Nat) {N : S → Prop} {T : RV → S → Prop} {E : Ex → S → Prop}, N ⟨[.fz (.int (Nat.gcd m n)), .fz (.int 0)], st⟩ →
    wLo (gBin (lift2 (cmpD .NotEq)) (gVar 1) (gLit (.int 0))) (gSeq (gPar [0, 1] [(gVar 1), (gBin (lift2 (binD .Mod)) (gVar 0) (gVar 1))]) gNext) ⟨[.fz (.int m), .fz (.int n)], st⟩ N T E := by
  intro m n
  induction n using Nat.strongRecOn generalizing m with
  | _ n ih =>
    intro N T E h
    refine wLo_step ?_
    walk_at "run"
    walk_at "if"
    · next h0 =>
      have h0 : n = 0 := by omega
      subst h0
      simpa using h
    · next h0 =>
      have h0 : 0 < n := by omega
      walk_at "run"
      rw [q_mod (by omega)]
      walk_at "run"
      rw [show (m : Int) % (n : Int) = ((m % n : Nat) : Int) from rfl]
      refine ih (m % n) (Nat.mod_lt _ h0) n ?_
      rw [Nat.gcd_comm, ← Nat.gcd_rec, Nat.gcd_comm]
      exact h
theorem r_common {a b : Int} : wF (f_common [.int a, .int b] st) K E = K (.fz (.int (Int.gcd a b))) st := by
  refine wF_det fun K E h => ?_
  unfold f_common g_common
  walk_at "start"
  walk_at "run"
  rw [show (if a < 0 then -a else a) = ((a.natAbs : Nat) : Int) by omega, show (if b < 0 then -b else b) = ((b.natAbs : Nat) : Int) by omega]
  refine loop_common _ _ ?_
  walk_at "run"
  exact h
local macro_rules | `(tactic| walk_at "run") => `(tactic| first | simp -dsimp -implicitDefEqProofs only [↓En.cndP, ↓En.cndQ, ↓En.cndN, ↓En.l_non, ↓En.l_bl, ↓En.l_int, ↓En.l_str, ↓En.l_tup, ↓En.l_lst, ↓En.l_dic, ↓En.l_scr, ↓En.l_ty, ↓En.l_exc, ↓En.l_any, ↓En.l_ow, ↓En.l_lnow0, ↓En.v_ow0, ↓En.st_lnow0, ↓En.rt_lnow0, ↓En.l_lnfz0, ↓En.v_fz0, ↓En.st_lnfz0, ↓En.rt_lnfz0, ↓En.so_fz0, ↓En.so_ow0, ↓En.s1_0, ↓En.ch_ow0, ↓En.l_lnow1, ↓En.v_ow1, ↓En.st_lnow1, ↓En.rt_lnow1, ↓En.l_lnfz1, ↓En.v_fz1, ↓En.st_lnfz1, ↓En.rt_lnfz1, ↓En.so_fz1, ↓En.so_ow1, ↓En.s1_1, ↓En.ch_ow1, ↓En.l_lnow2, ↓En.v_ow2, ↓En.st_lnow2, ↓En.rt_lnow2, ↓En.l_lnfz2, ↓En.v_fz2, ↓En.st_lnfz2, ↓En.rt_lnfz2, ↓En.so_fz2, ↓En.so_ow2, ↓En.s1_2, ↓En.ch_ow2, ↓En.l_lnow3, ↓En.v_ow3, ↓En.st_lnow3, ↓En.rt_lnow3, ↓En.l_lnfz3, ↓En.v_fz3, ↓En.st_lnfz3, ↓En.rt_lnfz3, ↓En.so_fz3, ↓En.so_ow3, ↓En.s1_3, ↓En.ch_ow3, ↓En.l_lnow4, ↓En.v_ow4, ↓En.st_lnow4, ↓En.rt_lnow4, ↓En.l_lnfz4, ↓En.v_fz4, ↓En.st_lnfz4, ↓En.rt_lnfz4, ↓En.so_fz4, ↓En.so_ow4, ↓En.s1_4, ↓En.ch_ow4, ↓En.l_lnow5, ↓En.v_ow5, ↓En.st_lnow5, ↓En.rt_lnow5, ↓En.l_lnfz5, ↓En.v_fz5, ↓En.st_lnfz5, ↓En.rt_lnfz5, ↓En.so_fz5, ↓En.so_ow5, ↓En.s1_5, ↓En.ch_ow5, ↓En.l_lnow6, ↓En.v_ow6, ↓En.st_lnow6, ↓En.rt_lnow6, ↓En.l_lnfz6, ↓En.v_fz6, ↓En.st_lnfz6, ↓En.rt_lnfz6, ↓En.so_fz6, ↓En.so_ow6, ↓En.s1_6, ↓En.ch_ow6, ↓En.l_lnow7, ↓En.v_ow7, ↓En.st_lnow7, ↓En.rt_lnow7, ↓En.l_lnfz7, ↓En.v_fz7, ↓En.st_lnfz7, ↓En.rt_lnfz7, ↓En.so_fz7, ↓En.so_ow7, ↓En.s1_7, ↓En.ch_ow7, ↓En.l_lnow8, ↓En.v_ow8, ↓En.st_lnow8, ↓En.rt_lnow8, ↓En.l_lnfz8, ↓En.v_fz8, ↓En.st_lnfz8, ↓En.rt_lnfz8, ↓En.so_fz8, ↓En.so_ow8, ↓En.s1_8, ↓En.ch_ow8, ↓En.l_lnow9, ↓En.v_ow9, ↓En.st_lnow9, ↓En.rt_lnow9, ↓En.l_lnfz9, ↓En.v_fz9, ↓En.st_lnfz9, ↓En.rt_lnfz9, ↓En.so_fz9, ↓En.so_ow9, ↓En.s1_9, ↓En.ch_ow9, ↓En.l_lnow10, ↓En.v_ow10, ↓En.st_lnow10, ↓En.rt_lnow10, ↓En.l_lnfz10, ↓En.v_fz10, ↓En.st_lnfz10, ↓En.rt_lnfz10, ↓En.so_fz10, ↓En.so_ow10, ↓En.s1_10, ↓En.ch_ow10, ↓En.l_lnow11, ↓En.v_ow11, ↓En.st_lnow11, ↓En.rt_lnow11, ↓En.l_lnfz11, ↓En.v_fz11, ↓En.st_lnfz11, ↓En.rt_lnfz11, ↓En.so_fz11, ↓En.so_ow11, ↓En.s1_11, ↓En.ch_ow11, ↓En.l_lnow12, ↓En.v_ow12, ↓En.st_lnow12, ↓En.rt_lnow12, ↓En.l_lnfz12, ↓En.v_fz12, ↓En.st_lnfz12, ↓En.rt_lnfz12, ↓En.so_fz12, ↓En.so_ow12, ↓En.s1_12, ↓En.ch_ow12, ↓En.l_lnow13, ↓En.v_ow13, ↓En.st_lnow13, ↓En.rt_lnow13, ↓En.l_lnfz13, ↓En.v_fz13, ↓En.st_lnfz13, ↓En.rt_lnfz13, ↓En.so_fz13, ↓En.so_ow13, ↓En.s1_13, ↓En.ch_ow13, ↓En.l_lnow14, ↓En.v_ow14, ↓En.st_lnow14, ↓En.rt_lnow14, ↓En.l_lnfz14, ↓En.v_fz14, ↓En.st_lnfz14, ↓En.rt_lnfz14, ↓En.so_fz14, ↓En.so_ow14, ↓En.s1_14, ↓En.ch_ow14, ↓En.l_lnow15, ↓En.v_ow15, ↓En.st_lnow15, ↓En.rt_lnow15, ↓En.l_lnfz15, ↓En.v_fz15, ↓En.st_lnfz15, ↓En.rt_lnfz15, ↓En.so_fz15, ↓En.so_ow15, ↓En.s1_15, ↓En.ch_ow15, ↓En.l_lnow16, ↓En.v_ow16, ↓En.st_lnow16, ↓En.rt_lnow16, ↓En.l_lnfz16, ↓En.v_fz16, ↓En.st_lnfz16, ↓En.rt_lnfz16, ↓En.so_fz16, ↓En.so_ow16, ↓En.s1_16, ↓En.ch_ow16, ↓En.l_lnow17, ↓En.v_ow17, ↓En.st_lnow17, ↓En.rt_lnow17, ↓En.l_lnfz17, ↓En.v_fz17, ↓En.st_lnfz17, ↓En.rt_lnfz17, ↓En.so_fz17, ↓En.so_ow17, ↓En.s1_17, ↓En.ch_ow17, ↓En.l_lnow18, ↓En.v_ow18, ↓En.st_lnow18, ↓En.rt_lnow18, ↓En.l_lnfz18, ↓En.v_fz18, ↓En.st_lnfz18, ↓En.rt_lnfz18, ↓En.so_fz18, ↓En.so_ow18, ↓En.s1_18, ↓En.ch_ow18, ↓En.l_lnow19, ↓En.v_ow19, ↓En.st_lnow19, ↓En.rt_lnow19, ↓En.l_lnfz19, ↓En.v_fz19, ↓En.st_lnfz19, ↓En.rt_lnfz19, ↓En.so_fz19, ↓En.so_ow19, ↓En.s1_19, ↓En.ch_ow19, ↓En.l_lnow20, ↓En.v_ow20, ↓En.st_lnow20, ↓En.rt_lnow20, ↓En.l_lnfz20, ↓En.v_fz20, ↓En.st_lnfz20, ↓En.rt_lnfz20, ↓En.so_fz20, ↓En.so_ow20, ↓En.s1_20, ↓En.ch_ow20, ↓En.l_lnow21, ↓En.v_ow21, ↓En.st_lnow21, ↓En.rt_lnow21, ↓En.l_lnfz21, ↓En.v_fz21, ↓En.st_lnfz21, ↓En.rt_lnfz21, ↓En.so_fz21, ↓En.so_ow21, ↓En.s1_21, ↓En.ch_ow21, ↓En.so_ln, ↓En.wop_some, ↓En.st_fz, ↓En.rt_fz, ↓En.rt_ow, ↓En.k_fz, ↓En.k_ow, ↓En.k_ln, ↓En.ls0, ↓En.ls1, ↓En.sa0, ↓En.sa1, ↓En.g_lit, ↓En.g_bin, ↓En.lift2_eq, ↓En.lift1_eq, ↓En.g_un, ↓En.g_not, ↓En.g_and, ↓En.g_or, ↓En.g_if, ↓En.g_toT, ↓En.wt_or, ↓En.wt_and, ↓En.wt_not, ↓En.wt_bin, ↓En.wt_un, ↓En.wt_cb, ↓En.wt_var, ↓En.wt_call, ↓En.wt_lit, ↓En.wt_meth, ↓En.wt_chain, ↓En.wt_comp, ↓En.wt_if, ↓En.g_args0, ↓En.g_args1, ↓En.g_with, ↓En.ca, ↓En.g_call, ↓En.tup_ok, ↓En.lst_ok, ↓En.g_cb, ↓En.g_meth, ↓En.is_str, ↓En.is_lst, ↓En.isl, ↓En.part0, ↓En.part1, ↓En.wint, ↓En.g_slice, ↓En.g_d01, ↓En.g_rev, ↓En.g_dic0, ↓En.g_fmt, ↓En.js0, ↓En.js_e, ↓En.js_S, ↓En.wstr, ↓En.g_chain, ↓En.chn, ↓En.g_app, ↓En.g_ext, ↓En.wlst, ↓En.g_pop, ↓En.g_pro, ↓En.pro, ↓En.to_, ↓En.fz0, ↓En.fzF, ↓En.fzO, ↓En.fzN, ↓En.g_said, ↓En.t_name, ↓En.ta0, ↓En.taF, ↓En.taO, ↓En.gs0, ↓En.gs1, ↓En.t_tup, ↓En.wtup, ↓En.t_sub, ↓En.s_seq, ↓En.s_next, ↓En.s_cont, ↓En.s_drop, ↓En.s_ret, ↓En.s_retn, ↓En.s_if, ↓En.s_set, ↓En.s_asg, ↓En.s_par, ↓En.s_parg, ↓En.set0, ↓En.set1, ↓En.held0, ↓En.held1, ↓En.ho_fz, ↓En.ho_ow, ↓En.ho_ln, ↓En.s_raise, ↓En.s_raiset, ↓En.s_for, ↓En.i_seq, ↓En.it_lst, ↓En.it_tup, ↓En.it_str, ↓En.wrg, ↓En.i_rng1, ↓En.i_rng2, ↓En.cm, ↓En.g_comp, ↓En.t_yes, ↓En.fo_fz, ↓En.fo_ow, ↓En.s_loop, ↓En.q_add, ↓En.q_sub, ↓En.q_div, ↓En.q_mod, ↓En.q_pow, ↓En.q_lt, ↓En.q_le, ↓En.q_gt, ↓En.q_ge, ↓En.q_eqi, ↓En.q_nei, ↓En.q_is_non, ↓En.q_isn_non, ↓En.q_is_bl, ↓En.q_isn_bl, ↓En.q_is_int, ↓En.q_isn_int, ↓En.q_is_str, ↓En.q_isn_str, ↓En.q_is_tup, ↓En.q_isn_tup, ↓En.q_is_lst, ↓En.q_isn_lst, ↓En.q_is_dic, ↓En.q_isn_dic, ↓En.q_is_obj, ↓En.q_isn_obj, ↓En.q_eqb, ↓En.q_neb, ↓En.q_not, ↓En.q_neg, ↓En.q_abs, ↓En.q_max, ↓En.q_min, ↓En.q_lenl, ↓En.q_lent, ↓En.q_lenc, ↓En.q_listl, ↓En.q_listt, ↓En.q_tupl, ↓En.q_tupt, ↓En.q_revl, ↓En.q_revt, ↓En.q_sll, ↓En.q_slt, ↓En.q_int, ↓En.q_intb, ↓En.q_strs, ↓En.q_atl0, ↓En.q_att0, ↓En.q_atl1, ↓En.q_att1, ↓En.q_atl2, ↓En.q_att2, ↓En.q_atl3, ↓En.q_att3, ↓En.q_atl4, ↓En.q_att4, ↓En.q_atl5, ↓En.q_att5, ↓En.q_atl6, ↓En.q_att6, ↓En.q_atl7, ↓En.q_att7, ↓En.tr_bl, ↓En.tr_int, ↓En.tr_non, ↓En.tr_tup, ↓En.tr_lst, ↓En.no0, ↓En.no1, ↓En.wp0, ↓En.wp1, ↓En.bk0, ↓En.bk1, ↓En.no_no0, ↓En.no_fz0, ↓En.gt0, ↓En.no_no1, ↓En.no_fz1, ↓En.gt1, ↓En.no_no2, ↓En.no_fz2, ↓En.gt2, ↓En.no_no3, ↓En.no_fz3, ↓En.gt3, ↓En.no_no4, ↓En.no_fz4, ↓En.gt4, ↓En.no_no5, ↓En.no_fz5, ↓En.gt5, ↓En.no_no6, ↓En.no_fz6, ↓En.gt6, ↓En.no_no7, ↓En.no_fz7, ↓En.gt7, ↓En.no_no8, ↓En.no_fz8, ↓En.gt8, ↓En.no_no9, ↓En.no_fz9, ↓En.gt9, ↓En.no_no10, ↓En.no_fz10, ↓En.gt10, ↓En.no_no11, ↓En.no_fz11, ↓En.gt11, ↓En.no_no12, ↓En.no_fz12, ↓En.gt12, ↓En.no_no13, ↓En.no_fz13, ↓En.gt13, ↓En.no_no14, ↓En.no_fz14, ↓En.gt14, ↓En.no_no15, ↓En.no_fz15, ↓En.gt15, ↓En.no_no16, ↓En.no_fz16, ↓En.gt16, ↓En.no_no17, ↓En.no_fz17, ↓En.gt17, ↓En.no_no18, ↓En.no_fz18, ↓En.gt18, ↓En.no_no19, ↓En.no_fz19, ↓En.gt19, ↓En.no_no20, ↓En.no_fz20, ↓En.gt20, ↓En.no_no21, ↓En.no_fz21, ↓En.gt21, ↓En.wCp0, ↓En.c_step, ↓En.c_one, ↓En.ap_no, ↓En.ap0, ↓En.ap1, ↓En.ap2, ↓En.ap3, ↓En.ap4, ↓En.ap5, ↓En.ap6, ↓En.ap7, ↓En.ap8, ↓En.ap9, ↓En.q_all, ↓En.q_any, ↓En.bls0, ↓En.bls1, ↓En.isi_non_bool, ↓En.isi_non_int, ↓En.isi_non_str, ↓En.isi_non_tuple, ↓En.isi_non_list, ↓En.isi_non_dict, ↓En.isi_bl_bool, ↓En.isi_bl_int, ↓En.isi_bl_str, ↓En.isi_bl_tuple, ↓En.isi_bl_list, ↓En.isi_bl_dict, ↓En.isi_int_bool, ↓En.isi_int_int, ↓En.isi_int_str, ↓En.isi_int_tuple, ↓En.isi_int_list, ↓En.isi_int_dict, ↓En.isi_str_bool, ↓En.isi_str_int, ↓En.isi_str_str, ↓En.isi_str_tuple, ↓En.isi_str_list, ↓En.isi_str_dict, ↓En.isi_tup_bool, ↓En.isi_tup_int, ↓En.isi_tup_str, ↓En.isi_tup_tuple, ↓En.isi_tup_list, ↓En.isi_tup_dict, ↓En.isi_lst_bool, ↓En.isi_lst_int, ↓En.isi_lst_str, ↓En.isi_lst_tuple, ↓En.isi_lst_list, ↓En.isi_lst_dict, ↓En.isi_dic_bool, ↓En.isi_dic_int, ↓En.isi_dic_str, ↓En.isi_dic_tuple, ↓En.isi_dic_list, ↓En.isi_dic_dict, ↓En.isi_scr_bool, ↓En.isi_scr_int, ↓En.isi_scr_str, ↓En.isi_scr_tuple, ↓En.isi_scr_list, ↓En.isi_scr_dict, reduceCtorEq, List.cons.injEq, Nat.reduceEqDiff, and_true, true_and, and_false, false_and, Int.cast_ofNat_Int, List.length_cons, List.length_nil, Nat.reduceAdd, Nat.reduceLeDiff, Nat.zero_add, Nat.reduceLT, Int.reduceLT, Int.reduceLE, Int.reducePow, Int.reduceToNat, Int.reduceNeg, Int.reduceAdd, Int.reduceSub, Int.reduceMul, Nat.reducePow, Int.reduceEq, Int.reduceBNe, decide_true, decide_false, Bool.not_true, Bool.not_false, beq_self_eq_true, Bool.true_beq, Bool.false_beq, En.cndP, En.cndQ, En.cndN, gt_iff_lt, if_true, if_false, ↓Lk.r_common] | skip)
/-- a thing of the kinds that may be told apart -/
def okTy : D → Bool
  | .obj _ => false
  | .ty _ => false
  | .exc _ => false
  | .exf _ _ _ => false
  | _ => true
def isWhole : D → Bool
  | .int _ => true
  | _ => false
theorem r_whole {d : D} (h : okTy d = true) : wF (f_is_whole [d] st) K E = K (.fz (.bl (isWhole d))) st := by
  refine wF_det fun K E h => ?_
  unfold f_is_whole g_is_whole
  walk_at "start"
  cases d <;> first | (walk_at "run"; exact h) | cases ‹okTy _ = true›
def isFr : D → Bool
  | .tup [.int a, .int b] => decide (0 < b) && decide (Int.gcd a b = 1)
  | _ => false
/-- a thing that is taken apart with its parts -/
def okTy1 : D → Bool
  | .tup xs => xs.all okTy
  | d => okTy d
local macro_rules | `(tactic| walk_at "run") => `(tactic| first | simp -dsimp -implicitDefEqProofs only [↓En.cndP, ↓En.cndQ, ↓En.cndN, ↓En.l_non, ↓En.l_bl, ↓En.l_int, ↓En.l_str, ↓En.l_tup, ↓En.l_lst, ↓En.l_dic, ↓En.l_scr, ↓En.l_ty, ↓En.l_exc, ↓En.l_any, ↓En.l_ow, ↓En.l_lnow0, ↓En.v_ow0, ↓En.st_lnow0, ↓En.rt_lnow0, ↓En.l_lnfz0, ↓En.v_fz0, ↓En.st_lnfz0, ↓En.rt_lnfz0, ↓En.so_fz0, ↓En.so_ow0, ↓En.s1_0, ↓En.ch_ow0, ↓En.l_lnow1, ↓En.v_ow1, ↓En.st_lnow1, ↓En.rt_lnow1, ↓En.l_lnfz1, ↓En.v_fz1, ↓En.st_lnfz1, ↓En.rt_lnfz1, ↓En.so_fz1, ↓En.so_ow1, ↓En.s1_1, ↓En.ch_ow1, ↓En.l_lnow2, ↓En.v_ow2, ↓En.st_lnow2, ↓En.rt_lnow2, ↓En.l_lnfz2, ↓En.v_fz2, ↓En.st_lnfz2, ↓En.rt_lnfz2, ↓En.so_fz2, ↓En.so_ow2, ↓En.s1_2, ↓En.ch_ow2, ↓En.l_lnow3, ↓En.v_ow3, ↓En.st_lnow3, ↓En.rt_lnow3, ↓En.l_lnfz3, ↓En.v_fz3, ↓En.st_lnfz3, ↓En.rt_lnfz3, ↓En.so_fz3, ↓En.so_ow3, ↓En.s1_3, ↓En.ch_ow3, ↓En.l_lnow4, ↓En.v_ow4, ↓En.st_lnow4, ↓En.rt_lnow4, ↓En.l_lnfz4, ↓En.v_fz4, ↓En.st_lnfz4, ↓En.rt_lnfz4, ↓En.so_fz4, ↓En.so_ow4, ↓En.s1_4, ↓En.ch_ow4, ↓En.l_lnow5, ↓En.v_ow5, ↓En.st_lnow5, ↓En.rt_lnow5, ↓En.l_lnfz5, ↓En.v_fz5, ↓En.st_lnfz5, ↓En.rt_lnfz5, ↓En.so_fz5, ↓En.so_ow5, ↓En.s1_5, ↓En.ch_ow5, ↓En.l_lnow6, ↓En.v_ow6, ↓En.st_lnow6, ↓En.rt_lnow6, ↓En.l_lnfz6, ↓En.v_fz6, ↓En.st_lnfz6, ↓En.rt_lnfz6, ↓En.so_fz6, ↓En.so_ow6, ↓En.s1_6, ↓En.ch_ow6, ↓En.l_lnow7, ↓En.v_ow7, ↓En.st_lnow7, ↓En.rt_lnow7, ↓En.l_lnfz7, ↓En.v_fz7, ↓En.st_lnfz7, ↓En.rt_lnfz7, ↓En.so_fz7, ↓En.so_ow7, ↓En.s1_7, ↓En.ch_ow7, ↓En.l_lnow8, ↓En.v_ow8, ↓En.st_lnow8, ↓En.rt_lnow8, ↓En.l_lnfz8, ↓En.v_fz8, ↓En.st_lnfz8, ↓En.rt_lnfz8, ↓En.so_fz8, ↓En.so_ow8, ↓En.s1_8, ↓En.ch_ow8, ↓En.l_lnow9, ↓En.v_ow9, ↓En.st_lnow9, ↓En.rt_lnow9, ↓En.l_lnfz9, ↓En.v_fz9, ↓En.st_lnfz9, ↓En.rt_lnfz9, ↓En.so_fz9, ↓En.so_ow9, ↓En.s1_9, ↓En.ch_ow9, ↓En.l_lnow10, ↓En.v_ow10, ↓En.st_lnow10, ↓En.rt_lnow10, ↓En.l_lnfz10, ↓En.v_fz10, ↓En.st_lnfz10, ↓En.rt_lnfz10, ↓En.so_fz10, ↓En.so_ow10, ↓En.s1_10, ↓En.ch_ow10, ↓En.l_lnow11, ↓En.v_ow11, ↓En.st_lnow11, ↓En.rt_lnow11, ↓En.l_lnfz11, ↓En.v_fz11, ↓En.st_lnfz11, ↓En.rt_lnfz11, ↓En.so_fz11, ↓En.so_ow11, ↓En.s1_11, ↓En.ch_ow11, ↓En.l_lnow12, ↓En.v_ow12, ↓En.st_lnow12, ↓En.rt_lnow12, ↓En.l_lnfz12, ↓En.v_fz12, ↓En.st_lnfz12, ↓En.rt_lnfz12, ↓En.so_fz12, ↓En.so_ow12, ↓En.s1_12, ↓En.ch_ow12, ↓En.l_lnow13, ↓En.v_ow13, ↓En.st_lnow13, ↓En.rt_lnow13, ↓En.l_lnfz13, ↓En.v_fz13, ↓En.st_lnfz13, ↓En.rt_lnfz13, ↓En.so_fz13, ↓En.so_ow13, ↓En.s1_13, ↓En.ch_ow13, ↓En.l_lnow14, ↓En.v_ow14, ↓En.st_lnow14, ↓En.rt_lnow14, ↓En.l_lnfz14, ↓En.v_fz14, ↓En.st_lnfz14, ↓En.rt_lnfz14, ↓En.so_fz14, ↓En.so_ow14, ↓En.s1_14, ↓En.ch_ow14, ↓En.l_lnow15, ↓En.v_ow15, ↓En.st_lnow15, ↓En.rt_lnow15, ↓En.l_lnfz15, ↓En.v_fz15, ↓En.st_lnfz15, ↓En.rt_lnfz15, ↓En.so_fz15, ↓En.so_ow15, ↓En.s1_15, ↓En.ch_ow15, ↓En.l_lnow16, ↓En.v_ow16, ↓En.st_lnow16, ↓En.rt_lnow16, ↓En.l_lnfz16, ↓En.v_fz16, ↓En.st_lnfz16, ↓En.rt_lnfz16, ↓En.so_fz16, ↓En.so_ow16, ↓En.s1_16, ↓En.ch_ow16, ↓En.l_lnow17, ↓En.v_ow17, ↓En.st_lnow17, ↓En.rt_lnow17, ↓En.l_lnfz17, ↓En.v_fz17, ↓En.st_lnfz17, ↓En.rt_lnfz17, ↓En.so_fz17, ↓En.so_ow17, ↓En.s1_17, ↓En.ch_ow17, ↓En.l_lnow18, ↓En.v_ow18, ↓En.st_lnow18, ↓En.rt_lnow18, ↓En.l_lnfz18, ↓En.v_fz18, ↓En.st_lnfz18, ↓En.rt_lnfz18, ↓En.so_fz18, ↓En.so_ow18, ↓En.s1_18, ↓En.ch_ow18, ↓En.l_lnow19, ↓En.v_ow19, ↓En.st_lnow19, ↓En.rt_lnow19, ↓En.l_lnfz19, ↓En.v_fz19, ↓En.st_lnfz19, ↓En.rt_lnfz19, ↓En.so_fz19, ↓En.so_ow19, ↓En.s1_19, ↓En.ch_ow19, ↓En.l_lnow20, ↓En.v_ow20, ↓En.st_lnow20, ↓En.rt_lnow20, ↓En.l_lnfz20, ↓En.v_fz20, ↓En.st_lnfz20, ↓En.rt_lnfz20, ↓En.so_fz20, ↓En.so_ow20, ↓En.s1_20, ↓En.ch_ow20, ↓En.l_lnow21, ↓En.v_ow21, ↓En.st_lnow21, ↓En.rt_lnow21, ↓En.l_lnfz21, ↓En.v_fz21, ↓En.st_lnfz21, ↓En.rt_lnfz21, ↓En.so_fz21, ↓En.so_ow21, ↓En.s1_21, ↓En.ch_ow21, ↓En.so_ln, ↓En.wop_some, ↓En.st_fz, ↓En.rt_fz, ↓En.rt_ow, ↓En.k_fz, ↓En.k_ow, ↓En.k_ln, ↓En.ls0, ↓En.ls1, ↓En.sa0, ↓En.sa1, ↓En.g_lit, ↓En.g_bin, ↓En.lift2_eq, ↓En.lift1_eq, ↓En.g_un, ↓En.g_not, ↓En.g_and, ↓En.g_or, ↓En.g_if, ↓En.g_toT, ↓En.wt_or, ↓En.wt_and, ↓En.wt_not, ↓En.wt_bin, ↓En.wt_un, ↓En.wt_cb, ↓En.wt_var, ↓En.wt_call, ↓En.wt_lit, ↓En.wt_meth, ↓En.wt_chain, ↓En.wt_comp, ↓En.wt_if, ↓En.g_args0, ↓En.g_args1, ↓En.g_with, ↓En.ca, ↓En.g_call, ↓En.tup_ok, ↓En.lst_ok, ↓En.g_cb, ↓En.g_meth, ↓En.is_str, ↓En.is_lst, ↓En.isl, ↓En.part0, ↓En.part1, ↓En.wint, ↓En.g_slice, ↓En.g_d01, ↓En.g_rev, ↓En.g_dic0, ↓En.g_fmt, ↓En.js0, ↓En.js_e, ↓En.js_S, ↓En.wstr, ↓En.g_chain, ↓En.chn, ↓En.g_app, ↓En.g_ext, ↓En.wlst, ↓En.g_pop, ↓En.g_pro, ↓En.pro, ↓En.to_, ↓En.fz0, ↓En.fzF, ↓En.fzO, ↓En.fzN, ↓En.g_said, ↓En.t_name, ↓En.ta0, ↓En.taF, ↓En.taO, ↓En.gs0, ↓En.gs1, ↓En.t_tup, ↓En.wtup, ↓En.t_sub, ↓En.s_seq, ↓En.s_next, ↓En.s_cont, ↓En.s_drop, ↓En.s_ret, ↓En.s_retn, ↓En.s_if, ↓En.s_set, ↓En.s_asg, ↓En.s_par, ↓En.s_parg, ↓En.set0, ↓En.set1, ↓En.held0, ↓En.held1, ↓En.ho_fz, ↓En.ho_ow, ↓En.ho_ln, ↓En.s_raise, ↓En.s_raiset, ↓En.s_for, ↓En.i_seq, ↓En.it_lst, ↓En.it_tup, ↓En.it_str, ↓En.wrg, ↓En.i_rng1, ↓En.i_rng2, ↓En.cm, ↓En.g_comp, ↓En.t_yes, ↓En.fo_fz, ↓En.fo_ow, ↓En.s_loop, ↓En.q_add, ↓En.q_sub, ↓En.q_div, ↓En.q_mod, ↓En.q_pow, ↓En.q_lt, ↓En.q_le, ↓En.q_gt, ↓En.q_ge, ↓En.q_eqi, ↓En.q_nei, ↓En.q_is_non, ↓En.q_isn_non, ↓En.q_is_bl, ↓En.q_isn_bl, ↓En.q_is_int, ↓En.q_isn_int, ↓En.q_is_str, ↓En.q_isn_str, ↓En.q_is_tup, ↓En.q_isn_tup, ↓En.q_is_lst, ↓En.q_isn_lst, ↓En.q_is_dic, ↓En.q_isn_dic, ↓En.q_is_obj, ↓En.q_isn_obj, ↓En.q_eqb, ↓En.q_neb, ↓En.q_not, ↓En.q_neg, ↓En.q_abs, ↓En.q_max, ↓En.q_min, ↓En.q_lenl, ↓En.q_lent, ↓En.q_lenc, ↓En.q_listl, ↓En.q_listt, ↓En.q_tupl, ↓En.q_tupt, ↓En.q_revl, ↓En.q_revt, ↓En.q_sll, ↓En.q_slt, ↓En.q_int, ↓En.q_intb, ↓En.q_strs, ↓En.q_atl0, ↓En.q_att0, ↓En.q_atl1, ↓En.q_att1, ↓En.q_atl2, ↓En.q_att2, ↓En.q_atl3, ↓En.q_att3, ↓En.q_atl4, ↓En.q_att4, ↓En.q_atl5, ↓En.q_att5, ↓En.q_atl6, ↓En.q_att6, ↓En.q_atl7, ↓En.q_att7, ↓En.tr_bl, ↓En.tr_int, ↓En.tr_non, ↓En.tr_tup, ↓En.tr_lst, ↓En.no0, ↓En.no1, ↓En.wp0, ↓En.wp1, ↓En.bk0, ↓En.bk1, ↓En.no_no0, ↓En.no_fz0, ↓En.gt0, ↓En.no_no1, ↓En.no_fz1, ↓En.gt1, ↓En.no_no2, ↓En.no_fz2, ↓En.gt2, ↓En.no_no3, ↓En.no_fz3, ↓En.gt3, ↓En.no_no4, ↓En.no_fz4, ↓En.gt4, ↓En.no_no5, ↓En.no_fz5, ↓En.gt5, ↓En.no_no6, ↓En.no_fz6, ↓En.gt6, ↓En.no_no7, ↓En.no_fz7, ↓En.gt7, ↓En.no_no8, ↓En.no_fz8, ↓En.gt8, ↓En.no_no9, ↓En.no_fz9, ↓En.gt9, ↓En.no_no10, ↓En.no_fz10, ↓En.gt10, ↓En.no_no11, ↓En.no_fz11, ↓En.gt11, ↓En.no_no12, ↓En.no_fz12, ↓En.gt12, ↓En.no_no13, ↓En.no_fz13, ↓En.gt13, ↓En.no_no14, ↓En.no_fz14, ↓En.gt14, ↓En.no_no15, ↓En.no_fz15, ↓En.gt15, ↓En.no_no16, ↓En.no_fz16, ↓En.gt16, ↓En.no_no17, ↓En.no_fz17, ↓En.gt17, ↓En.no_no18, ↓En.no_fz18, ↓En.gt18, ↓En.no_no19, ↓En.no_fz19, ↓En.gt19, ↓En.no_no20, ↓En.no_fz20, ↓En.gt20, ↓En.no_no21, ↓En.no_fz21, ↓En.gt21, ↓En.wCp0, ↓En.c_step, ↓En.c_one, ↓En.ap_no, ↓En.ap0, ↓En.ap1, ↓En.ap2, ↓En.ap3, ↓En.ap4, ↓En.ap5, ↓En.ap6, ↓En.ap7, ↓En.ap8, ↓En.ap9, ↓En.q_all, ↓En.q_any, ↓En.bls0, ↓En.bls1, ↓En.isi_non_bool, ↓En.isi_non_int, ↓En.isi_non_str, ↓En.isi_non_tuple, ↓En.isi_non_list, ↓En.isi_non_dict, ↓En.isi_bl_bool, ↓En.isi_bl_int, ↓En.isi_bl_str, ↓En.isi_bl_tuple, ↓En.isi_bl_list, ↓En.isi_bl_dict, ↓En.isi_int_bool, ↓En.isi_int_int, ↓En.isi_int_str, ↓En.isi_int_tuple, ↓En.isi_int_list, ↓En.isi_int_dict, ↓En.isi_str_bool, ↓En.isi_str_int, ↓En.isi_str_str, ↓En.isi_str_tuple, ↓En.isi_str_list, ↓En.isi_str_dict, ↓En.isi_tup_bool, ↓En.isi_tup_int, ↓En.isi_tup_str, ↓En.isi_tup_tuple, ↓En.isi_tup_list, ↓En.isi_tup_dict, ↓En.isi_lst_bool, ↓En.isi_lst_int, ↓En.isi_lst_str, ↓En.isi_lst_tuple, ↓En.isi_lst_list, ↓En.isi_lst_dict, ↓En.isi_dic_bool, ↓En.isi_dic_int, ↓En.isi_dic_str, ↓En.isi_dic_tuple, ↓En.isi_dic_list, ↓En.isi_dic_dict, ↓En.isi_scr_bool, ↓En.isi_scr_int, ↓En.isi_scr_str, ↓En.isi_scr_tuple, ↓En.isi_scr_list, ↓En.isi_scr_dict, reduceCtorEq, List.cons.injEq, Nat.reduceEqDiff, and_true, true_and, and_false, false_and, Int.cast_ofNat_Int, List.length_cons, List.length_nil, Nat.reduceAdd, Nat.reduceLeDiff, Nat.zero_add, Nat.reduceLT, Int.reduceLT, Int.reduceLE, Int.reducePow, Int.reduceToNat, Int.reduceNeg, Int.reduceAdd, Int.reduceSub, Int.reduceMul, Nat.reducePow, Int.reduceEq, Int.reduceBNe, decide_true, decide_false, Bool.not_true, Bool.not_false, beq_self_eq_true, Bool.true_beq, Bool.false_beq, En.cndP, En.cndQ, En.cndN, gt_iff_lt, if_true, if_false, ↓Lk.r_common, ↓Lk.r_whole] | skip)
theorem r_isfr {d : D} (hd : okTy1 d = true) : wF (f_is_fraction [d] st) K E = K (.fz (.bl (isFr d))) st := by
  refine wF_det fun K E h => ?_
  unfold f_is_fraction g_is_fraction
  walk_at "start"
  cases d with
  | tup xs =>
    match xs, hd, h with
    | [], _, h => walk_at "run"; exact h
    | [x], _, h => walk_at "run"; rw [show isFr (.tup [x]) = false by cases x <;> rfl] at h; exact h
    | [x, y], hd, h =>
      have hd : ([x, y].all okTy) = true := hd
      simp only [List.all_cons, List.all_nil, Bool.and_true, Bool.and_eq_true] at hd
      walk_at "run"
      rw [r_whole hd.1]
      walk_at "run"
      rw [r_whole hd.2]
      walk_at "run"
      cases x with
      | int a =>
        cases y with
        | int b =>
          walk_at "run"
          simp only [isWhole, List.all_cons, List.all_nil, id_eq, Bool.and_true]
          walk_at "run"
          walk_at "if"
          · next hb =>
            walk_at "run"
            rw [show isFr (.tup [.int a, .int b]) = decide ((Int.gcd a b : Int) = 1) by simp [isFr, hb]; omega] at h
            exact h
          · next hb =>
            walk_at "run"
            rw [show isFr (.tup [.int a, .int b]) = decide (0 < b) by simp [isFr, hb]] at h
            exact h
        | _ => exact h
      | _ => exact h
    | x :: y :: z :: xs, _, h =>
      walk_at "run"
      walk_at "if"
      · next e => omega
      · walk_at "run"
        rw [show isFr (.tup (x :: y :: z :: xs)) = false by cases x <;> cases y <;> rfl] at h
        exact h
  | _ => first | (walk_at "run"; exact h) | cases hd
local macro_rules | `(tactic| walk_at "run") => `(tactic| first | simp -dsimp -implicitDefEqProofs only [↓En.cndP, ↓En.cndQ, ↓En.cndN, ↓En.l_non, ↓En.l_bl, ↓En.l_int, ↓En.l_str, ↓En.l_tup, ↓En.l_lst, ↓En.l_dic, ↓En.l_scr, ↓En.l_ty, ↓En.l_exc, ↓En.l_any, ↓En.l_ow, ↓En.l_lnow0, ↓En.v_ow0, ↓En.st_lnow0, ↓En.rt_lnow0, ↓En.l_lnfz0, ↓En.v_fz0, ↓En.st_lnfz0, ↓En.rt_lnfz0, ↓En.so_fz0, ↓En.so_ow0, ↓En.s1_0, ↓En.ch_ow0, ↓En.l_lnow1, ↓En.v_ow1, ↓En.st_lnow1, ↓En.rt_lnow1, ↓En.l_lnfz1, ↓En.v_fz1, ↓En.st_lnfz1, ↓En.rt_lnfz1, ↓En.so_fz1, ↓En.so_ow1, ↓En.s1_1, ↓En.ch_ow1, ↓En.l_lnow2, ↓En.v_ow2, ↓En.st_lnow2, ↓En.rt_lnow2, ↓En.l_lnfz2, ↓En.v_fz2, ↓En.st_lnfz2, ↓En.rt_lnfz2, ↓En.so_fz2, ↓En.so_ow2, ↓En.s1_2, ↓En.ch_ow2, ↓En.l_lnow3, ↓En.v_ow3, ↓En.st_lnow3, ↓En.rt_lnow3, ↓En.l_lnfz3, ↓En.v_fz3, ↓En.st_lnfz3, ↓En.rt_lnfz3, ↓En.so_fz3, ↓En.so_ow3, ↓En.s1_3, ↓En.ch_ow3, ↓En.l_lnow4, ↓En.v_ow4, ↓En.st_lnow4, ↓En.rt_lnow4, ↓En.l_lnfz4, ↓En.v_fz4, ↓En.st_lnfz4, ↓En.rt_lnfz4, ↓En.so_fz4, ↓En.so_ow4, ↓En.s1_4, ↓En.ch_ow4, ↓En.l_lnow5, ↓En.v_ow5, ↓En.st_lnow5, ↓En.rt_lnow5, ↓En.l_lnfz5, ↓En.v_fz5, ↓En.st_lnfz5, ↓En.rt_lnfz5, ↓En.so_fz5, ↓En.so_ow5, ↓En.s1_5, ↓En.ch_ow5, ↓En.l_lnow6, ↓En.v_ow6, ↓En.st_lnow6, ↓En.rt_lnow6, ↓En.l_lnfz6, ↓En.v_fz6, ↓En.st_lnfz6, ↓En.rt_lnfz6, ↓En.so_fz6, ↓En.so_ow6, ↓En.s1_6, ↓En.ch_ow6, ↓En.l_lnow7, ↓En.v_ow7, ↓En.st_lnow7, ↓En.rt_lnow7, ↓En.l_lnfz7, ↓En.v_fz7, ↓En.st_lnfz7, ↓En.rt_lnfz7, ↓En.so_fz7, ↓En.so_ow7, ↓En.s1_7, ↓En.ch_ow7, ↓En.l_lnow8, ↓En.v_ow8, ↓En.st_lnow8, ↓En.rt_lnow8, ↓En.l_lnfz8, ↓En.v_fz8, ↓En.st_lnfz8, ↓En.rt_lnfz8, ↓En.so_fz8, ↓En.so_ow8, ↓En.s1_8, ↓En.ch_ow8, ↓En.l_lnow9, ↓En.v_ow9, ↓En.st_lnow9, ↓En.rt_lnow9, ↓En.l_lnfz9, ↓En.v_fz9, ↓En.st_lnfz9, ↓En.rt_lnfz9, ↓En.so_fz9, ↓En.so_ow9, ↓En.s1_9, ↓En.ch_ow9, ↓En.l_lnow10, ↓En.v_ow10, ↓En.st_lnow10, ↓En.rt_lnow10, ↓En.l_lnfz10, ↓En.v_fz10, ↓En.st_lnfz10, ↓En.rt_lnfz10, ↓En.so_fz10, ↓En.so_ow10, ↓En.s1_10, ↓En.ch_ow10, ↓En.l_lnow11, ↓En.v_ow11, ↓En.st_lnow11, ↓En.rt_lnow11, ↓En.l_lnfz11, ↓En.v_fz11, ↓En.st_lnfz11, ↓En.rt_lnfz11, ↓En.so_fz11, ↓En.so_ow11, ↓En.s1_11, ↓En.ch_ow11, ↓En.l_lnow12, ↓En.v_ow12, ↓En.st_lnow12, ↓En.rt_lnow12, ↓En.l_lnfz12, ↓En.v_fz12, ↓En.st_lnfz12, ↓En.rt_lnfz12, ↓En.so_fz12, ↓En.so_ow12, ↓En.s1_12, ↓En.ch_ow12, ↓En.l_lnow13, ↓En.v_ow13, ↓En.st_lnow13, ↓En.rt_lnow13, ↓En.l_lnfz13, ↓En.v_fz13, ↓En.st_lnfz13, ↓En.rt_lnfz13, ↓En.so_fz13, ↓En.so_ow13, ↓En.s1_13, ↓En.ch_ow13, ↓En.l_lnow14, ↓En.v_ow14, ↓En.st_lnow14, ↓En.rt_lnow14, ↓En.l_lnfz14, ↓En.v_fz14, ↓En.st_lnfz14, ↓En.rt_lnfz14, ↓En.so_fz14, ↓En.so_ow14, ↓En.s1_14, ↓En.ch_ow14, ↓En.l_lnow15, ↓En.v_ow15, ↓En.st_lnow15, ↓En.rt_lnow15, ↓En.l_lnfz15, ↓En.v_fz15, ↓En.st_lnfz15, ↓En.rt_lnfz15, ↓En.so_fz15, ↓En.so_ow15, ↓En.s1_15, ↓En.ch_ow15, ↓En.l_lnow16, ↓En.v_ow16, ↓En.st_lnow16, ↓En.rt_lnow16, ↓En.l_lnfz16, ↓En.v_fz16, ↓En.st_lnfz16, ↓En.rt_lnfz16, ↓En.so_fz16, ↓En.so_ow16, ↓En.s1_16, ↓En.ch_ow16, ↓En.l_lnow17, ↓En.v_ow17, ↓En.st_lnow17, ↓En.rt_lnow17, ↓En.l_lnfz17, ↓En.v_fz17, ↓En.st_lnfz17, ↓En.rt_lnfz17, ↓En.so_fz17, ↓En.so_ow17, ↓En.s1_17, ↓En.ch_ow17, ↓En.l_lnow18, ↓En.v_ow18, ↓En.st_lnow18, ↓En.rt_lnow18, ↓En.l_lnfz18, ↓En.v_fz18, ↓En.st_lnfz18, ↓En.rt_lnfz18, ↓En.so_fz18, ↓En.so_ow18, ↓En.s1_18, ↓En.ch_ow18, ↓En.l_lnow19, ↓En.v_ow19, ↓En.st_lnow19, ↓En.rt_lnow19, ↓En.l_lnfz19, ↓En.v_fz19, ↓En.st_lnfz19, ↓En.rt_lnfz19, ↓En.so_fz19, ↓En.so_ow19, ↓En.s1_19, ↓En.ch_ow19, ↓En.l_lnow20, ↓En.v_ow20, ↓En.st_lnow20, ↓En.rt_lnow20, ↓En.l_lnfz20, ↓En.v_fz20, ↓En.st_lnfz20, ↓En.rt_lnfz20, ↓En.so_fz20, ↓En.so_ow20, ↓En.s1_20, ↓En.ch_ow20, ↓En.l_lnow21, ↓En.v_ow21, ↓En.st_lnow21, ↓En.rt_lnow21, ↓En.l_lnfz21, ↓En.v_fz21, ↓En.st_lnfz21, ↓En.rt_lnfz21, ↓En.so_fz21, ↓En.so_ow21, ↓En.s1_21, ↓En.ch_ow21, ↓En.so_ln, ↓En.wop_some, ↓En.st_fz, ↓En.rt_fz, ↓En.rt_ow, ↓En.k_fz, ↓En.k_ow, ↓En.k_ln, ↓En.ls0, ↓En.ls1, ↓En.sa0, ↓En.sa1, ↓En.g_lit, ↓En.g_bin, ↓En.lift2_eq, ↓En.lift1_eq, ↓En.g_un, ↓En.g_not, ↓En.g_and, ↓En.g_or, ↓En.g_if, ↓En.g_toT, ↓En.wt_or, ↓En.wt_and, ↓En.wt_not, ↓En.wt_bin, ↓En.wt_un, ↓En.wt_cb, ↓En.wt_var, ↓En.wt_call, ↓En.wt_lit, ↓En.wt_meth, ↓En.wt_chain, ↓En.wt_comp, ↓En.wt_if, ↓En.g_args0, ↓En.g_args1, ↓En.g_with, ↓En.ca, ↓En.g_call, ↓En.tup_ok, ↓En.lst_ok, ↓En.g_cb, ↓En.g_meth, ↓En.is_str, ↓En.is_lst, ↓En.isl, ↓En.part0, ↓En.part1, ↓En.wint, ↓En.g_slice, ↓En.g_d01, ↓En.g_rev, ↓En.g_dic0, ↓En.g_fmt, ↓En.js0, ↓En.js_e, ↓En.js_S, ↓En.wstr, ↓En.g_chain, ↓En.chn, ↓En.g_app, ↓En.g_ext, ↓En.wlst, ↓En.g_pop, ↓En.g_pro, ↓En.pro, ↓En.to_, ↓En.fz0, ↓En.fzF, ↓En.fzO, ↓En.fzN, ↓En.g_said, ↓En.t_name, ↓En.ta0, ↓En.taF, ↓En.taO, ↓En.gs0, ↓En.gs1, ↓En.t_tup, ↓En.wtup, ↓En.t_sub, ↓En.s_seq, ↓En.s_next, ↓En.s_cont, ↓En.s_drop, ↓En.s_ret, ↓En.s_retn, ↓En.s_if, ↓En.s_set, ↓En.s_asg, ↓En.s_par, ↓En.s_parg, ↓En.set0, ↓En.set1, ↓En.held0, ↓En.held1, ↓En.ho_fz, ↓En.ho_ow, ↓En.ho_ln, ↓En.s_raise, ↓En.s_raiset, ↓En.s_for, ↓En.i_seq, ↓En.it_lst, ↓En.it_tup, ↓En.it_str, ↓En.wrg, ↓En.i_rng1, ↓En.i_rng2, ↓En.cm, ↓En.g_comp, ↓En.t_yes, ↓En.fo_fz, ↓En.fo_ow, ↓En.s_loop, ↓En.q_add, ↓En.q_sub, ↓En.q_div, ↓En.q_mod, ↓En.q_pow, ↓En.q_lt, ↓En.q_le, ↓En.q_gt, ↓En.q_ge, ↓En.q_eqi, ↓En.q_nei, ↓En.q_is_non, ↓En.q_isn_non, ↓En.q_is_bl, ↓En.q_isn_bl, ↓En.q_is_int, ↓En.q_isn_int, ↓En.q_is_str, ↓En.q_isn_str, ↓En.q_is_tup, ↓En.q_isn_tup, ↓En.q_is_lst, ↓En.q_isn_lst, ↓En.q_is_dic, ↓En.q_isn_dic, ↓En.q_is_obj, ↓En.q_isn_obj, ↓En.q_eqb, ↓En.q_neb, ↓En.q_not, ↓En.q_neg, ↓En.q_abs, ↓En.q_max, ↓En.q_min, ↓En.q_lenl, ↓En.q_lent, ↓En.q_lenc, ↓En.q_listl, ↓En.q_listt, ↓En.q_tupl, ↓En.q_tupt, ↓En.q_revl, ↓En.q_revt, ↓En.q_sll, ↓En.q_slt, ↓En.q_int, ↓En.q_intb, ↓En.q_strs, ↓En.q_atl0, ↓En.q_att0, ↓En.q_atl1, ↓En.q_att1, ↓En.q_atl2, ↓En.q_att2, ↓En.q_atl3, ↓En.q_att3, ↓En.q_atl4, ↓En.q_att4, ↓En.q_atl5, ↓En.q_att5, ↓En.q_atl6, ↓En.q_att6, ↓En.q_atl7, ↓En.q_att7, ↓En.tr_bl, ↓En.tr_int, ↓En.tr_non, ↓En.tr_tup, ↓En.tr_lst, ↓En.no0, ↓En.no1, ↓En.wp0, ↓En.wp1, ↓En.bk0, ↓En.bk1, ↓En.no_no0, ↓En.no_fz0, ↓En.gt0, ↓En.no_no1, ↓En.no_fz1, ↓En.gt1, ↓En.no_no2, ↓En.no_fz2, ↓En.gt2, ↓En.no_no3, ↓En.no_fz3, ↓En.gt3, ↓En.no_no4, ↓En.no_fz4, ↓En.gt4, ↓En.no_no5, ↓En.no_fz5, ↓En.gt5, ↓En.no_no6, ↓En.no_fz6, ↓En.gt6, ↓En.no_no7, ↓En.no_fz7, ↓En.gt7, ↓En.no_no8, ↓En.no_fz8, ↓En.gt8, ↓En.no_no9, ↓En.no_fz9, ↓En.gt9, ↓En.no_no10, ↓En.no_fz10, ↓En.gt10, ↓En.no_no11, ↓En.no_fz11, ↓En.gt11, ↓En.no_no12, ↓En.no_fz12, ↓En.gt12, ↓En.no_no13, ↓En.no_fz13, ↓En.gt13, ↓En.no_no14, ↓En.no_fz14, ↓En.gt14, ↓En.no_no15, ↓En.no_fz15, ↓En.gt15, ↓En.no_no16, ↓En.no_fz16, ↓En.gt16, ↓En.no_no17, ↓En.no_fz17, ↓En.gt17, ↓En.no_no18, ↓En.no_fz18, ↓En.gt18, ↓En.no_no19, ↓En.no_fz19, ↓En.gt19, ↓En.no_no20, ↓En.no_fz20, ↓En.gt20, ↓En.no_no21, ↓En.no_fz21, ↓En.gt21, ↓En.wCp0, ↓En.c_step, ↓En.c_one, ↓En.ap_no, ↓En.ap0, ↓En.ap1, ↓En.ap2, ↓En.ap3, ↓En.ap4, ↓En.ap5, ↓En.ap6, ↓En.ap7, ↓En.ap8, ↓En.ap9, ↓En.q_all, ↓En.q_any, ↓En.bls0, ↓En.bls1, ↓En.isi_non_bool, ↓En.isi_non_int, ↓En.isi_non_str, ↓En.isi_non_tuple, ↓En.isi_non_list, ↓En.isi_non_dict, ↓En.isi_bl_bool, ↓En.isi_bl_int, ↓En.isi_bl_str, ↓En.isi_bl_tuple, ↓En.isi_bl_list, ↓En.isi_bl_dict, ↓En.isi_int_bool, ↓En.isi_int_int, ↓En.isi_int_str, ↓En.isi_int_tuple, ↓En.isi_int_list, ↓En.isi_int_dict, ↓En.isi_str_bool, ↓En.isi_str_int, ↓En.isi_str_str, ↓En.isi_str_tuple, ↓En.isi_str_list, ↓En.isi_str_dict, ↓En.isi_tup_bool, ↓En.isi_tup_int, ↓En.isi_tup_str, ↓En.isi_tup_tuple, ↓En.isi_tup_list, ↓En.isi_tup_dict, ↓En.isi_lst_bool, ↓En.isi_lst_int, ↓En.isi_lst_str, ↓En.isi_lst_tuple, ↓En.isi_lst_list, ↓En.isi_lst_dict, ↓En.isi_dic_bool, ↓En.isi_dic_int, ↓En.isi_dic_str, ↓En.isi_dic_tuple, ↓En.isi_dic_list, ↓En.isi_dic_dict, ↓En.isi_scr_bool, ↓En.isi_scr_int, ↓En.isi_scr_str, ↓En.isi_scr_tuple, ↓En.isi_scr_list, ↓En.isi_scr_dict, reduceCtorEq, List.cons.injEq, Nat.reduceEqDiff, and_true, true_and, and_false, false_and, Int.cast_ofNat_Int, List.length_cons, List.length_nil, Nat.reduceAdd, Nat.reduceLeDiff, Nat.zero_add, Nat.reduceLT, Int.reduceLT, Int.reduceLE, Int.reducePow, Int.reduceToNat, Int.reduceNeg, Int.reduceAdd, Int.reduceSub, Int.reduceMul, Nat.reducePow, Int.reduceEq, Int.reduceBNe, decide_true, decide_false, Bool.not_true, Bool.not_false, beq_self_eq_true, Bool.true_beq, Bool.false_beq, En.cndP, En.cndQ, En.cndN, gt_iff_lt, if_true, if_false, ↓Lk.r_common, ↓Lk.r_whole, ↓Lk.r_isfr] | skip)
end Lk

set_option Elab.async false
set_option linter.all false
set_option maxRecDepth 100000
set_option maxHeartbeats 4000000
local macro_rules | `(tactic| walk_at "run") => `(tactic| first | simp -dsimp -implicitDefEqProofs only [↓En.cndP, ↓En.cndQ, ↓En.cndN, ↓En.l_non, ↓En.l_bl, ↓En.l_int, ↓En.l_str, ↓En.l_tup, ↓En.l_lst, ↓En.l_dic, ↓En.l_scr, ↓En.l_ty, ↓En.l_exc, ↓En.l_any, ↓En.l_ow, ↓En.l_lnow0, ↓En.v_ow0, ↓En.st_lnow0, ↓En.rt_lnow0, ↓En.l_lnfz0, ↓En.v_fz0, ↓En.st_lnfz0, ↓En.rt_lnfz0, ↓En.so_fz0, ↓En.so_ow0, ↓En.s1_0, ↓En.ch_ow0, ↓En.l_lnow1, ↓En.v_ow1, ↓En.st_lnow1, ↓En.rt_lnow1, ↓En.l_lnfz1, ↓En.v_fz1, ↓En.st_lnfz1, ↓En.rt_lnfz1, ↓En.so_fz1, ↓En.so_ow1, ↓En.s1_1, ↓En.ch_ow1, ↓En.l_lnow2, ↓En.v_ow2, ↓En.st_lnow2, ↓En.rt_lnow2, ↓En.l_lnfz2, ↓En.v_fz2, ↓En.st_lnfz2, ↓En.rt_lnfz2, ↓En.so_fz2, ↓En.so_ow2, ↓En.s1_2, ↓En.ch_ow2, ↓En.l_lnow3, ↓En.v_ow3, ↓En.st_lnow3, ↓En.rt_lnow3, ↓En.l_lnfz3, ↓En.v_fz3, ↓En.st_lnfz3, ↓En.rt_lnfz3, ↓En.so_fz3, ↓En.so_ow3, ↓En.s1_3, ↓En.ch_ow3, ↓En.l_lnow4, ↓En.v_ow4, ↓En.st_lnow4, ↓En.rt_lnow4, ↓En.l_lnfz4, ↓En.v_fz4, ↓En.st_lnfz4, ↓En.rt_lnfz4, ↓En.so_fz4, ↓En.so_ow4, ↓En.s1_4, ↓En.ch_ow4, ↓En.l_lnow5, ↓En.v_ow5, ↓En.st_lnow5, ↓En.rt_lnow5, ↓En.l_lnfz5, ↓En.v_fz5, ↓En.st_lnfz5, ↓En.rt_lnfz5, ↓En.so_fz5, ↓En.so_ow5, ↓En.s1_5, ↓En.ch_ow5, ↓En.l_lnow6, ↓En.v_ow6, ↓En.st_lnow6, ↓En.rt_lnow6, ↓En.l_lnfz6, ↓En.v_fz6, ↓En.st_lnfz6, ↓En.rt_lnfz6, ↓En.so_fz6, ↓En.so_ow6, ↓En.s1_6, ↓En.ch_ow6, ↓En.l_lnow7, ↓En.v_ow7, ↓En.st_lnow7, ↓En.rt_lnow7, ↓En.l_lnfz7, ↓En.v_fz7, ↓En.st_lnfz7, ↓En.rt_lnfz7, ↓En.so_fz7, ↓En.so_ow7, ↓En.s1_7, ↓En.ch_ow7, ↓En.l_lnow8, ↓En.v_ow8, ↓En.st_lnow8, ↓En.rt_lnow8, ↓En.l_lnfz8, ↓En.v_fz8, ↓En.st_lnfz8, ↓En.rt_lnfz8, ↓En.so_fz8, ↓En.so_ow8, ↓En.s1_8, ↓En.ch_ow8, ↓En.l_lnow9, ↓En.v_ow9, ↓En.st_lnow9, ↓En.rt_lnow9, ↓En.l_lnfz9, ↓En.v_fz9, ↓En.st_lnfz9, ↓En.rt_lnfz9, ↓En.so_fz9, ↓En.so_ow9, ↓En.s1_9, ↓En.ch_ow9, ↓En.l_lnow10, ↓En.v_ow10, ↓En.st_lnow10, ↓En.rt_lnow10, ↓En.l_lnfz10, ↓En.v_fz10, ↓En.st_lnfz10, ↓En.rt_lnfz10, ↓En.so_fz10, ↓En.so_ow10, ↓En.s1_10, ↓En.ch_ow10, ↓En.l_lnow11, ↓En.v_ow11, ↓En.st_lnow11, ↓En.rt_lnow11, ↓En.l_lnfz11, ↓En.v_fz11, ↓En.st_lnfz11, ↓En.rt_lnfz11, ↓En.so_fz11, ↓En.so_ow11, ↓En.s1_11, ↓En.ch_ow11, ↓En.l_lnow12, ↓En.v_ow12, ↓En.st_lnow12, ↓En.rt_lnow12, ↓En.l_lnfz12, ↓En.v_fz12, ↓En.st_lnfz12, ↓En.rt_lnfz12, ↓En.so_fz12, ↓En.so_ow12, ↓En.s1_12, ↓En.ch_ow12, ↓En.l_lnow13, ↓En.v_ow13, ↓En.st_lnow13, ↓En.rt_lnow13, ↓En.l_lnfz13, ↓En.v_fz13, ↓En.st_lnfz13, ↓En.rt_lnfz13, ↓En.so_fz13, ↓En.so_ow13, ↓En.s1_13, ↓En.ch_ow13, ↓En.l_lnow14, ↓En.v_ow14, ↓En.st_lnow14, ↓En.rt_lnow14, ↓En.l_lnfz14, ↓En.v_fz14, ↓En.st_lnfz14, ↓En.rt_lnfz14, ↓En.so_fz14, ↓En.so_ow14, ↓En.s1_14, ↓En.ch_ow14, ↓En.l_lnow15, ↓En.v_ow15, ↓En.st_lnow15, ↓En.rt_lnow15, ↓En.l_lnfz15, ↓En.v_fz15, ↓En.st_lnfz15, ↓En.rt_lnfz15, ↓En.so_fz15, ↓En.so_ow15, ↓En.s1_15, ↓En.ch_ow15, ↓En.l_lnow16, ↓En.v_ow16, ↓En.st_lnow16, ↓En.rt_lnow16, ↓En.l_lnfz16, ↓En.v_fz16, ↓En.st_lnfz16, ↓En.rt_lnfz16, ↓En.so_fz16, ↓En.so_ow16, ↓En.s1_16, ↓En.ch_ow16, ↓En.l_lnow17, ↓En.v_ow17, ↓En.st_lnow17, ↓En.rt_lnow17, ↓En.l_lnfz17, ↓En.v_fz17, ↓En.st_lnfz17, ↓En.rt_lnfz17, ↓En.so_fz17, ↓En.so_ow17, ↓En.s1_17, ↓En.ch_ow17, ↓En.l_lnow18, ↓En.v_ow18, ↓En.st_lnow18, ↓En.rt_lnow18, ↓En.l_lnfz18, ↓En.v_fz18, ↓En.st_lnfz18, ↓En.rt_lnfz18, ↓En.so_fz18, ↓En.so_ow18, ↓En.s1_18, ↓En.ch_ow18, ↓En.l_lnow19, ↓En.v_ow19, ↓En.st_lnow19, ↓En.rt_lnow19, ↓En.l_lnfz19, ↓En.v_fz19, ↓En.st_lnfz19, ↓En.rt_lnfz19, ↓En.so_fz19, ↓En.so_ow19, ↓En.s1_19, ↓En.ch_ow19, ↓En.l_lnow20, ↓En.v_ow20, ↓En.st_lnow20, ↓En.rt_lnow20, ↓En.l_lnfz20, ↓En.v_fz20, ↓En.st_lnfz20, ↓En.rt_lnfz20, ↓En.so_fz20, ↓En.so_ow20, ↓En.s1_20, ↓En.ch_ow20, ↓En.l_lnow21, ↓En.v_ow21, ↓En.st_lnow21, ↓En.rt_lnow21, ↓En.l_lnfz21, ↓En.v_fz21, ↓En.st_lnfz21, ↓En.rt_lnfz21, ↓En.so_fz21, ↓En.so_ow21, ↓En.s1_21, ↓En.ch_ow21, ↓En.so_ln, ↓En.wop_some, ↓En.st_fz, ↓En.rt_fz, ↓En.rt_ow, ↓En.k_fz, ↓En.k_ow, ↓En.k_ln, ↓En.ls0, ↓En.ls1, ↓En.sa0, ↓En.sa1, ↓En.g_lit, ↓En.g_bin, ↓En.lift2_eq, ↓En.lift1_eq, ↓En.g_un, ↓En.g_not, ↓En.g_and, ↓En.g_or, ↓En.g_if, ↓En.g_toT, ↓En.wt_or, ↓En.wt_and, ↓En.wt_not, ↓En.wt_bin, ↓En.wt_un, ↓En.wt_cb, ↓En.wt_var, ↓En.wt_call, ↓En.wt_lit, ↓En.wt_meth, ↓En.wt_chain, ↓En.wt_comp, ↓En.wt_if, ↓En.g_args0, ↓En.g_args1, ↓En.g_with, ↓En.ca, ↓En.g_call, ↓En.tup_ok, ↓En.lst_ok, ↓En.g_cb, ↓En.g_meth, ↓En.is_str, ↓En.is_lst, ↓En.isl, ↓En.part0, ↓En.part1, ↓En.wint, ↓En.g_slice, ↓En.g_d01, ↓En.g_rev, ↓En.g_dic0, ↓En.g_fmt, ↓En.js0, ↓En.js_e, ↓En.js_S, ↓En.wstr, ↓En.g_chain, ↓En.chn, ↓En.g_app, ↓En.g_ext, ↓En.wlst, ↓En.g_pop, ↓En.g_pro, ↓En.pro, ↓En.to_, ↓En.fz0, ↓En.fzF, ↓En.fzO, ↓En.fzN, ↓En.g_said, ↓En.t_name, ↓En.ta0, ↓En.taF, ↓En.taO, ↓En.gs0, ↓En.gs1, ↓En.t_tup, ↓En.wtup, ↓En.t_sub, ↓En.s_seq, ↓En.s_next, ↓En.s_cont, ↓En.s_drop, ↓En.s_ret, ↓En.s_retn, ↓En.s_if, ↓En.s_set, ↓En.s_asg, ↓En.s_par, ↓En.s_parg, ↓En.set0, ↓En.set1, ↓En.held0, ↓En.held1, ↓En.ho_fz, ↓En.ho_ow, ↓En.ho_ln, ↓En.s_raise, ↓En.s_raiset, ↓En.s_for, ↓En.i_seq, ↓En.it_lst, ↓En.it_tup, ↓En.it_str, ↓En.wrg, ↓En.i_rng1, ↓En.i_rng2, ↓En.cm, ↓En.g_comp, ↓En.t_yes, ↓En.fo_fz, ↓En.fo_ow, ↓En.s_loop, ↓En.q_add, ↓En.q_sub, ↓En.q_div, ↓En.q_mod, ↓En.q_pow, ↓En.q_lt, ↓En.q_le, ↓En.q_gt, ↓En.q_ge, ↓En.q_eqi, ↓En.q_nei, ↓En.q_is_non, ↓En.q_isn_non, ↓En.q_is_bl, ↓En.q_isn_bl, ↓En.q_is_int, ↓En.q_isn_int, ↓En.q_is_str, ↓En.q_isn_str, ↓En.q_is_tup, ↓En.q_isn_tup, ↓En.q_is_lst, ↓En.q_isn_lst, ↓En.q_is_dic, ↓En.q_isn_dic, ↓En.q_is_obj, ↓En.q_isn_obj, ↓En.q_eqb, ↓En.q_neb, ↓En.q_not, ↓En.q_neg, ↓En.q_abs, ↓En.q_max, ↓En.q_min, ↓En.q_lenl, ↓En.q_lent, ↓En.q_lenc, ↓En.q_listl, ↓En.q_listt, ↓En.q_tupl, ↓En.q_tupt, ↓En.q_revl, ↓En.q_revt, ↓En.q_sll, ↓En.q_slt, ↓En.q_int, ↓En.q_intb, ↓En.q_strs, ↓En.q_atl0, ↓En.q_att0, ↓En.q_atl1, ↓En.q_att1, ↓En.q_atl2, ↓En.q_att2, ↓En.q_atl3, ↓En.q_att3, ↓En.q_atl4, ↓En.q_att4, ↓En.q_atl5, ↓En.q_att5, ↓En.q_atl6, ↓En.q_att6, ↓En.q_atl7, ↓En.q_att7, ↓En.tr_bl, ↓En.tr_int, ↓En.tr_non, ↓En.tr_tup, ↓En.tr_lst, ↓En.no0, ↓En.no1, ↓En.wp0, ↓En.wp1, ↓En.bk0, ↓En.bk1, ↓En.no_no0, ↓En.no_fz0, ↓En.gt0, ↓En.no_no1, ↓En.no_fz1, ↓En.gt1, ↓En.no_no2, ↓En.no_fz2, ↓En.gt2, ↓En.no_no3, ↓En.no_fz3, ↓En.gt3, ↓En.no_no4, ↓En.no_fz4, ↓En.gt4, ↓En.no_no5, ↓En.no_fz5, ↓En.gt5, ↓En.no_no6, ↓En.no_fz6, ↓En.gt6, ↓En.no_no7, ↓En.no_fz7, ↓En.gt7, ↓En.no_no8, ↓En.no_fz8, ↓En.gt8, ↓En.no_no9, ↓En.no_fz9, ↓En.gt9, ↓En.no_no10, ↓En.no_fz10, ↓En.gt10, ↓En.no_no11, ↓En.no_fz11, ↓En.gt11, ↓En.no_no12, ↓En.no_fz12, ↓En.gt12, ↓En.no_no13, ↓En.no_fz13, ↓En.gt13, ↓En.no_no14, ↓En.no_fz14, ↓En.gt14, ↓En.no_no15, ↓En.no_fz15, ↓En.gt15, ↓En.no_no16, ↓En.no_fz16, ↓En.gt16, ↓En.no_no17, ↓En.no_fz17, ↓En.gt17, ↓En.no_no18, ↓En.no_fz18, ↓En.gt18, ↓En.no_no19, ↓En.no_fz19, ↓En.gt19, ↓En.no_no20, ↓En.no_fz20, ↓En.gt20, ↓En.no_no21, ↓En.no_fz21, ↓En.gt21, ↓En.wCp0, ↓En.c_step, ↓En.c_one, ↓En.ap_no, ↓En.ap0, ↓En.ap1, ↓En.ap2, ↓En.ap3, ↓En.ap4, ↓En.ap5, ↓En.ap6, ↓En.ap7, ↓En.ap8, ↓En.ap9, ↓En.q_all, ↓En.q_any, ↓En.bls0, ↓En.bls1, ↓En.isi_non_bool, ↓En.isi_non_int, ↓En.isi_non_str, ↓En.isi_non_tuple, ↓En.isi_non_list, ↓En.isi_non_dict, ↓En.isi_bl_bool, ↓En.isi_bl_int, ↓En.isi_bl_str, ↓En.isi_bl_tuple, ↓En.isi_bl_list, ↓En.isi_bl_dict, ↓En.isi_int_bool, ↓En.isi_int_int, ↓En.isi_int_str, ↓En.isi_int_tuple, ↓En.isi_int_list, ↓En.isi_int_dict, ↓En.isi_str_bool, ↓En.isi_str_int, ↓En.isi_str_str, ↓En.isi_str_tuple, ↓En.isi_str_list, ↓En.isi_str_dict, ↓En.isi_tup_bool, ↓En.isi_tup_int, ↓En.isi_tup_str, ↓En.isi_tup_tuple, ↓En.isi_tup_list, ↓En.isi_tup_dict, ↓En.isi_lst_bool, ↓En.isi_lst_int, ↓En.isi_lst_str, ↓En.isi_lst_tuple, ↓En.isi_lst_list, ↓En.isi_lst_dict, ↓En.isi_dic_bool, ↓En.isi_dic_int, ↓En.isi_dic_str, ↓En.isi_dic_tuple, ↓En.isi_dic_list, ↓En.isi_dic_dict, ↓En.isi_scr_bool, ↓En.isi_scr_int, ↓En.isi_scr_str, ↓En.isi_scr_tuple, ↓En.isi_scr_list, ↓En.isi_scr_dict, reduceCtorEq, List.cons.injEq, Nat.reduceEqDiff, and_true, true_and, and_false, false_and, Int.cast_ofNat_Int, List.length_cons, List.length_nil, Nat.reduceAdd, Nat.reduceLeDiff, Nat.zero_add, Nat.reduceLT, Int.reduceLT, Int.reduceLE, Int.reducePow, Int.reduceToNat, Int.reduceNeg, Int.reduceAdd, Int.reduceSub, Int.reduceMul, Nat.reducePow, Int.reduceEq, Int.reduceBNe, decide_true, decide_false, Bool.not_true, Bool.not_false, beq_self_eq_true, Bool.true_beq, Bool.false_beq, En.cndP, En.cndQ, En.cndN, gt_iff_lt, if_true, if_false, ↓Lk.r_common, ↓Lk.r_isfr, Int.reduceToNat] | skip)
local macro_rules | `(tactic| walk_at "start") => `(tactic| (rw [En.wF_run]; simp only [List.map_cons, List.map_nil, List.cons_append, List.nil_append, List.length_cons, List.length_nil, Nat.reduceAdd, Nat.reduceSub, List.replicate_succ, List.replicate_zero]))
local macro_rules | `(tactic| walk_at "if") => `(tactic| (refine En.cnd_if (fun _ => ?_) (fun _ => ?_) <;> walk_at "run"))
namespace Lk
open PySem PySem.Spec PyProof.Rows L2 Fw Wk En Tx
variable {st : List Cell} {s : S} {K : RV → List Cell → Prop} {E : Ex → List Cell → Prop}
theorem lit_ : Str.ofString "" = SX.S [] := by kernel_rfl
theorem lit__45_ : Str.ofString "-" = SX.S [45] := by kernel_rfl
theorem lit__47_ : Str.ofString "/" = SX.S [47] := by kernel_rfl
theorem lit_0 : Str.ofString "0" = SX.S [48] := by kernel_rfl
theorem lit_0123456789 : Str.ofString "0123456789" = SX.S [48, 49, 50, 51, 52, 53, 54, 55, 56, 57] := by kernel_rfl
theorem l_FIGURES {L : D → Prop} : wL s (.fz d_FIGURES) L = L (.str (SX.S [48, 49, 50, 51, 52, 53, 54, 55, 56, 57])) := by
  unfold d_FIGURES; rw [lit_0123456789]; rfl
theorem fig_mem (c : Nat) : decide (c ∈ [48, 49, 50, 51, 52, 53, 54, 55, 56, 57]) = decide (48 ≤ c ∧ c ≤ 57) := by
  apply decide_eq_decide.mpr
  simp only [List.mem_cons, List.not_mem_nil, or_false]
  omega
local macro_rules | `(tactic| walk_at "run") => `(tactic| first | simp -dsimp -implicitDefEqProofs only [↓En.cndP, ↓En.cndQ, ↓En.cndN, ↓En.l_non, ↓En.l_bl, ↓En.l_int, ↓En.l_str, ↓En.l_tup, ↓En.l_lst, ↓En.l_dic, ↓En.l_scr, ↓En.l_ty, ↓En.l_exc, ↓En.l_any, ↓En.l_ow, ↓En.l_lnow0, ↓En.v_ow0, ↓En.st_lnow0, ↓En.rt_lnow0, ↓En.l_lnfz0, ↓En.v_fz0, ↓En.st_lnfz0, ↓En.rt_lnfz0, ↓En.so_fz0, ↓En.so_ow0, ↓En.s1_0, ↓En.ch_ow0, ↓En.l_lnow1, ↓En.v_ow1, ↓En.st_lnow1, ↓En.rt_lnow1, ↓En.l_lnfz1, ↓En.v_fz1, ↓En.st_lnfz1, ↓En.rt_lnfz1, ↓En.so_fz1, ↓En.so_ow1, ↓En.s1_1, ↓En.ch_ow1, ↓En.l_lnow2, ↓En.v_ow2, ↓En.st_lnow2, ↓En.rt_lnow2, ↓En.l_lnfz2, ↓En.v_fz2, ↓En.st_lnfz2, ↓En.rt_lnfz2, ↓En.so_fz2, ↓En.so_ow2, ↓En.s1_2, ↓En.ch_ow2, ↓En.l_lnow3, ↓En.v_ow3, ↓En.st_lnow3, ↓En.rt_lnow3, ↓En.l_lnfz3, ↓En.v_fz3, ↓En.st_lnfz3, ↓En.rt_lnfz3, ↓En.so_fz3, ↓En.so_ow3, ↓En.s1_3, ↓En.ch_ow3, ↓En.l_lnow4, ↓En.v_ow4, ↓En.st_lnow4, ↓En.rt_lnow4, ↓En.l_lnfz4, ↓En.v_fz4, ↓En.st_lnfz4, ↓En.rt_lnfz4, ↓En.so_fz4, ↓En.so_ow4, ↓En.s1_4, ↓En.ch_ow4, ↓En.l_lnow5, ↓En.v_ow5, ↓En.st_lnow5, ↓En.rt_lnow5, ↓En.l_lnfz5, ↓En.v_fz5, ↓En.st_lnfz5, ↓En.rt_lnfz5, ↓En.so_fz5, ↓En.so_ow5, ↓En.s1_5, ↓En.ch_ow5, ↓En.l_lnow6, ↓En.v_ow6, ↓En.st_lnow6, ↓En.rt_lnow6, ↓En.l_lnfz6, ↓En.v_fz6, ↓En.st_lnfz6, ↓En.rt_lnfz6, ↓En.so_fz6, ↓En.so_ow6, ↓En.s1_6, ↓En.ch_ow6, ↓En.l_lnow7, ↓En.v_ow7, ↓En.st_lnow7, ↓En.rt_lnow7, ↓En.l_lnfz7, ↓En.v_fz7, ↓En.st_lnfz7, ↓En.rt_lnfz7, ↓En.so_fz7, ↓En.so_ow7, ↓En.s1_7, ↓En.ch_ow7, ↓En.l_lnow8, ↓En.v_ow8, ↓En.st_lnow8, ↓En.rt_lnow8, ↓En.l_lnfz8, ↓En.v_fz8, ↓En.st_lnfz8, ↓En.rt_lnfz8, ↓En.so_fz8, ↓En.so_ow8, ↓En.s1_8, ↓En.ch_ow8, ↓En.l_lnow9, ↓En.v_ow9, ↓En.st_lnow9, ↓En.rt_lnow9, ↓En.l_lnfz9, ↓En.v_fz9, ↓En.st_lnfz9, ↓En.rt_lnfz9, ↓En.so_fz9, ↓En.so_ow9, ↓En.s1_9, ↓En.ch_ow9, ↓En.l_lnow10, ↓En.v_ow10, ↓En.st_lnow10, ↓En.rt_lnow10, ↓En.l_lnfz10, ↓En.v_fz10, ↓En.st_lnfz10, ↓En.rt_lnfz10, ↓En.so_fz10, ↓En.so_ow10, ↓En.s1_10, ↓En.ch_ow10, ↓En.l_lnow11, ↓En.v_ow11, ↓En.st_lnow11, ↓En.rt_lnow11, ↓En.l_lnfz11, ↓En.v_fz11, ↓En.st_lnfz11, ↓En.rt_lnfz11, ↓En.so_fz11, ↓En.so_ow11, ↓En.s1_11, ↓En.ch_ow11, ↓En.l_lnow12, ↓En.v_ow12, ↓En.st_lnow12, ↓En.rt_lnow12, ↓En.l_lnfz12, ↓En.v_fz12, ↓En.st_lnfz12, ↓En.rt_lnfz12, ↓En.so_fz12, ↓En.so_ow12, ↓En.s1_12, ↓En.ch_ow12, ↓En.l_lnow13, ↓En.v_ow13, ↓En.st_lnow13, ↓En.rt_lnow13, ↓En.l_lnfz13, ↓En.v_fz13, ↓En.st_lnfz13, ↓En.rt_lnfz13, ↓En.so_fz13, ↓En.so_ow13, ↓En.s1_13, ↓En.ch_ow13, ↓En.l_lnow14, ↓En.v_ow14, ↓En.st_lnow14, ↓En.rt_lnow14, ↓En.l_lnfz14, ↓En.v_fz14, ↓En.st_lnfz14, ↓En.rt_lnfz14, ↓En.so_fz14, ↓En.so_ow14, ↓En.s1_14, ↓En.ch_ow14, ↓En.l_lnow15, ↓En.v_ow15, ↓En.st_lnow15, ↓En.rt_lnow15, ↓En.l_lnfz15, ↓En.v_fz15, ↓En.st_lnfz15, ↓En.rt_lnfz15, ↓En.so_fz15, ↓En.so_ow15, ↓En.s1_15, ↓En.ch_ow15, ↓En.l_lnow16, ↓En.v_ow16, ↓En.st_lnow16, ↓En.rt_lnow16, ↓En.l_lnfz16, ↓En.v_fz16, ↓En.st_lnfz16, ↓En.rt_lnfz16, ↓En.so_fz16, ↓En.so_ow16, ↓En.s1_16, ↓En.ch_ow16, ↓En.l_lnow17, ↓En.v_ow17, ↓En.st_lnow17, ↓En.rt_lnow17, ↓En.l_lnfz17, ↓En.v_fz17, ↓En.st_lnfz17, ↓En.rt_lnfz17, ↓En.so_fz17, ↓En.so_ow17, ↓En.s1_17, ↓En.ch_ow17, ↓En.l_lnow18, ↓En.v_ow18, ↓En.st_lnow18, ↓En.rt_lnow18, ↓En.l_lnfz18, ↓En.v_fz18, ↓En.st_lnfz18, ↓En.rt_lnfz18, ↓En.so_fz18, ↓En.so_ow18, ↓En.s1_18, ↓En.ch_ow18, ↓En.l_lnow19, ↓En.v_ow19, ↓En.st_lnow19, ↓En.rt_lnow19, ↓En.l_lnfz19, ↓En.v_fz19, ↓En.st_lnfz19, ↓En.rt_lnfz19, ↓En.so_fz19, ↓En.so_ow19, ↓En.s1_19, ↓En.ch_ow19, ↓En.l_lnow20, ↓En.v_ow20, ↓En.st_lnow20, ↓En.rt_lnow20, ↓En.l_lnfz20, ↓En.v_fz20, ↓En.st_lnfz20, ↓En.rt_lnfz20, ↓En.so_fz20, ↓En.so_ow20, ↓En.s1_20, ↓En.ch_ow20, ↓En.l_lnow21, ↓En.v_ow21, ↓En.st_lnow21, ↓En.rt_lnow21, ↓En.l_lnfz21, ↓En.v_fz21, ↓En.st_lnfz21, ↓En.rt_lnfz21, ↓En.so_fz21, ↓En.so_ow21, ↓En.s1_21, ↓En.ch_ow21, ↓En.so_ln, ↓En.wop_some, ↓En.st_fz, ↓En.rt_fz, ↓En.rt_ow, ↓En.k_fz, ↓En.k_ow, ↓En.k_ln, ↓En.ls0, ↓En.ls1, ↓En.sa0, ↓En.sa1, ↓En.g_lit, ↓En.g_bin, ↓En.lift2_eq, ↓En.lift1_eq, ↓En.g_un, ↓En.g_not, ↓En.g_and, ↓En.g_or, ↓En.g_if, ↓En.g_toT, ↓En.wt_or, ↓En.wt_and, ↓En.wt_not, ↓En.wt_bin, ↓En.wt_un, ↓En.wt_cb, ↓En.wt_var, ↓En.wt_call, ↓En.wt_lit, ↓En.wt_meth, ↓En.wt_chain, ↓En.wt_comp, ↓En.wt_if, ↓En.g_args0, ↓En.g_args1, ↓En.g_with, ↓En.ca, ↓En.g_call, ↓En.tup_ok, ↓En.lst_ok, ↓En.g_cb, ↓En.g_meth, ↓En.is_str, ↓En.is_lst, ↓En.isl, ↓En.part0, ↓En.part1, ↓En.wint, ↓En.g_slice, ↓En.g_d01, ↓En.g_rev, ↓En.g_dic0, ↓En.g_fmt, ↓En.js0, ↓En.js_e, ↓En.js_S, ↓En.wstr, ↓En.g_chain, ↓En.chn, ↓En.g_app, ↓En.g_ext, ↓En.wlst, ↓En.g_pop, ↓En.g_pro, ↓En.pro, ↓En.to_, ↓En.fz0, ↓En.fzF, ↓En.fzO, ↓En.fzN, ↓En.g_said, ↓En.t_name, ↓En.ta0, ↓En.taF, ↓En.taO, ↓En.gs0, ↓En.gs1, ↓En.t_tup, ↓En.wtup, ↓En.t_sub, ↓En.s_seq, ↓En.s_next, ↓En.s_cont, ↓En.s_drop, ↓En.s_ret, ↓En.s_retn, ↓En.s_if, ↓En.s_set, ↓En.s_asg, ↓En.s_par, ↓En.s_parg, ↓En.set0, ↓En.set1, ↓En.held0, ↓En.held1, ↓En.ho_fz, ↓En.ho_ow, ↓En.ho_ln, ↓En.s_raise, ↓En.s_raiset, ↓En.s_for, ↓En.i_seq, ↓En.it_lst, ↓En.it_tup, ↓En.it_str, ↓En.wrg, ↓En.i_rng1, ↓En.i_rng2, ↓En.cm, ↓En.g_comp, ↓En.t_yes, ↓En.fo_fz, ↓En.fo_ow, ↓En.s_loop, ↓En.q_add, ↓En.q_sub, ↓En.q_div, ↓En.q_mod, ↓En.q_pow, ↓En.q_lt, ↓En.q_le, ↓En.q_gt, ↓En.q_ge, ↓En.q_eqi, ↓En.q_nei, ↓En.q_is_non, ↓En.q_isn_non, ↓En.q_is_bl, ↓En.q_isn_bl, ↓En.q_is_int, ↓En.q_isn_int, ↓En.q_is_str, ↓En.q_isn_str, ↓En.q_is_tup, ↓En.q_isn_tup, ↓En.q_is_lst, ↓En.q_isn_lst, ↓En.q_is_dic, ↓En.q_isn_dic, ↓En.q_is_obj, ↓En.q_isn_obj, ↓En.q_eqb, ↓En.q_neb, ↓En.q_not, ↓En.q_neg, ↓En.q_abs, ↓En.q_max, ↓En.q_min, ↓En.q_lenl, ↓En.q_lent, ↓En.q_lenc, ↓En.q_listl, ↓En.q_listt, ↓En.q_tupl, ↓En.q_tupt, ↓En.q_revl, ↓En.q_revt, ↓En.q_sll, ↓En.q_slt, ↓En.q_int, ↓En.q_intb, ↓En.q_strs, ↓En.q_atl0, ↓En.q_att0, ↓En.q_atl1, ↓En.q_att1, ↓En.q_atl2, ↓En.q_att2, ↓En.q_atl3, ↓En.q_att3, ↓En.q_atl4, ↓En.q_att4, ↓En.q_atl5, ↓En.q_att5, ↓En.q_atl6, ↓En.q_att6, ↓En.q_atl7, ↓En.q_att7, ↓En.tr_bl, ↓En.tr_int, ↓En.tr_non, ↓En.tr_tup, ↓En.tr_lst, ↓En.no0, ↓En.no1, ↓En.wp0, ↓En.wp1, ↓En.bk0, ↓En.bk1, ↓En.no_no0, ↓En.no_fz0, ↓En.gt0, ↓En.no_no1, ↓En.no_fz1, ↓En.gt1, ↓En.no_no2, ↓En.no_fz2, ↓En.gt2, ↓En.no_no3, ↓En.no_fz3, ↓En.gt3, ↓En.no_no4, ↓En.no_fz4, ↓En.gt4, ↓En.no_no5, ↓En.no_fz5, ↓En.gt5, ↓En.no_no6, ↓En.no_fz6, ↓En.gt6, ↓En.no_no7, ↓En.no_fz7, ↓En.gt7, ↓En.no_no8, ↓En.no_fz8, ↓En.gt8, ↓En.no_no9, ↓En.no_fz9, ↓En.gt9, ↓En.no_no10, ↓En.no_fz10, ↓En.gt10, ↓En.no_no11, ↓En.no_fz11, ↓En.gt11, ↓En.no_no12, ↓En.no_fz12, ↓En.gt12, ↓En.no_no13, ↓En.no_fz13, ↓En.gt13, ↓En.no_no14, ↓En.no_fz14, ↓En.gt14, ↓En.no_no15, ↓En.no_fz15, ↓En.gt15, ↓En.no_no16, ↓En.no_fz16, ↓En.gt16, ↓En.no_no17, ↓En.no_fz17, ↓En.gt17, ↓En.no_no18, ↓En.no_fz18, ↓En.gt18, ↓En.no_no19, ↓En.no_fz19, ↓En.gt19, ↓En.no_no20, ↓En.no_fz20, ↓En.gt20, ↓En.no_no21, ↓En.no_fz21, ↓En.gt21, ↓En.wCp0, ↓En.c_step, ↓En.c_one, ↓En.ap_no, ↓En.ap0, ↓En.ap1, ↓En.ap2, ↓En.ap3, ↓En.ap4, ↓En.ap5, ↓En.ap6, ↓En.ap7, ↓En.ap8, ↓En.ap9, ↓En.q_all, ↓En.q_any, ↓En.bls0, ↓En.bls1, ↓En.isi_non_bool, ↓En.isi_non_int, ↓En.isi_non_str, ↓En.isi_non_tuple, ↓En.isi_non_list, ↓En.isi_non_dict, ↓En.isi_bl_bool, ↓En.isi_bl_int, ↓En.isi_bl_str, ↓En.isi_bl_tuple, ↓En.isi_bl_list, ↓En.isi_bl_dict, ↓En.isi_int_bool, ↓En.isi_int_int, ↓En.isi_int_str, ↓En.isi_int_tuple, ↓En.isi_int_list, ↓En.isi_int_dict, ↓En.isi_str_bool, ↓En.isi_str_int, ↓En.isi_str_str, ↓En.isi_str_tuple, ↓En.isi_str_list, ↓En.isi_str_dict, ↓En.isi_tup_bool, ↓En.isi_tup_int, ↓En.isi_tup_str, ↓En.isi_tup_tuple, ↓En.isi_tup_list, ↓En.isi_tup_dict, ↓En.isi_lst_bool, ↓En.isi_lst_int, ↓En.isi_lst_str, ↓En.isi_lst_tuple, ↓En.isi_lst_list, ↓En.isi_lst_dict, ↓En.isi_dic_bool, ↓En.isi_dic_int, ↓En.isi_dic_str, ↓En.isi_dic_tuple, ↓En.isi_dic_list, ↓En.isi_dic_dict, ↓En.isi_scr_bool, ↓En.isi_scr_int, ↓En.isi_scr_str, ↓En.isi_scr_tuple, ↓En.isi_scr_list, ↓En.isi_scr_dict, reduceCtorEq, List.cons.injEq, Nat.reduceEqDiff, and_true, true_and, and_false, false_and, Int.cast_ofNat_Int, List.length_cons, List.length_nil, Nat.reduceAdd, Nat.reduceLeDiff, Nat.zero_add, Nat.reduceLT, Int.reduceLT, Int.reduceLE, Int.reducePow, Int.reduceToNat, Int.reduceNeg, Int.reduceAdd, Int.reduceSub, Int.reduceMul, Nat.reducePow, Int.reduceEq, Int.reduceBNe, decide_true, decide_false, Bool.not_true, Bool.not_false, beq_self_eq_true, Bool.true_beq, Bool.false_beq, En.cndP, En.cndQ, En.cndN, gt_iff_lt, if_true, if_false, ↓Lk.r_common, ↓Lk.r_isfr, Int.reduceToNat, ↓Lk.l_FIGURES, lit_, lit__45_, lit__47_, lit_0, ↓Tx.q_inS, ↓Tx.q_notInS, ↓Tx.it_S, SX.S_len] | skip)
/-- the text of a fraction -/
def frL (a b : Int) : List Nat := if b = 1 then itx a else itx a ++ 47 :: itx b
theorem small_len {a : Int} (h : a.natAbs < 2 ^ 250) : (itx a).length ≤ 101 := itx_len (by decide) (Nat.lt_trans h (by decide))
theorem frL_ok (a b : Int) : okT (frL a b) := by
  unfold frL; split
  · exact itx_ok a
  · exact okT_app (itx_ok a) fun c hc => by
      rcases List.mem_cons.mp hc with h | h
      · omega
      · exact itx_ok b c h
theorem frL_len {a b : Int} (ha : a.natAbs < 2 ^ 250) (hb : b.natAbs < 2 ^ 250) : (frL a b).length ≤ 203 := by
  have := small_len ha
  have := small_len hb
  unfold frL; split
  · omega
  · rw [List.length_append, List.length_cons]; omega
theorem r_by {a b : Int} (ha : a.natAbs < 2 ^ 250) (hb : b.natAbs < 2 ^ 250) : wF (f_fraction_by [.tup [.int a, .int b]] st) K E = K (.fz (.str (SX.S (frL a b)))) st := by
  refine wF_det fun K E h => ?_
  have l1 := small_len ha
  have l2 := small_len hb
  unfold f_fraction_by g_fraction_by
  walk_at "start"
  walk_at "run"
  unfold frL at h
  walk_at "if"
  · next e =>
    rw [if_pos e] at h
    walk_at "run"
    rw [q_str ha]
    walk_at "run"
    exact h
  · next e =>
    rw [if_neg e] at h
    walk_at "run"
    rw [q_fmt ha]
    walk_at "run"
    rw [wj (by simp; omega)]
    walk_at "run"
    rw [wj (by simp; omega)]
    walk_at "run"
    rw [q_fmt hb]
    walk_at "run"
    rw [wj (by simp; omega)]
    walk_at "run"
    rw [List.nil_append, List.append_assoc]
    exact h
theorem r_number {w : List Nat} (hw : w.length ≤ 600) (ok : okT w) : wF (f_number_in [.str (SX.S w)] st) K E = K (.fz (match numW w with | some n => .int n | none => .non)) st := by
  refine wF_det fun K E h => ?_
  unfold f_number_in g_number_in
  walk_at "start"
  walk_at "run"
  rw [q_eqS ok (by intro c hc; cases hc)]
  walk_at "run"
  walk_at "if"
  · next e => subst e; walk_at "run"; exact h
  · next e =>
    walk_at "run"
    rw [wCp_map (fun c => D.bl (decide (48 ≤ c ∧ c ≤ 57))) (fun c hc M => by walk_at "run"; rw [fig_mem]) (by omega)]
    walk_at "run"
    rw [bls_map]
    walk_at "run"
    rw [show (List.map (fun c => decide (48 ≤ c ∧ c ≤ 57)) w).all id = figs w by unfold figs; rw [List.all_map]; rfl]
    refine cnd_of (fun f => ?_) (fun f => ?_)
    · obtain ⟨c, r, rfl⟩ := List.exists_cons_of_ne_nil e
      have f1 := figs_all.mp f
      walk_at "run"
      rw [q_at0S (by omega)]
      walk_at "run"
      rw [q_neS (fun d hd => ok d (by simp at hd; rw [hd]; exact List.mem_cons_self)) (by intro d hd; simp at hd; omega)]
      walk_at "run"
      walk_at "if"
      · next e1 =>
        have e1 : c = 48 := by simpa using e1
        rw [q_eqS ok (by intro d hd; rw [List.mem_singleton.mp hd]; decide)]
        walk_at "run"
        walk_at "if"
        · next e2 =>
          walk_at "run"
          rw [q_intS f1 e (by omega)]
          walk_at "run"
          unfold numW at h
          rw [if_pos ⟨e, f, .inr (by rw [e2.1, e2.2])⟩] at h
          exact h
        · next e2 =>
          walk_at "run"
          unfold numW at h
          rw [if_neg (fun z => by rcases z.2.2 with z | z; exact z (by rw [e1]; rfl); exact e2 ⟨(List.cons.inj z).1, (List.cons.inj z).2⟩)] at h
          exact h
      · next e1 =>
        have e1 : c ≠ 48 := fun z => e1 (by rw [z])
        walk_at "run"
        rw [q_intS f1 e (by omega)]
        walk_at "run"
        unfold numW at h
        rw [if_pos ⟨e, f, .inl (by simpa using e1)⟩] at h
        exact h
    · walk_at "run"
      unfold numW at h
      rw [if_neg (fun z => by rw [f] at z; cases z.2.1)] at h
      exact h
local macro_rules | `(tactic| walk_at "run") => `(tactic| first | simp -dsimp -implicitDefEqProofs only [↓En.cndP, ↓En.cndQ, ↓En.cndN, ↓En.l_non, ↓En.l_bl, ↓En.l_int, ↓En.l_str, ↓En.l_tup, ↓En.l_lst, ↓En.l_dic, ↓En.l_scr, ↓En.l_ty, ↓En.l_exc, ↓En.l_any, ↓En.l_ow, ↓En.l_lnow0, ↓En.v_ow0, ↓En.st_lnow0, ↓En.rt_lnow0, ↓En.l_lnfz0, ↓En.v_fz0, ↓En.st_lnfz0, ↓En.rt_lnfz0, ↓En.so_fz0, ↓En.so_ow0, ↓En.s1_0, ↓En.ch_ow0, ↓En.l_lnow1, ↓En.v_ow1, ↓En.st_lnow1, ↓En.rt_lnow1, ↓En.l_lnfz1, ↓En.v_fz1, ↓En.st_lnfz1, ↓En.rt_lnfz1, ↓En.so_fz1, ↓En.so_ow1, ↓En.s1_1, ↓En.ch_ow1, ↓En.l_lnow2, ↓En.v_ow2, ↓En.st_lnow2, ↓En.rt_lnow2, ↓En.l_lnfz2, ↓En.v_fz2, ↓En.st_lnfz2, ↓En.rt_lnfz2, ↓En.so_fz2, ↓En.so_ow2, ↓En.s1_2, ↓En.ch_ow2, ↓En.l_lnow3, ↓En.v_ow3, ↓En.st_lnow3, ↓En.rt_lnow3, ↓En.l_lnfz3, ↓En.v_fz3, ↓En.st_lnfz3, ↓En.rt_lnfz3, ↓En.so_fz3, ↓En.so_ow3, ↓En.s1_3, ↓En.ch_ow3, ↓En.l_lnow4, ↓En.v_ow4, ↓En.st_lnow4, ↓En.rt_lnow4, ↓En.l_lnfz4, ↓En.v_fz4, ↓En.st_lnfz4, ↓En.rt_lnfz4, ↓En.so_fz4, ↓En.so_ow4, ↓En.s1_4, ↓En.ch_ow4, ↓En.l_lnow5, ↓En.v_ow5, ↓En.st_lnow5, ↓En.rt_lnow5, ↓En.l_lnfz5, ↓En.v_fz5, ↓En.st_lnfz5, ↓En.rt_lnfz5, ↓En.so_fz5, ↓En.so_ow5, ↓En.s1_5, ↓En.ch_ow5, ↓En.l_lnow6, ↓En.v_ow6, ↓En.st_lnow6, ↓En.rt_lnow6, ↓En.l_lnfz6, ↓En.v_fz6, ↓En.st_lnfz6, ↓En.rt_lnfz6, ↓En.so_fz6, ↓En.so_ow6, ↓En.s1_6, ↓En.ch_ow6, ↓En.l_lnow7, ↓En.v_ow7, ↓En.st_lnow7, ↓En.rt_lnow7, ↓En.l_lnfz7, ↓En.v_fz7, ↓En.st_lnfz7, ↓En.rt_lnfz7, ↓En.so_fz7, ↓En.so_ow7, ↓En.s1_7, ↓En.ch_ow7, ↓En.l_lnow8, ↓En.v_ow8, ↓En.st_lnow8, ↓En.rt_lnow8, ↓En.l_lnfz8, ↓En.v_fz8, ↓En.st_lnfz8, ↓En.rt_lnfz8, ↓En.so_fz8, ↓En.so_ow8, ↓En.s1_8, ↓En.ch_ow8, ↓En.l_lnow9, ↓En.v_ow9, ↓En.st_lnow9, ↓En.rt_lnow9, ↓En.l_lnfz9, ↓En.v_fz9, ↓En.st_lnfz9, ↓En.rt_lnfz9, ↓En.so_fz9, ↓En.so_ow9, ↓En.s1_9, ↓En.ch_ow9, ↓En.l_lnow10, ↓En.v_ow10, ↓En.st_lnow10, ↓En.rt_lnow10, ↓En.l_lnfz10, ↓En.v_fz10, ↓En.st_lnfz10, ↓En.rt_lnfz10, ↓En.so_fz10, ↓En.so_ow10, ↓En.s1_10, ↓En.ch_ow10, ↓En.l_lnow11, ↓En.v_ow11, ↓En.st_lnow11, ↓En.rt_lnow11, ↓En.l_lnfz11, ↓En.v_fz11, ↓En.st_lnfz11, ↓En.rt_lnfz11, ↓En.so_fz11, ↓En.so_ow11, ↓En.s1_11, ↓En.ch_ow11, ↓En.l_lnow12, ↓En.v_ow12, ↓En.st_lnow12, ↓En.rt_lnow12, ↓En.l_lnfz12, ↓En.v_fz12, ↓En.st_lnfz12, ↓En.rt_lnfz12, ↓En.so_fz12, ↓En.so_ow12, ↓En.s1_12, ↓En.ch_ow12, ↓En.l_lnow13, ↓En.v_ow13, ↓En.st_lnow13, ↓En.rt_lnow13, ↓En.l_lnfz13, ↓En.v_fz13, ↓En.st_lnfz13, ↓En.rt_lnfz13, ↓En.so_fz13, ↓En.so_ow13, ↓En.s1_13, ↓En.ch_ow13, ↓En.l_lnow14, ↓En.v_ow14, ↓En.st_lnow14, ↓En.rt_lnow14, ↓En.l_lnfz14, ↓En.v_fz14, ↓En.st_lnfz14, ↓En.rt_lnfz14, ↓En.so_fz14, ↓En.so_ow14, ↓En.s1_14, ↓En.ch_ow14, ↓En.l_lnow15, ↓En.v_ow15, ↓En.st_lnow15, ↓En.rt_lnow15, ↓En.l_lnfz15, ↓En.v_fz15, ↓En.st_lnfz15, ↓En.rt_lnfz15, ↓En.so_fz15, ↓En.so_ow15, ↓En.s1_15, ↓En.ch_ow15, ↓En.l_lnow16, ↓En.v_ow16, ↓En.st_lnow16, ↓En.rt_lnow16, ↓En.l_lnfz16, ↓En.v_fz16, ↓En.st_lnfz16, ↓En.rt_lnfz16, ↓En.so_fz16, ↓En.so_ow16, ↓En.s1_16, ↓En.ch_ow16, ↓En.l_lnow17, ↓En.v_ow17, ↓En.st_lnow17, ↓En.rt_lnow17, ↓En.l_lnfz17, ↓En.v_fz17, ↓En.st_lnfz17, ↓En.rt_lnfz17, ↓En.so_fz17, ↓En.so_ow17, ↓En.s1_17, ↓En.ch_ow17, ↓En.l_lnow18, ↓En.v_ow18, ↓En.st_lnow18, ↓En.rt_lnow18, ↓En.l_lnfz18, ↓En.v_fz18, ↓En.st_lnfz18, ↓En.rt_lnfz18, ↓En.so_fz18, ↓En.so_ow18, ↓En.s1_18, ↓En.ch_ow18, ↓En.l_lnow19, ↓En.v_ow19, ↓En.st_lnow19, ↓En.rt_lnow19, ↓En.l_lnfz19, ↓En.v_fz19, ↓En.st_lnfz19, ↓En.rt_lnfz19, ↓En.so_fz19, ↓En.so_ow19, ↓En.s1_19, ↓En.ch_ow19, ↓En.l_lnow20, ↓En.v_ow20, ↓En.st_lnow20, ↓En.rt_lnow20, ↓En.l_lnfz20, ↓En.v_fz20, ↓En.st_lnfz20, ↓En.rt_lnfz20, ↓En.so_fz20, ↓En.so_ow20, ↓En.s1_20, ↓En.ch_ow20, ↓En.l_lnow21, ↓En.v_ow21, ↓En.st_lnow21, ↓En.rt_lnow21, ↓En.l_lnfz21, ↓En.v_fz21, ↓En.st_lnfz21, ↓En.rt_lnfz21, ↓En.so_fz21, ↓En.so_ow21, ↓En.s1_21, ↓En.ch_ow21, ↓En.so_ln, ↓En.wop_some, ↓En.st_fz, ↓En.rt_fz, ↓En.rt_ow, ↓En.k_fz, ↓En.k_ow, ↓En.k_ln, ↓En.ls0, ↓En.ls1, ↓En.sa0, ↓En.sa1, ↓En.g_lit, ↓En.g_bin, ↓En.lift2_eq, ↓En.lift1_eq, ↓En.g_un, ↓En.g_not, ↓En.g_and, ↓En.g_or, ↓En.g_if, ↓En.g_toT, ↓En.wt_or, ↓En.wt_and, ↓En.wt_not, ↓En.wt_bin, ↓En.wt_un, ↓En.wt_cb, ↓En.wt_var, ↓En.wt_call, ↓En.wt_lit, ↓En.wt_meth, ↓En.wt_chain, ↓En.wt_comp, ↓En.wt_if, ↓En.g_args0, ↓En.g_args1, ↓En.g_with, ↓En.ca, ↓En.g_call, ↓En.tup_ok, ↓En.lst_ok, ↓En.g_cb, ↓En.g_meth, ↓En.is_str, ↓En.is_lst, ↓En.isl, ↓En.part0, ↓En.part1, ↓En.wint, ↓En.g_slice, ↓En.g_d01, ↓En.g_rev, ↓En.g_dic0, ↓En.g_fmt, ↓En.js0, ↓En.js_e, ↓En.js_S, ↓En.wstr, ↓En.g_chain, ↓En.chn, ↓En.g_app, ↓En.g_ext, ↓En.wlst, ↓En.g_pop, ↓En.g_pro, ↓En.pro, ↓En.to_, ↓En.fz0, ↓En.fzF, ↓En.fzO, ↓En.fzN, ↓En.g_said, ↓En.t_name, ↓En.ta0, ↓En.taF, ↓En.taO, ↓En.gs0, ↓En.gs1, ↓En.t_tup, ↓En.wtup, ↓En.t_sub, ↓En.s_seq, ↓En.s_next, ↓En.s_cont, ↓En.s_drop, ↓En.s_ret, ↓En.s_retn, ↓En.s_if, ↓En.s_set, ↓En.s_asg, ↓En.s_par, ↓En.s_parg, ↓En.set0, ↓En.set1, ↓En.held0, ↓En.held1, ↓En.ho_fz, ↓En.ho_ow, ↓En.ho_ln, ↓En.s_raise, ↓En.s_raiset, ↓En.s_for, ↓En.i_seq, ↓En.it_lst, ↓En.it_tup, ↓En.it_str, ↓En.wrg, ↓En.i_rng1, ↓En.i_rng2, ↓En.cm, ↓En.g_comp, ↓En.t_yes, ↓En.fo_fz, ↓En.fo_ow, ↓En.s_loop, ↓En.q_add, ↓En.q_sub, ↓En.q_div, ↓En.q_mod, ↓En.q_pow, ↓En.q_lt, ↓En.q_le, ↓En.q_gt, ↓En.q_ge, ↓En.q_eqi, ↓En.q_nei, ↓En.q_is_non, ↓En.q_isn_non, ↓En.q_is_bl, ↓En.q_isn_bl, ↓En.q_is_int, ↓En.q_isn_int, ↓En.q_is_str, ↓En.q_isn_str, ↓En.q_is_tup, ↓En.q_isn_tup, ↓En.q_is_lst, ↓En.q_isn_lst, ↓En.q_is_dic, ↓En.q_isn_dic, ↓En.q_is_obj, ↓En.q_isn_obj, ↓En.q_eqb, ↓En.q_neb, ↓En.q_not, ↓En.q_neg, ↓En.q_abs, ↓En.q_max, ↓En.q_min, ↓En.q_lenl, ↓En.q_lent, ↓En.q_lenc, ↓En.q_listl, ↓En.q_listt, ↓En.q_tupl, ↓En.q_tupt, ↓En.q_revl, ↓En.q_revt, ↓En.q_sll, ↓En.q_slt, ↓En.q_int, ↓En.q_intb, ↓En.q_strs, ↓En.q_atl0, ↓En.q_att0, ↓En.q_atl1, ↓En.q_att1, ↓En.q_atl2, ↓En.q_att2, ↓En.q_atl3, ↓En.q_att3, ↓En.q_atl4, ↓En.q_att4, ↓En.q_atl5, ↓En.q_att5, ↓En.q_atl6, ↓En.q_att6, ↓En.q_atl7, ↓En.q_att7, ↓En.tr_bl, ↓En.tr_int, ↓En.tr_non, ↓En.tr_tup, ↓En.tr_lst, ↓En.no0, ↓En.no1, ↓En.wp0, ↓En.wp1, ↓En.bk0, ↓En.bk1, ↓En.no_no0, ↓En.no_fz0, ↓En.gt0, ↓En.no_no1, ↓En.no_fz1, ↓En.gt1, ↓En.no_no2, ↓En.no_fz2, ↓En.gt2, ↓En.no_no3, ↓En.no_fz3, ↓En.gt3, ↓En.no_no4, ↓En.no_fz4, ↓En.gt4, ↓En.no_no5, ↓En.no_fz5, ↓En.gt5, ↓En.no_no6, ↓En.no_fz6, ↓En.gt6, ↓En.no_no7, ↓En.no_fz7, ↓En.gt7, ↓En.no_no8, ↓En.no_fz8, ↓En.gt8, ↓En.no_no9, ↓En.no_fz9, ↓En.gt9, ↓En.no_no10, ↓En.no_fz10, ↓En.gt10, ↓En.no_no11, ↓En.no_fz11, ↓En.gt11, ↓En.no_no12, ↓En.no_fz12, ↓En.gt12, ↓En.no_no13, ↓En.no_fz13, ↓En.gt13, ↓En.no_no14, ↓En.no_fz14, ↓En.gt14, ↓En.no_no15, ↓En.no_fz15, ↓En.gt15, ↓En.no_no16, ↓En.no_fz16, ↓En.gt16, ↓En.no_no17, ↓En.no_fz17, ↓En.gt17, ↓En.no_no18, ↓En.no_fz18, ↓En.gt18, ↓En.no_no19, ↓En.no_fz19, ↓En.gt19, ↓En.no_no20, ↓En.no_fz20, ↓En.gt20, ↓En.no_no21, ↓En.no_fz21, ↓En.gt21, ↓En.wCp0, ↓En.c_step, ↓En.c_one, ↓En.ap_no, ↓En.ap0, ↓En.ap1, ↓En.ap2, ↓En.ap3, ↓En.ap4, ↓En.ap5, ↓En.ap6, ↓En.ap7, ↓En.ap8, ↓En.ap9, ↓En.q_all, ↓En.q_any, ↓En.bls0, ↓En.bls1, ↓En.isi_non_bool, ↓En.isi_non_int, ↓En.isi_non_str, ↓En.isi_non_tuple, ↓En.isi_non_list, ↓En.isi_non_dict, ↓En.isi_bl_bool, ↓En.isi_bl_int, ↓En.isi_bl_str, ↓En.isi_bl_tuple, ↓En.isi_bl_list, ↓En.isi_bl_dict, ↓En.isi_int_bool, ↓En.isi_int_int, ↓En.isi_int_str, ↓En.isi_int_tuple, ↓En.isi_int_list, ↓En.isi_int_dict, ↓En.isi_str_bool, ↓En.isi_str_int, ↓En.isi_str_str, ↓En.isi_str_tuple, ↓En.isi_str_list, ↓En.isi_str_dict, ↓En.isi_tup_bool, ↓En.isi_tup_int, ↓En.isi_tup_str, ↓En.isi_tup_tuple, ↓En.isi_tup_list, ↓En.isi_tup_dict, ↓En.isi_lst_bool, ↓En.isi_lst_int, ↓En.isi_lst_str, ↓En.isi_lst_tuple, ↓En.isi_lst_list, ↓En.isi_lst_dict, ↓En.isi_dic_bool, ↓En.isi_dic_int, ↓En.isi_dic_str, ↓En.isi_dic_tuple, ↓En.isi_dic_list, ↓En.isi_dic_dict, ↓En.isi_scr_bool, ↓En.isi_scr_int, ↓En.isi_scr_str, ↓En.isi_scr_tuple, ↓En.isi_scr_list, ↓En.isi_scr_dict, reduceCtorEq, List.cons.injEq, Nat.reduceEqDiff, and_true, true_and, and_false, false_and, Int.cast_ofNat_Int, List.length_cons, List.length_nil, Nat.reduceAdd, Nat.reduceLeDiff, Nat.zero_add, Nat.reduceLT, Int.reduceLT, Int.reduceLE, Int.reducePow, Int.reduceToNat, Int.reduceNeg, Int.reduceAdd, Int.reduceSub, Int.reduceMul, Nat.reducePow, Int.reduceEq, Int.reduceBNe, decide_true, decide_false, Bool.not_true, Bool.not_false, beq_self_eq_true, Bool.true_beq, Bool.false_beq, En.cndP, En.cndQ, En.cndN, gt_iff_lt, if_true, if_false, ↓Lk.r_common, ↓Lk.r_isfr, Int.reduceToNat, ↓Lk.l_FIGURES, lit_, lit__45_, lit__47_, lit_0, ↓Tx.q_inS, ↓Tx.q_notInS, ↓Tx.it_S, SX.S_len, ↓Lk.r_number, ↓En.cndN] | skip)
/-- what a text writes, if a fraction -/
def chk (t : List Nat) (a b : Int) : Option (Int × Int) := if isFr (.tup [.int a, .int b]) = true ∧ frL a b = t then some (a, b) else none
def fracU (t : List Nat) (neg : Bool) (u : List Nat) : Option (Int × Int) := match TL.par [47] [] u with
  | none => (numW u).bind fun n => chk t (if neg then 0 - (n : Int) else n) 1
  | some (p, q) => (numW p).bind fun n => (numW q).bind fun d => chk t (if neg then 0 - (n : Int) else n) d
def fracW (t : List Nat) : Option (Int × Int) := if t.take 1 = [45] then fracU t true (t.drop 1) else fracU t false t
def frD : Option (Int × Int) → D
  | some (a, b) => .tup [.int a, .int b]
  | none => .non
noncomputable def fiR : SX := (gSeq (gIfS (gOr (gBin (lift2 (cmpD .Is)) (gVar 5) (gLit .non)) (gBin (lift2 (cmpD .Is)) (gVar 6) (gLit .non))) (gSeq (gRet (gLit .non)) gNext) gNext) (gSeq (gSet 7 (gWith [(gIf (gVar 1) (gBin (lift2 (binD .Sub)) (gLit (.int 0)) (gVar 5)) (gVar 5)), (gVar 6)] tupK)) (gSeq (gRet (gIf (gAnd (gCall f_is_fraction [(gVar 7)]) (gBin (lift2 (cmpD .Eq)) (gCall f_fraction_by [(gVar 7)]) (gVar 0))) (gVar 7) (gLit .non))) gNext)))
def optD : Option Nat → D
  | some n => .int n
  | none => .non
theorem in_tail {t : List Nat} {neg : Bool} {x2 x3 x4 : Sl} (o5 o6 : Option Nat) (ht : t.length ≤ 70) (ok : okT t) (b5 : ∀ n, o5 = some n → n < 10 ^ 70) (b6 : ∀ n, o6 = some n → n < 10 ^ 70) {N : S → Prop} {TT : RV → S → Prop} {B C : S → Prop} {E : Ex → S → Prop}
    (h : ∀ sl, TT (.fz (frD (o5.bind fun n => o6.bind fun d => chk t (if neg then 0 - (n : Int) else n) d))) ⟨sl, st⟩) :
    wS (fiR ⟨[.fz (.str (SX.S t)), .fz (.bl neg), x2, x3, x4, .fz (optD o5), .fz (optD o6), .no], st⟩) N TT B C E := by
  unfold fiR
  cases o5 with
  | none => dsimp only [optD]; walk_at "run"; exact h _
  | some n =>
    cases o6 with
    | none => dsimp only [optD]; walk_at "run"; exact h _
    | some d =>
      have b5 := b5 n rfl
      have b6 := b6 d rfl
      have p70 : (10 : Nat) ^ 70 < 2 ^ 250 := by decide
      dsimp only [optD]; walk_at "run"
      cases neg with
      | true =>
        simp only [Option.bind_some, if_true] at h
        walk_at "run"
        rw [r_isfr rfl]
        walk_at "run"
        refine cnd_of (fun f => ?_) (fun f => ?_)
        · walk_at "run"
          rw [r_by (by omega) (by omega)]
          walk_at "run"
          rw [q_eqS (frL_ok _ _) ok]
          walk_at "run"
          walk_at "if"
          · next e => unfold chk at h; rw [if_pos ⟨f, e⟩] at h; exact h _
          · next e => unfold chk at h; rw [if_neg (fun z => e z.2)] at h; exact h _
        · walk_at "run"
          unfold chk at h; rw [if_neg (fun z => by rw [f] at z; cases z.1)] at h; exact h _
      | false =>
        simp only [Option.bind_some, Bool.false_eq_true, if_false] at h
        walk_at "run"
        rw [r_isfr rfl]
        walk_at "run"
        refine cnd_of (fun f => ?_) (fun f => ?_)
        · walk_at "run"
          rw [r_by (by omega) (by omega)]
          walk_at "run"
          rw [q_eqS (frL_ok _ _) ok]
          walk_at "run"
          walk_at "if"
          · next e => unfold chk at h; rw [if_pos ⟨f, e⟩] at h; exact h _
          · next e => unfold chk at h; rw [if_neg (fun z => e z.2)] at h; exact h _
        · walk_at "run"
          unfold chk at h; rw [if_neg (fun z => by rw [f] at z; cases z.1)] at h; exact h _
theorem numW_lt {w : List Nat} {n : Nat} (h : numW w = some n) (hl : w.length ≤ 70) : n < 10 ^ 70 := by
  unfold numW at h
  split at h
  · next c => cases h; exact Nat.lt_of_lt_of_le (digs_lt w (figs_all.mp c.2.1)) (Nat.pow_le_pow_right (by decide) hl)
  · cases h
theorem in_mid {t u : List Nat} {neg : Bool} (ht : t.length ≤ 70) (hu : u.length ≤ 70) (ok : okT t) (oku : okT u) {N : S → Prop} {TT : RV → S → Prop} {B C : S → Prop} {E : Ex → S → Prop}
    (h : ∀ sl, TT (.fz (frD (fracU t neg u))) ⟨sl, st⟩) :
    wO (partD (.str (SX.S u)) [.str (SX.S [47])]) ⟨[.fz (.str (SX.S t)), .fz (.bl neg), .no, .no, .no, .no, .no, .no], st⟩ (fun r s1 => wG (pTup [pName 2, pName 3, pName 4]) r s1 fun s1 =>
      wS (gSeq (gPar [5, 6] [(gCall f_number_in [(gVar 2)]), (gIf (gBin (lift2 (cmpD .NotEq)) (gVar 3) (gLit (.str ""))) (gCall f_number_in [(gVar 4)]) (gLit (.int 1)))]) fiR s1) N TT B C E) := by
  have nil_ok : okT [] := fun c hc => by cases hc
  have sl_ok : okT [47] := fun c hc => by rw [List.mem_singleton.mp hc]; decide
  unfold fracU at h
  by_cases m : 47 ∈ u
  · obtain ⟨p, q, rfl, np⟩ := split_at m
    have hl : p.length + q.length + 1 ≤ 70 := by simp at hu; omega
    have okp : okT p := okT_sub oku fun c hc => by simp [hc]
    have okq : okT q := okT_sub oku fun c hc => by simp [hc]
    rw [q_partS np (by omega)]
    walk_at "run"
    rw [r_number (by omega) okp]
    walk_at "run"
    rw [q_neS sl_ok nil_ok]
    walk_at "run"
    rw [r_number (by omega) okq]
    walk_at "run"
    rw [show TL.par [47] [] (p ++ 47 :: q) = some (p, q) from SX.par_head q np] at h
    exact in_tail (numW p) (numW q) ht ok (fun n e => numW_lt e (by omega)) (fun n e => numW_lt e (by omega)) h
  · rw [q_partN m (by omega)]
    walk_at "run"
    rw [r_number (by omega) oku]
    walk_at "run"
    rw [q_neS nil_ok nil_ok]
    walk_at "run"
    rw [SX.par_head_none m] at h
    exact in_tail (numW u) (some 1) ht ok (fun n e => numW_lt e (by omega)) (fun n e => by cases e; decide) h
theorem r_fraction_in {t : List Nat} (ht : t.length ≤ 70) (ok : okT t) : wF (f_fraction_in [.str (SX.S t)] st) K E = K (.fz (frD (fracW t))) st := by
  refine wF_det fun K E h => ?_
  unfold f_fraction_in g_fraction_in
  walk_at "start"
  walk_at "run"
  rw [q_toS (by decide) (by omega)]
  walk_at "run"
  rw [q_eqS (okT_sub ok fun c hc => List.mem_of_mem_take hc) (by intro d hd; rw [List.mem_singleton.mp hd]; decide)]
  walk_at "run"
  unfold fracW at h
  walk_at "if"
  · next e =>
    rw [if_pos e] at h
    rw [q_fromS (by decide) (by omega)]
    walk_at "run"
    rw [decide_eq_true e]
    exact in_mid ht (by simp; omega) ok (okT_sub ok fun c hc => List.mem_of_mem_drop hc) (fun sl => h)
  · next e =>
    rw [if_neg e] at h
    rw [decide_eq_false e]
    exact in_mid ht ht ok ok (fun sl => h)
end Lk

set_option Elab.async false
set_option linter.all false
set_option maxRecDepth 100000
set_option maxHeartbeats 4000000
local macro_rules | `(tactic| walk_at "run") => `(tactic| first | simp -dsimp -implicitDefEqProofs only [↓En.cndP, ↓En.cndQ, ↓En.cndN, ↓En.l_non, ↓En.l_bl, ↓En.l_int, ↓En.l_str, ↓En.l_tup, ↓En.l_lst, ↓En.l_dic, ↓En.l_scr, ↓En.l_ty, ↓En.l_exc, ↓En.l_any, ↓En.l_ow, ↓En.l_lnow0, ↓En.v_ow0, ↓En.st_lnow0, ↓En.rt_lnow0, ↓En.l_lnfz0, ↓En.v_fz0, ↓En.st_lnfz0, ↓En.rt_lnfz0, ↓En.so_fz0, ↓En.so_ow0, ↓En.s1_0, ↓En.ch_ow0, ↓En.l_lnow1, ↓En.v_ow1, ↓En.st_lnow1, ↓En.rt_lnow1, ↓En.l_lnfz1, ↓En.v_fz1, ↓En.st_lnfz1, ↓En.rt_lnfz1, ↓En.so_fz1, ↓En.so_ow1, ↓En.s1_1, ↓En.ch_ow1, ↓En.l_lnow2, ↓En.v_ow2, ↓En.st_lnow2, ↓En.rt_lnow2, ↓En.l_lnfz2, ↓En.v_fz2, ↓En.st_lnfz2, ↓En.rt_lnfz2, ↓En.so_fz2, ↓En.so_ow2, ↓En.s1_2, ↓En.ch_ow2, ↓En.l_lnow3, ↓En.v_ow3, ↓En.st_lnow3, ↓En.rt_lnow3, ↓En.l_lnfz3, ↓En.v_fz3, ↓En.st_lnfz3, ↓En.rt_lnfz3, ↓En.so_fz3, ↓En.so_ow3, ↓En.s1_3, ↓En.ch_ow3, ↓En.l_lnow4, ↓En.v_ow4, ↓En.st_lnow4, ↓En.rt_lnow4, ↓En.l_lnfz4, ↓En.v_fz4, ↓En.st_lnfz4, ↓En.rt_lnfz4, ↓En.so_fz4, ↓En.so_ow4, ↓En.s1_4, ↓En.ch_ow4, ↓En.l_lnow5, ↓En.v_ow5, ↓En.st_lnow5, ↓En.rt_lnow5, ↓En.l_lnfz5, ↓En.v_fz5, ↓En.st_lnfz5, ↓En.rt_lnfz5, ↓En.so_fz5, ↓En.so_ow5, ↓En.s1_5, ↓En.ch_ow5, ↓En.l_lnow6, ↓En.v_ow6, ↓En.st_lnow6, ↓En.rt_lnow6, ↓En.l_lnfz6, ↓En.v_fz6, ↓En.st_lnfz6, ↓En.rt_lnfz6, ↓En.so_fz6, ↓En.so_ow6, ↓En.s1_6, ↓En.ch_ow6, ↓En.l_lnow7, ↓En.v_ow7, ↓En.st_lnow7, ↓En.rt_lnow7, ↓En.l_lnfz7, ↓En.v_fz7, ↓En.st_lnfz7, ↓En.rt_lnfz7, ↓En.so_fz7, ↓En.so_ow7, ↓En.s1_7, ↓En.ch_ow7, ↓En.l_lnow8, ↓En.v_ow8, ↓En.st_lnow8, ↓En.rt_lnow8, ↓En.l_lnfz8, ↓En.v_fz8, ↓En.st_lnfz8, ↓En.rt_lnfz8, ↓En.so_fz8, ↓En.so_ow8, ↓En.s1_8, ↓En.ch_ow8, ↓En.l_lnow9, ↓En.v_ow9, ↓En.st_lnow9, ↓En.rt_lnow9, ↓En.l_lnfz9, ↓En.v_fz9, ↓En.st_lnfz9, ↓En.rt_lnfz9, ↓En.so_fz9, ↓En.so_ow9, ↓En.s1_9, ↓En.ch_ow9, ↓En.l_lnow10, ↓En.v_ow10, ↓En.st_lnow10, ↓En.rt_lnow10, ↓En.l_lnfz10, ↓En.v_fz10, ↓En.st_lnfz10, ↓En.rt_lnfz10, ↓En.so_fz10, ↓En.so_ow10, ↓En.s1_10, ↓En.ch_ow10, ↓En.l_lnow11, ↓En.v_ow11, ↓En.st_lnow11, ↓En.rt_lnow11, ↓En.l_lnfz11, ↓En.v_fz11, ↓En.st_lnfz11, ↓En.rt_lnfz11, ↓En.so_fz11, ↓En.so_ow11, ↓En.s1_11, ↓En.ch_ow11, ↓En.l_lnow12, ↓En.v_ow12, ↓En.st_lnow12, ↓En.rt_lnow12, ↓En.l_lnfz12, ↓En.v_fz12, ↓En.st_lnfz12, ↓En.rt_lnfz12, ↓En.so_fz12, ↓En.so_ow12, ↓En.s1_12, ↓En.ch_ow12, ↓En.l_lnow13, ↓En.v_ow13, ↓En.st_lnow13, ↓En.rt_lnow13, ↓En.l_lnfz13, ↓En.v_fz13, ↓En.st_lnfz13, ↓En.rt_lnfz13, ↓En.so_fz13, ↓En.so_ow13, ↓En.s1_13, ↓En.ch_ow13, ↓En.l_lnow14, ↓En.v_ow14, ↓En.st_lnow14, ↓En.rt_lnow14, ↓En.l_lnfz14, ↓En.v_fz14, ↓En.st_lnfz14, ↓En.rt_lnfz14, ↓En.so_fz14, ↓En.so_ow14, ↓En.s1_14, ↓En.ch_ow14, ↓En.l_lnow15, ↓En.v_ow15, ↓En.st_lnow15, ↓En.rt_lnow15, ↓En.l_lnfz15, ↓En.v_fz15, ↓En.st_lnfz15, ↓En.rt_lnfz15, ↓En.so_fz15, ↓En.so_ow15, ↓En.s1_15, ↓En.ch_ow15, ↓En.l_lnow16, ↓En.v_ow16, ↓En.st_lnow16, ↓En.rt_lnow16, ↓En.l_lnfz16, ↓En.v_fz16, ↓En.st_lnfz16, ↓En.rt_lnfz16, ↓En.so_fz16, ↓En.so_ow16, ↓En.s1_16, ↓En.ch_ow16, ↓En.l_lnow17, ↓En.v_ow17, ↓En.st_lnow17, ↓En.rt_lnow17, ↓En.l_lnfz17, ↓En.v_fz17, ↓En.st_lnfz17, ↓En.rt_lnfz17, ↓En.so_fz17, ↓En.so_ow17, ↓En.s1_17, ↓En.ch_ow17, ↓En.l_lnow18, ↓En.v_ow18, ↓En.st_lnow18, ↓En.rt_lnow18, ↓En.l_lnfz18, ↓En.v_fz18, ↓En.st_lnfz18, ↓En.rt_lnfz18, ↓En.so_fz18, ↓En.so_ow18, ↓En.s1_18, ↓En.ch_ow18, ↓En.l_lnow19, ↓En.v_ow19, ↓En.st_lnow19, ↓En.rt_lnow19, ↓En.l_lnfz19, ↓En.v_fz19, ↓En.st_lnfz19, ↓En.rt_lnfz19, ↓En.so_fz19, ↓En.so_ow19, ↓En.s1_19, ↓En.ch_ow19, ↓En.l_lnow20, ↓En.v_ow20, ↓En.st_lnow20, ↓En.rt_lnow20, ↓En.l_lnfz20, ↓En.v_fz20, ↓En.st_lnfz20, ↓En.rt_lnfz20, ↓En.so_fz20, ↓En.so_ow20, ↓En.s1_20, ↓En.ch_ow20, ↓En.l_lnow21, ↓En.v_ow21, ↓En.st_lnow21, ↓En.rt_lnow21, ↓En.l_lnfz21, ↓En.v_fz21, ↓En.st_lnfz21, ↓En.rt_lnfz21, ↓En.so_fz21, ↓En.so_ow21, ↓En.s1_21, ↓En.ch_ow21, ↓En.so_ln, ↓En.wop_some, ↓En.st_fz, ↓En.rt_fz, ↓En.rt_ow, ↓En.k_fz, ↓En.k_ow, ↓En.k_ln, ↓En.ls0, ↓En.ls1, ↓En.sa0, ↓En.sa1, ↓En.g_lit, ↓En.g_bin, ↓En.lift2_eq, ↓En.lift1_eq, ↓En.g_un, ↓En.g_not, ↓En.g_and, ↓En.g_or, ↓En.g_if, ↓En.g_toT, ↓En.wt_or, ↓En.wt_and, ↓En.wt_not, ↓En.wt_bin, ↓En.wt_un, ↓En.wt_cb, ↓En.wt_var, ↓En.wt_call, ↓En.wt_lit, ↓En.wt_meth, ↓En.wt_chain, ↓En.wt_comp, ↓En.wt_if, ↓En.g_args0, ↓En.g_args1, ↓En.g_with, ↓En.ca, ↓En.g_call, ↓En.tup_ok, ↓En.lst_ok, ↓En.g_cb, ↓En.g_meth, ↓En.is_str, ↓En.is_lst, ↓En.isl, ↓En.part0, ↓En.part1, ↓En.wint, ↓En.g_slice, ↓En.g_d01, ↓En.g_rev, ↓En.g_dic0, ↓En.g_fmt, ↓En.js0, ↓En.js_e, ↓En.js_S, ↓En.wstr, ↓En.g_chain, ↓En.chn, ↓En.g_app, ↓En.g_ext, ↓En.wlst, ↓En.g_pop, ↓En.g_pro, ↓En.pro, ↓En.to_, ↓En.fz0, ↓En.fzF, ↓En.fzO, ↓En.fzN, ↓En.g_said, ↓En.t_name, ↓En.ta0, ↓En.taF, ↓En.taO, ↓En.gs0, ↓En.gs1, ↓En.t_tup, ↓En.wtup, ↓En.t_sub, ↓En.s_seq, ↓En.s_next, ↓En.s_cont, ↓En.s_drop, ↓En.s_ret, ↓En.s_retn, ↓En.s_if, ↓En.s_set, ↓En.s_asg, ↓En.s_par, ↓En.s_parg, ↓En.set0, ↓En.set1, ↓En.held0, ↓En.held1, ↓En.ho_fz, ↓En.ho_ow, ↓En.ho_ln, ↓En.s_raise, ↓En.s_raiset, ↓En.s_for, ↓En.i_seq, ↓En.it_lst, ↓En.it_tup, ↓En.it_str, ↓En.wrg, ↓En.i_rng1, ↓En.i_rng2, ↓En.cm, ↓En.g_comp, ↓En.t_yes, ↓En.fo_fz, ↓En.fo_ow, ↓En.s_loop, ↓En.q_add, ↓En.q_sub, ↓En.q_div, ↓En.q_mod, ↓En.q_pow, ↓En.q_lt, ↓En.q_le, ↓En.q_gt, ↓En.q_ge, ↓En.q_eqi, ↓En.q_nei, ↓En.q_is_non, ↓En.q_isn_non, ↓En.q_is_bl, ↓En.q_isn_bl, ↓En.q_is_int, ↓En.q_isn_int, ↓En.q_is_str, ↓En.q_isn_str, ↓En.q_is_tup, ↓En.q_isn_tup, ↓En.q_is_lst, ↓En.q_isn_lst, ↓En.q_is_dic, ↓En.q_isn_dic, ↓En.q_is_obj, ↓En.q_isn_obj, ↓En.q_eqb, ↓En.q_neb, ↓En.q_not, ↓En.q_neg, ↓En.q_abs, ↓En.q_max, ↓En.q_min, ↓En.q_lenl, ↓En.q_lent, ↓En.q_lenc, ↓En.q_listl, ↓En.q_listt, ↓En.q_tupl, ↓En.q_tupt, ↓En.q_revl, ↓En.q_revt, ↓En.q_sll, ↓En.q_slt, ↓En.q_int, ↓En.q_intb, ↓En.q_strs, ↓En.q_atl0, ↓En.q_att0, ↓En.q_atl1, ↓En.q_att1, ↓En.q_atl2, ↓En.q_att2, ↓En.q_atl3, ↓En.q_att3, ↓En.q_atl4, ↓En.q_att4, ↓En.q_atl5, ↓En.q_att5, ↓En.q_atl6, ↓En.q_att6, ↓En.q_atl7, ↓En.q_att7, ↓En.tr_bl, ↓En.tr_int, ↓En.tr_non, ↓En.tr_tup, ↓En.tr_lst, ↓En.no0, ↓En.no1, ↓En.wp0, ↓En.wp1, ↓En.bk0, ↓En.bk1, ↓En.no_no0, ↓En.no_fz0, ↓En.gt0, ↓En.no_no1, ↓En.no_fz1, ↓En.gt1, ↓En.no_no2, ↓En.no_fz2, ↓En.gt2, ↓En.no_no3, ↓En.no_fz3, ↓En.gt3, ↓En.no_no4, ↓En.no_fz4, ↓En.gt4, ↓En.no_no5, ↓En.no_fz5, ↓En.gt5, ↓En.no_no6, ↓En.no_fz6, ↓En.gt6, ↓En.no_no7, ↓En.no_fz7, ↓En.gt7, ↓En.no_no8, ↓En.no_fz8, ↓En.gt8, ↓En.no_no9, ↓En.no_fz9, ↓En.gt9, ↓En.no_no10, ↓En.no_fz10, ↓En.gt10, ↓En.no_no11, ↓En.no_fz11, ↓En.gt11, ↓En.no_no12, ↓En.no_fz12, ↓En.gt12, ↓En.no_no13, ↓En.no_fz13, ↓En.gt13, ↓En.no_no14, ↓En.no_fz14, ↓En.gt14, ↓En.no_no15, ↓En.no_fz15, ↓En.gt15, ↓En.no_no16, ↓En.no_fz16, ↓En.gt16, ↓En.no_no17, ↓En.no_fz17, ↓En.gt17, ↓En.no_no18, ↓En.no_fz18, ↓En.gt18, ↓En.no_no19, ↓En.no_fz19, ↓En.gt19, ↓En.no_no20, ↓En.no_fz20, ↓En.gt20, ↓En.no_no21, ↓En.no_fz21, ↓En.gt21, ↓En.wCp0, ↓En.c_step, ↓En.c_one, ↓En.ap_no, ↓En.ap0, ↓En.ap1, ↓En.ap2, ↓En.ap3, ↓En.ap4, ↓En.ap5, ↓En.ap6, ↓En.ap7, ↓En.ap8, ↓En.ap9, ↓En.q_all, ↓En.q_any, ↓En.bls0, ↓En.bls1, ↓En.isi_non_bool, ↓En.isi_non_int, ↓En.isi_non_str, ↓En.isi_non_tuple, ↓En.isi_non_list, ↓En.isi_non_dict, ↓En.isi_bl_bool, ↓En.isi_bl_int, ↓En.isi_bl_str, ↓En.isi_bl_tuple, ↓En.isi_bl_list, ↓En.isi_bl_dict, ↓En.isi_int_bool, ↓En.isi_int_int, ↓En.isi_int_str, ↓En.isi_int_tuple, ↓En.isi_int_list, ↓En.isi_int_dict, ↓En.isi_str_bool, ↓En.isi_str_int, ↓En.isi_str_str, ↓En.isi_str_tuple, ↓En.isi_str_list, ↓En.isi_str_dict, ↓En.isi_tup_bool, ↓En.isi_tup_int, ↓En.isi_tup_str, ↓En.isi_tup_tuple, ↓En.isi_tup_list, ↓En.isi_tup_dict, ↓En.isi_lst_bool, ↓En.isi_lst_int, ↓En.isi_lst_str, ↓En.isi_lst_tuple, ↓En.isi_lst_list, ↓En.isi_lst_dict, ↓En.isi_dic_bool, ↓En.isi_dic_int, ↓En.isi_dic_str, ↓En.isi_dic_tuple, ↓En.isi_dic_list, ↓En.isi_dic_dict, ↓En.isi_scr_bool, ↓En.isi_scr_int, ↓En.isi_scr_str, ↓En.isi_scr_tuple, ↓En.isi_scr_list, ↓En.isi_scr_dict, reduceCtorEq, List.cons.injEq, Nat.reduceEqDiff, and_true, true_and, and_false, false_and, Int.cast_ofNat_Int, List.length_cons, List.length_nil, Nat.reduceAdd, Nat.reduceLeDiff, Nat.zero_add, Nat.reduceLT, Int.reduceLT, Int.reduceLE, Int.reducePow, Int.reduceToNat, Int.reduceNeg, Int.reduceAdd, Int.reduceSub, Int.reduceMul, Nat.reducePow, Int.reduceEq, Int.reduceBNe, decide_true, decide_false, Bool.not_true, Bool.not_false, beq_self_eq_true, Bool.true_beq, Bool.false_beq, En.cndP, En.cndQ, En.cndN, gt_iff_lt, if_true, if_false, ↓Lk.r_isfr, ↓Lk.r_common] | skip)
local macro_rules | `(tactic| walk_at "start") => `(tactic| (rw [En.wF_run]; simp only [List.map_cons, List.map_nil, List.cons_append, List.nil_append, List.length_cons, List.length_nil, Nat.reduceAdd, Nat.reduceSub, List.replicate_succ, List.replicate_zero]))
local macro_rules | `(tactic| walk_at "if") => `(tactic| (refine En.cnd_if (fun _ => ?_) (fun _ => ?_) <;> walk_at "run"))
namespace Lk
open PySem PySem.Spec PyProof.Rows L2 Fw Wk En Tx Rp
variable {st : List Cell} {s : S} {K : RV → List Cell → Prop} {E : Ex → List Cell → Prop} {p : List Cell} {q : Dw}
theorem frL_fr {a b : Int} (h : isFr (.tup [.int a, .int b]) = true) : 0 < b ∧ Int.gcd a b = 1 := by
  have h : (decide (0 < b) && decide (Int.gcd a b = 1)) = true := h
  rw [Bool.and_eq_true] at h
  exact ⟨of_decide_eq_true h.1, of_decide_eq_true h.2⟩
theorem numL_take {n : Nat} : (TL.numL n).take 1 ≠ [45] := fun h => by
  have : 45 ∈ TL.numL n := List.mem_of_mem_take (h ▸ List.mem_singleton.mpr rfl : 45 ∈ (TL.numL n).take 1)
  exact TL.numL_free (by omega) this
theorem numL_app {n : Nat} {r : List Nat} : (TL.numL n ++ r).take 1 ≠ [45] := fun h => by
  rw [List.take_append_of_le_length (List.length_pos_iff.mpr (TL.numL_ne n))] at h
  exact numL_take h
theorem n47 (n : Nat) : 47 ∉ TL.numL n := TL.numL_free (by omega)
/-- a fraction's text writes it -/
theorem fracW_back {a b : Int} (h : isFr (.tup [.int a, .int b]) = true) : fracW (frL a b) = some (a, b) := by
  obtain ⟨hb, _⟩ := frL_fr h
  have c : ∀ t, frL a b = t → chk t a b = some (a, b) := fun t e => if_pos ⟨h, e⟩
  obtain ⟨m, rfl⟩ : ∃ m : Nat, b = (m : Int) := ⟨b.toNat, by omega⟩
  by_cases e1 : m = 1
  · subst e1
    have ef : frL a (1 : Nat) = itx a := if_pos rfl
    by_cases s : a < 0
    · obtain ⟨n, rfl⟩ : ∃ n : Nat, a = -(n : Int) := ⟨a.natAbs, by omega⟩
      rw [itx_neg (by omega)] at ef
      rw [ef]
      unfold fracW
      rw [if_pos (show List.take 1 (45 :: TL.numL n) = [45] from rfl)]
      unfold fracU
      rw [List.drop_succ_cons, List.drop_zero, SX.par_head_none (n47 n)]
      dsimp only
      rw [numW_num]
      simp only [Option.bind_some, if_true]
      rw [show (0 : Int) - (n : Int) = -(n : Int) by omega]
      exact c _ ef
    · obtain ⟨n, rfl⟩ : ∃ n : Nat, a = (n : Int) := ⟨a.natAbs, by omega⟩
      rw [itx_pos] at ef
      rw [ef]
      unfold fracW
      rw [if_neg numL_take]
      unfold fracU
      rw [SX.par_head_none (n47 n)]
      dsimp only
      rw [numW_num]
      simp only [Option.bind_some]
      exact c _ ef
  · have ef : frL a (m : Int) = itx a ++ 47 :: itx m := if_neg (by omega)
    by_cases s : a < 0
    · obtain ⟨n, rfl⟩ : ∃ n : Nat, a = -(n : Int) := ⟨a.natAbs, by omega⟩
      rw [itx_neg (by omega), itx_pos, List.cons_append] at ef
      rw [ef]
      unfold fracW
      rw [if_pos (show List.take 1 (45 :: (TL.numL n ++ 47 :: TL.numL m)) = [45] from rfl)]
      unfold fracU
      rw [List.drop_succ_cons, List.drop_zero, show TL.par [47] [] (TL.numL n ++ 47 :: TL.numL m) = _ from SX.par_head (TL.numL m) (n47 n)]
      dsimp only
      rw [numW_num, numW_num]
      simp only [Option.bind_some, if_true]
      rw [show (0 : Int) - (n : Int) = -(n : Int) by omega]
      exact c _ ef
    · obtain ⟨n, rfl⟩ : ∃ n : Nat, a = (n : Int) := ⟨a.natAbs, by omega⟩
      rw [itx_pos, itx_pos] at ef
      rw [ef]
      unfold fracW
      rw [if_neg numL_app]
      unfold fracU
      rw [show TL.par [47] [] (TL.numL n ++ 47 :: TL.numL m) = _ from SX.par_head (TL.numL m) (n47 n)]
      dsimp only
      rw [numW_num, numW_num]
      simp only [Option.bind_some]
      exact c _ ef
theorem r_read {t : List Nat} {a b : Int} (ht : t.length ≤ 70) (ok : okT t) (e : fracW t = some (a, b)) : wF (f_read_fraction [.str (SX.S t)] st) K E = K (.fz (.tup [.int a, .int b])) st := by
  refine wF_det fun K E h => ?_
  unfold f_read_fraction g_read_fraction
  walk_at "start"
  walk_at "run"
  rw [r_fraction_in ht ok, e]
  walk_at "run"
  dsimp only [frD]
  walk_at "run"
  exact h
theorem r_readN {t : List Nat} (ht : t.length ≤ 70) (ok : okT t) (e : fracW t = none) : wF (f_read_fraction [.str (SX.S t)] st) K E = E ⟨"NoText", [("line", .int 0)]⟩ st := by
  refine wF_exc fun K E h => ?_
  unfold f_read_fraction g_read_fraction
  walk_at "start"
  walk_at "run"
  rw [r_fraction_in ht ok, e]
  walk_at "run"
  dsimp only [frD]
  walk_at "run"
  exact h
theorem e_lcommon : f__law_common = f_common := rfl
theorem e_lisfr : f__law_is_fraction = f_is_fraction := rfl
theorem r_ltext {a b : Int} (ha : a.natAbs < 2 ^ 250) (hb : b.natAbs < 2 ^ 250) : wF (f__law_fraction_text [.tup [.int a, .int b]] st) K E = K (.fz (.str (SX.S (frL a b)))) st := by
  refine wF_det fun K E h => ?_
  unfold f__law_fraction_text g__law_fraction_text
  walk_at "start"
  walk_at "run"
  rw [q_str ha]
  unfold frL at h
  have := small_len ha
  have := small_len hb
  walk_at "run"
  walk_at "if"
  · next e => rw [if_pos e] at h; rw [lit_, q_catS (by simp; omega)]; walk_at "run"; rw [List.append_nil]; exact h
  · next e =>
    rw [if_neg e] at h
    rw [q_str hb]
    walk_at "run"
    rw [lit__47_, q_catS (by simp; omega)]
    walk_at "run"
    rw [q_catS (by simp; omega)]
    walk_at "run"
    exact h
theorem r_lowest {a b : Int} (hb : 0 < b) (hb2 : b < 2 ^ 190) : wF (f__law_lowest [.int a, .int b] st) K E = K (.fz (.tup [.int (a / (Int.gcd a b : Int)), .int (b / (Int.gcd a b : Int))])) st := by
  refine wF_det fun K E h => ?_
  have g0 : 0 < Int.gcd a b := Int.gcd_pos_of_ne_zero_right _ (by omega)
  have g1 : (Int.gcd a b : Int) ≤ b := Int.le_of_dvd hb (Int.gcd_dvd_right ..)
  unfold f__law_lowest g__law_lowest
  walk_at "start"
  walk_at "run"
  rw [e_lcommon]
  walk_at "run"
  rw [q_div (by omega) (by omega)]
  walk_at "run"
  rw [q_div (by omega) (by omega)]
  walk_at "run"
  exact h
theorem lowest_fr {a b : Int} (hb : 0 < b) : isFr (.tup [.int (a / (Int.gcd a b : Int)), .int (b / (Int.gcd a b : Int))]) = true := by
  have g0 : 0 < Int.gcd a b := Int.gcd_pos_of_ne_zero_right _ (by omega)
  show (decide _ && decide _) = true
  rw [Bool.and_eq_true, decide_eq_true_eq, decide_eq_true_eq]
  exact ⟨Int.ediv_pos_of_pos_of_dvd hb (by omega) (Int.gcd_dvd_right ..), Int.gcd_ediv_gcd_ediv_gcd g0⟩
end Lk

set_option Elab.async false
set_option linter.all false
set_option maxRecDepth 100000
set_option maxHeartbeats 4000000
local macro_rules | `(tactic| walk_at "run") => `(tactic| first | simp -dsimp -implicitDefEqProofs only [↓En.cndP, ↓En.cndQ, ↓En.cndN, ↓En.l_non, ↓En.l_bl, ↓En.l_int, ↓En.l_str, ↓En.l_tup, ↓En.l_lst, ↓En.l_dic, ↓En.l_scr, ↓En.l_ty, ↓En.l_exc, ↓En.l_any, ↓En.l_ow, ↓En.l_lnow0, ↓En.v_ow0, ↓En.st_lnow0, ↓En.rt_lnow0, ↓En.l_lnfz0, ↓En.v_fz0, ↓En.st_lnfz0, ↓En.rt_lnfz0, ↓En.so_fz0, ↓En.so_ow0, ↓En.s1_0, ↓En.ch_ow0, ↓En.l_lnow1, ↓En.v_ow1, ↓En.st_lnow1, ↓En.rt_lnow1, ↓En.l_lnfz1, ↓En.v_fz1, ↓En.st_lnfz1, ↓En.rt_lnfz1, ↓En.so_fz1, ↓En.so_ow1, ↓En.s1_1, ↓En.ch_ow1, ↓En.l_lnow2, ↓En.v_ow2, ↓En.st_lnow2, ↓En.rt_lnow2, ↓En.l_lnfz2, ↓En.v_fz2, ↓En.st_lnfz2, ↓En.rt_lnfz2, ↓En.so_fz2, ↓En.so_ow2, ↓En.s1_2, ↓En.ch_ow2, ↓En.l_lnow3, ↓En.v_ow3, ↓En.st_lnow3, ↓En.rt_lnow3, ↓En.l_lnfz3, ↓En.v_fz3, ↓En.st_lnfz3, ↓En.rt_lnfz3, ↓En.so_fz3, ↓En.so_ow3, ↓En.s1_3, ↓En.ch_ow3, ↓En.l_lnow4, ↓En.v_ow4, ↓En.st_lnow4, ↓En.rt_lnow4, ↓En.l_lnfz4, ↓En.v_fz4, ↓En.st_lnfz4, ↓En.rt_lnfz4, ↓En.so_fz4, ↓En.so_ow4, ↓En.s1_4, ↓En.ch_ow4, ↓En.l_lnow5, ↓En.v_ow5, ↓En.st_lnow5, ↓En.rt_lnow5, ↓En.l_lnfz5, ↓En.v_fz5, ↓En.st_lnfz5, ↓En.rt_lnfz5, ↓En.so_fz5, ↓En.so_ow5, ↓En.s1_5, ↓En.ch_ow5, ↓En.l_lnow6, ↓En.v_ow6, ↓En.st_lnow6, ↓En.rt_lnow6, ↓En.l_lnfz6, ↓En.v_fz6, ↓En.st_lnfz6, ↓En.rt_lnfz6, ↓En.so_fz6, ↓En.so_ow6, ↓En.s1_6, ↓En.ch_ow6, ↓En.l_lnow7, ↓En.v_ow7, ↓En.st_lnow7, ↓En.rt_lnow7, ↓En.l_lnfz7, ↓En.v_fz7, ↓En.st_lnfz7, ↓En.rt_lnfz7, ↓En.so_fz7, ↓En.so_ow7, ↓En.s1_7, ↓En.ch_ow7, ↓En.l_lnow8, ↓En.v_ow8, ↓En.st_lnow8, ↓En.rt_lnow8, ↓En.l_lnfz8, ↓En.v_fz8, ↓En.st_lnfz8, ↓En.rt_lnfz8, ↓En.so_fz8, ↓En.so_ow8, ↓En.s1_8, ↓En.ch_ow8, ↓En.l_lnow9, ↓En.v_ow9, ↓En.st_lnow9, ↓En.rt_lnow9, ↓En.l_lnfz9, ↓En.v_fz9, ↓En.st_lnfz9, ↓En.rt_lnfz9, ↓En.so_fz9, ↓En.so_ow9, ↓En.s1_9, ↓En.ch_ow9, ↓En.l_lnow10, ↓En.v_ow10, ↓En.st_lnow10, ↓En.rt_lnow10, ↓En.l_lnfz10, ↓En.v_fz10, ↓En.st_lnfz10, ↓En.rt_lnfz10, ↓En.so_fz10, ↓En.so_ow10, ↓En.s1_10, ↓En.ch_ow10, ↓En.l_lnow11, ↓En.v_ow11, ↓En.st_lnow11, ↓En.rt_lnow11, ↓En.l_lnfz11, ↓En.v_fz11, ↓En.st_lnfz11, ↓En.rt_lnfz11, ↓En.so_fz11, ↓En.so_ow11, ↓En.s1_11, ↓En.ch_ow11, ↓En.l_lnow12, ↓En.v_ow12, ↓En.st_lnow12, ↓En.rt_lnow12, ↓En.l_lnfz12, ↓En.v_fz12, ↓En.st_lnfz12, ↓En.rt_lnfz12, ↓En.so_fz12, ↓En.so_ow12, ↓En.s1_12, ↓En.ch_ow12, ↓En.l_lnow13, ↓En.v_ow13, ↓En.st_lnow13, ↓En.rt_lnow13, ↓En.l_lnfz13, ↓En.v_fz13, ↓En.st_lnfz13, ↓En.rt_lnfz13, ↓En.so_fz13, ↓En.so_ow13, ↓En.s1_13, ↓En.ch_ow13, ↓En.l_lnow14, ↓En.v_ow14, ↓En.st_lnow14, ↓En.rt_lnow14, ↓En.l_lnfz14, ↓En.v_fz14, ↓En.st_lnfz14, ↓En.rt_lnfz14, ↓En.so_fz14, ↓En.so_ow14, ↓En.s1_14, ↓En.ch_ow14, ↓En.l_lnow15, ↓En.v_ow15, ↓En.st_lnow15, ↓En.rt_lnow15, ↓En.l_lnfz15, ↓En.v_fz15, ↓En.st_lnfz15, ↓En.rt_lnfz15, ↓En.so_fz15, ↓En.so_ow15, ↓En.s1_15, ↓En.ch_ow15, ↓En.l_lnow16, ↓En.v_ow16, ↓En.st_lnow16, ↓En.rt_lnow16, ↓En.l_lnfz16, ↓En.v_fz16, ↓En.st_lnfz16, ↓En.rt_lnfz16, ↓En.so_fz16, ↓En.so_ow16, ↓En.s1_16, ↓En.ch_ow16, ↓En.l_lnow17, ↓En.v_ow17, ↓En.st_lnow17, ↓En.rt_lnow17, ↓En.l_lnfz17, ↓En.v_fz17, ↓En.st_lnfz17, ↓En.rt_lnfz17, ↓En.so_fz17, ↓En.so_ow17, ↓En.s1_17, ↓En.ch_ow17, ↓En.l_lnow18, ↓En.v_ow18, ↓En.st_lnow18, ↓En.rt_lnow18, ↓En.l_lnfz18, ↓En.v_fz18, ↓En.st_lnfz18, ↓En.rt_lnfz18, ↓En.so_fz18, ↓En.so_ow18, ↓En.s1_18, ↓En.ch_ow18, ↓En.l_lnow19, ↓En.v_ow19, ↓En.st_lnow19, ↓En.rt_lnow19, ↓En.l_lnfz19, ↓En.v_fz19, ↓En.st_lnfz19, ↓En.rt_lnfz19, ↓En.so_fz19, ↓En.so_ow19, ↓En.s1_19, ↓En.ch_ow19, ↓En.l_lnow20, ↓En.v_ow20, ↓En.st_lnow20, ↓En.rt_lnow20, ↓En.l_lnfz20, ↓En.v_fz20, ↓En.st_lnfz20, ↓En.rt_lnfz20, ↓En.so_fz20, ↓En.so_ow20, ↓En.s1_20, ↓En.ch_ow20, ↓En.l_lnow21, ↓En.v_ow21, ↓En.st_lnow21, ↓En.rt_lnow21, ↓En.l_lnfz21, ↓En.v_fz21, ↓En.st_lnfz21, ↓En.rt_lnfz21, ↓En.so_fz21, ↓En.so_ow21, ↓En.s1_21, ↓En.ch_ow21, ↓En.so_ln, ↓En.wop_some, ↓En.st_fz, ↓En.rt_fz, ↓En.rt_ow, ↓En.k_fz, ↓En.k_ow, ↓En.k_ln, ↓En.ls0, ↓En.ls1, ↓En.sa0, ↓En.sa1, ↓En.g_lit, ↓En.g_bin, ↓En.lift2_eq, ↓En.lift1_eq, ↓En.g_un, ↓En.g_not, ↓En.g_and, ↓En.g_or, ↓En.g_if, ↓En.g_toT, ↓En.wt_or, ↓En.wt_and, ↓En.wt_not, ↓En.wt_bin, ↓En.wt_un, ↓En.wt_cb, ↓En.wt_var, ↓En.wt_call, ↓En.wt_lit, ↓En.wt_meth, ↓En.wt_chain, ↓En.wt_comp, ↓En.wt_if, ↓En.g_args0, ↓En.g_args1, ↓En.g_with, ↓En.ca, ↓En.g_call, ↓En.tup_ok, ↓En.lst_ok, ↓En.g_cb, ↓En.g_meth, ↓En.is_str, ↓En.is_lst, ↓En.isl, ↓En.part0, ↓En.part1, ↓En.wint, ↓En.g_slice, ↓En.g_d01, ↓En.g_rev, ↓En.g_dic0, ↓En.g_fmt, ↓En.js0, ↓En.js_e, ↓En.js_S, ↓En.wstr, ↓En.g_chain, ↓En.chn, ↓En.g_app, ↓En.g_ext, ↓En.wlst, ↓En.g_pop, ↓En.g_pro, ↓En.pro, ↓En.to_, ↓En.fz0, ↓En.fzF, ↓En.fzO, ↓En.fzN, ↓En.g_said, ↓En.t_name, ↓En.ta0, ↓En.taF, ↓En.taO, ↓En.gs0, ↓En.gs1, ↓En.t_tup, ↓En.wtup, ↓En.t_sub, ↓En.s_seq, ↓En.s_next, ↓En.s_cont, ↓En.s_drop, ↓En.s_ret, ↓En.s_retn, ↓En.s_if, ↓En.s_set, ↓En.s_asg, ↓En.s_par, ↓En.s_parg, ↓En.set0, ↓En.set1, ↓En.held0, ↓En.held1, ↓En.ho_fz, ↓En.ho_ow, ↓En.ho_ln, ↓En.s_raise, ↓En.s_raiset, ↓En.s_for, ↓En.i_seq, ↓En.it_lst, ↓En.it_tup, ↓En.it_str, ↓En.wrg, ↓En.i_rng1, ↓En.i_rng2, ↓En.cm, ↓En.g_comp, ↓En.t_yes, ↓En.fo_fz, ↓En.fo_ow, ↓En.s_loop, ↓En.q_add, ↓En.q_sub, ↓En.q_div, ↓En.q_mod, ↓En.q_pow, ↓En.q_lt, ↓En.q_le, ↓En.q_gt, ↓En.q_ge, ↓En.q_eqi, ↓En.q_nei, ↓En.q_is_non, ↓En.q_isn_non, ↓En.q_is_bl, ↓En.q_isn_bl, ↓En.q_is_int, ↓En.q_isn_int, ↓En.q_is_str, ↓En.q_isn_str, ↓En.q_is_tup, ↓En.q_isn_tup, ↓En.q_is_lst, ↓En.q_isn_lst, ↓En.q_is_dic, ↓En.q_isn_dic, ↓En.q_is_obj, ↓En.q_isn_obj, ↓En.q_eqb, ↓En.q_neb, ↓En.q_not, ↓En.q_neg, ↓En.q_abs, ↓En.q_max, ↓En.q_min, ↓En.q_lenl, ↓En.q_lent, ↓En.q_lenc, ↓En.q_listl, ↓En.q_listt, ↓En.q_tupl, ↓En.q_tupt, ↓En.q_revl, ↓En.q_revt, ↓En.q_sll, ↓En.q_slt, ↓En.q_int, ↓En.q_intb, ↓En.q_strs, ↓En.q_atl0, ↓En.q_att0, ↓En.q_atl1, ↓En.q_att1, ↓En.q_atl2, ↓En.q_att2, ↓En.q_atl3, ↓En.q_att3, ↓En.q_atl4, ↓En.q_att4, ↓En.q_atl5, ↓En.q_att5, ↓En.q_atl6, ↓En.q_att6, ↓En.q_atl7, ↓En.q_att7, ↓En.tr_bl, ↓En.tr_int, ↓En.tr_non, ↓En.tr_tup, ↓En.tr_lst, ↓En.no0, ↓En.no1, ↓En.wp0, ↓En.wp1, ↓En.bk0, ↓En.bk1, ↓En.no_no0, ↓En.no_fz0, ↓En.gt0, ↓En.no_no1, ↓En.no_fz1, ↓En.gt1, ↓En.no_no2, ↓En.no_fz2, ↓En.gt2, ↓En.no_no3, ↓En.no_fz3, ↓En.gt3, ↓En.no_no4, ↓En.no_fz4, ↓En.gt4, ↓En.no_no5, ↓En.no_fz5, ↓En.gt5, ↓En.no_no6, ↓En.no_fz6, ↓En.gt6, ↓En.no_no7, ↓En.no_fz7, ↓En.gt7, ↓En.no_no8, ↓En.no_fz8, ↓En.gt8, ↓En.no_no9, ↓En.no_fz9, ↓En.gt9, ↓En.no_no10, ↓En.no_fz10, ↓En.gt10, ↓En.no_no11, ↓En.no_fz11, ↓En.gt11, ↓En.no_no12, ↓En.no_fz12, ↓En.gt12, ↓En.no_no13, ↓En.no_fz13, ↓En.gt13, ↓En.no_no14, ↓En.no_fz14, ↓En.gt14, ↓En.no_no15, ↓En.no_fz15, ↓En.gt15, ↓En.no_no16, ↓En.no_fz16, ↓En.gt16, ↓En.no_no17, ↓En.no_fz17, ↓En.gt17, ↓En.no_no18, ↓En.no_fz18, ↓En.gt18, ↓En.no_no19, ↓En.no_fz19, ↓En.gt19, ↓En.no_no20, ↓En.no_fz20, ↓En.gt20, ↓En.no_no21, ↓En.no_fz21, ↓En.gt21, ↓En.wCp0, ↓En.c_step, ↓En.c_one, ↓En.ap_no, ↓En.ap0, ↓En.ap1, ↓En.ap2, ↓En.ap3, ↓En.ap4, ↓En.ap5, ↓En.ap6, ↓En.ap7, ↓En.ap8, ↓En.ap9, ↓En.q_all, ↓En.q_any, ↓En.bls0, ↓En.bls1, ↓En.isi_non_bool, ↓En.isi_non_int, ↓En.isi_non_str, ↓En.isi_non_tuple, ↓En.isi_non_list, ↓En.isi_non_dict, ↓En.isi_bl_bool, ↓En.isi_bl_int, ↓En.isi_bl_str, ↓En.isi_bl_tuple, ↓En.isi_bl_list, ↓En.isi_bl_dict, ↓En.isi_int_bool, ↓En.isi_int_int, ↓En.isi_int_str, ↓En.isi_int_tuple, ↓En.isi_int_list, ↓En.isi_int_dict, ↓En.isi_str_bool, ↓En.isi_str_int, ↓En.isi_str_str, ↓En.isi_str_tuple, ↓En.isi_str_list, ↓En.isi_str_dict, ↓En.isi_tup_bool, ↓En.isi_tup_int, ↓En.isi_tup_str, ↓En.isi_tup_tuple, ↓En.isi_tup_list, ↓En.isi_tup_dict, ↓En.isi_lst_bool, ↓En.isi_lst_int, ↓En.isi_lst_str, ↓En.isi_lst_tuple, ↓En.isi_lst_list, ↓En.isi_lst_dict, ↓En.isi_dic_bool, ↓En.isi_dic_int, ↓En.isi_dic_str, ↓En.isi_dic_tuple, ↓En.isi_dic_list, ↓En.isi_dic_dict, ↓En.isi_scr_bool, ↓En.isi_scr_int, ↓En.isi_scr_str, ↓En.isi_scr_tuple, ↓En.isi_scr_list, ↓En.isi_scr_dict, reduceCtorEq, List.cons.injEq, Nat.reduceEqDiff, and_true, true_and, and_false, false_and, Int.cast_ofNat_Int, List.length_cons, List.length_nil, Nat.reduceAdd, Nat.reduceLeDiff, Nat.zero_add, Nat.reduceLT, Int.reduceLT, Int.reduceLE, Int.reducePow, Int.reduceToNat, Int.reduceNeg, Int.reduceAdd, Int.reduceSub, Int.reduceMul, Nat.reducePow, Int.reduceEq, Int.reduceBNe, decide_true, decide_false, Bool.not_true, Bool.not_false, beq_self_eq_true, Bool.true_beq, Bool.false_beq, En.cndP, En.cndQ, En.cndN, gt_iff_lt, if_true, if_false, ↓Lk.r_isfr, ↓Lk.r_common, ↓Lk.l_drw] | skip)
local macro_rules | `(tactic| walk_at "start") => `(tactic| (rw [En.wF_run]; simp only [List.map_cons, List.map_nil, List.cons_append, List.nil_append, List.length_cons, List.length_nil, Nat.reduceAdd, Nat.reduceSub, List.replicate_succ, List.replicate_zero]))
local macro_rules | `(tactic| walk_at "if") => `(tactic| (refine En.cnd_if (fun _ => ?_) (fun _ => ?_) <;> walk_at "run"))
namespace Lk
open PySem PySem.Spec PyProof.Rows L2 Fw Wk En Tx Rp
variable {st : List Cell} {s : S} {K : RV → List Cell → Prop} {E : Ex → List Cell → Prop} {p : List Cell} {q : Dw}
def oddL : List D := [.non, .bl true, .bl false, .int (-1), .int 100000000000, .str "", .str "source 10", .str "1/2", .tup [], .lst [], .dic [], .tup [.int 0], .tup [.int 1, .int 2], .tup [.int 2, .int 4], .tup [.int 1, .int 0], .lst [.int 1, .int 2],
  .tup [.int 1, .bl true], .tup [.tup [.int 0, .int 1]], .tup [.tup [.int 0, .int 1], .tup [.int 5, .int 2]], .dic [(.int 0, .int 1)], .tup [.str "place", .int 0, .int 0, .int 5], .tup [.int 1, .int (-2)], .str "0", .tup [.int 0, .int 2]]
/-- a thing that is looked at and shown -/
def goodB (d : D) : Bool := okTy1 d && shw d && !isObj d
theorem odd_good : oddL.all goodB = true := by kernel_rfl
theorem w_odd (h : ∀ d ∈ oddL, ∀ q1, K (.fz d) (p ++ [drw q1])) : wF (f__law_odd [.obj p.length] (p ++ [drw q])) K E := by
  unfold f__law_odd g__law_odd
  walk_at "start"
  walk_at "run"
  rw [q_lcat (by decide)]
  walk_at "run"
  refine w_take (by decide) (by decide) fun r q1 h0 h1 => ?_
  walk_at "run"
  obtain ⟨x, e, e2⟩ := atI_nat (xs := oddL) h0 (by show r < 24; exact h1)
  refine Eq.mpr (q_at (xs := oddL) e) ?_
  walk_at "run"
  exact h x (List.mem_of_getElem? e2) q1
end Lk

set_option Elab.async false
set_option linter.all false
set_option maxRecDepth 100000
set_option maxHeartbeats 4000000
local macro_rules | `(tactic| walk_at "run") => `(tactic| first | simp -dsimp -implicitDefEqProofs only [↓En.cndP, ↓En.cndQ, ↓En.cndN, ↓En.l_non, ↓En.l_bl, ↓En.l_int, ↓En.l_str, ↓En.l_tup, ↓En.l_lst, ↓En.l_dic, ↓En.l_scr, ↓En.l_ty, ↓En.l_exc, ↓En.l_any, ↓En.l_ow, ↓En.l_lnow0, ↓En.v_ow0, ↓En.st_lnow0, ↓En.rt_lnow0, ↓En.l_lnfz0, ↓En.v_fz0, ↓En.st_lnfz0, ↓En.rt_lnfz0, ↓En.so_fz0, ↓En.so_ow0, ↓En.s1_0, ↓En.ch_ow0, ↓En.l_lnow1, ↓En.v_ow1, ↓En.st_lnow1, ↓En.rt_lnow1, ↓En.l_lnfz1, ↓En.v_fz1, ↓En.st_lnfz1, ↓En.rt_lnfz1, ↓En.so_fz1, ↓En.so_ow1, ↓En.s1_1, ↓En.ch_ow1, ↓En.l_lnow2, ↓En.v_ow2, ↓En.st_lnow2, ↓En.rt_lnow2, ↓En.l_lnfz2, ↓En.v_fz2, ↓En.st_lnfz2, ↓En.rt_lnfz2, ↓En.so_fz2, ↓En.so_ow2, ↓En.s1_2, ↓En.ch_ow2, ↓En.l_lnow3, ↓En.v_ow3, ↓En.st_lnow3, ↓En.rt_lnow3, ↓En.l_lnfz3, ↓En.v_fz3, ↓En.st_lnfz3, ↓En.rt_lnfz3, ↓En.so_fz3, ↓En.so_ow3, ↓En.s1_3, ↓En.ch_ow3, ↓En.l_lnow4, ↓En.v_ow4, ↓En.st_lnow4, ↓En.rt_lnow4, ↓En.l_lnfz4, ↓En.v_fz4, ↓En.st_lnfz4, ↓En.rt_lnfz4, ↓En.so_fz4, ↓En.so_ow4, ↓En.s1_4, ↓En.ch_ow4, ↓En.l_lnow5, ↓En.v_ow5, ↓En.st_lnow5, ↓En.rt_lnow5, ↓En.l_lnfz5, ↓En.v_fz5, ↓En.st_lnfz5, ↓En.rt_lnfz5, ↓En.so_fz5, ↓En.so_ow5, ↓En.s1_5, ↓En.ch_ow5, ↓En.l_lnow6, ↓En.v_ow6, ↓En.st_lnow6, ↓En.rt_lnow6, ↓En.l_lnfz6, ↓En.v_fz6, ↓En.st_lnfz6, ↓En.rt_lnfz6, ↓En.so_fz6, ↓En.so_ow6, ↓En.s1_6, ↓En.ch_ow6, ↓En.l_lnow7, ↓En.v_ow7, ↓En.st_lnow7, ↓En.rt_lnow7, ↓En.l_lnfz7, ↓En.v_fz7, ↓En.st_lnfz7, ↓En.rt_lnfz7, ↓En.so_fz7, ↓En.so_ow7, ↓En.s1_7, ↓En.ch_ow7, ↓En.l_lnow8, ↓En.v_ow8, ↓En.st_lnow8, ↓En.rt_lnow8, ↓En.l_lnfz8, ↓En.v_fz8, ↓En.st_lnfz8, ↓En.rt_lnfz8, ↓En.so_fz8, ↓En.so_ow8, ↓En.s1_8, ↓En.ch_ow8, ↓En.l_lnow9, ↓En.v_ow9, ↓En.st_lnow9, ↓En.rt_lnow9, ↓En.l_lnfz9, ↓En.v_fz9, ↓En.st_lnfz9, ↓En.rt_lnfz9, ↓En.so_fz9, ↓En.so_ow9, ↓En.s1_9, ↓En.ch_ow9, ↓En.l_lnow10, ↓En.v_ow10, ↓En.st_lnow10, ↓En.rt_lnow10, ↓En.l_lnfz10, ↓En.v_fz10, ↓En.st_lnfz10, ↓En.rt_lnfz10, ↓En.so_fz10, ↓En.so_ow10, ↓En.s1_10, ↓En.ch_ow10, ↓En.l_lnow11, ↓En.v_ow11, ↓En.st_lnow11, ↓En.rt_lnow11, ↓En.l_lnfz11, ↓En.v_fz11, ↓En.st_lnfz11, ↓En.rt_lnfz11, ↓En.so_fz11, ↓En.so_ow11, ↓En.s1_11, ↓En.ch_ow11, ↓En.l_lnow12, ↓En.v_ow12, ↓En.st_lnow12, ↓En.rt_lnow12, ↓En.l_lnfz12, ↓En.v_fz12, ↓En.st_lnfz12, ↓En.rt_lnfz12, ↓En.so_fz12, ↓En.so_ow12, ↓En.s1_12, ↓En.ch_ow12, ↓En.l_lnow13, ↓En.v_ow13, ↓En.st_lnow13, ↓En.rt_lnow13, ↓En.l_lnfz13, ↓En.v_fz13, ↓En.st_lnfz13, ↓En.rt_lnfz13, ↓En.so_fz13, ↓En.so_ow13, ↓En.s1_13, ↓En.ch_ow13, ↓En.l_lnow14, ↓En.v_ow14, ↓En.st_lnow14, ↓En.rt_lnow14, ↓En.l_lnfz14, ↓En.v_fz14, ↓En.st_lnfz14, ↓En.rt_lnfz14, ↓En.so_fz14, ↓En.so_ow14, ↓En.s1_14, ↓En.ch_ow14, ↓En.l_lnow15, ↓En.v_ow15, ↓En.st_lnow15, ↓En.rt_lnow15, ↓En.l_lnfz15, ↓En.v_fz15, ↓En.st_lnfz15, ↓En.rt_lnfz15, ↓En.so_fz15, ↓En.so_ow15, ↓En.s1_15, ↓En.ch_ow15, ↓En.l_lnow16, ↓En.v_ow16, ↓En.st_lnow16, ↓En.rt_lnow16, ↓En.l_lnfz16, ↓En.v_fz16, ↓En.st_lnfz16, ↓En.rt_lnfz16, ↓En.so_fz16, ↓En.so_ow16, ↓En.s1_16, ↓En.ch_ow16, ↓En.l_lnow17, ↓En.v_ow17, ↓En.st_lnow17, ↓En.rt_lnow17, ↓En.l_lnfz17, ↓En.v_fz17, ↓En.st_lnfz17, ↓En.rt_lnfz17, ↓En.so_fz17, ↓En.so_ow17, ↓En.s1_17, ↓En.ch_ow17, ↓En.l_lnow18, ↓En.v_ow18, ↓En.st_lnow18, ↓En.rt_lnow18, ↓En.l_lnfz18, ↓En.v_fz18, ↓En.st_lnfz18, ↓En.rt_lnfz18, ↓En.so_fz18, ↓En.so_ow18, ↓En.s1_18, ↓En.ch_ow18, ↓En.l_lnow19, ↓En.v_ow19, ↓En.st_lnow19, ↓En.rt_lnow19, ↓En.l_lnfz19, ↓En.v_fz19, ↓En.st_lnfz19, ↓En.rt_lnfz19, ↓En.so_fz19, ↓En.so_ow19, ↓En.s1_19, ↓En.ch_ow19, ↓En.l_lnow20, ↓En.v_ow20, ↓En.st_lnow20, ↓En.rt_lnow20, ↓En.l_lnfz20, ↓En.v_fz20, ↓En.st_lnfz20, ↓En.rt_lnfz20, ↓En.so_fz20, ↓En.so_ow20, ↓En.s1_20, ↓En.ch_ow20, ↓En.l_lnow21, ↓En.v_ow21, ↓En.st_lnow21, ↓En.rt_lnow21, ↓En.l_lnfz21, ↓En.v_fz21, ↓En.st_lnfz21, ↓En.rt_lnfz21, ↓En.so_fz21, ↓En.so_ow21, ↓En.s1_21, ↓En.ch_ow21, ↓En.so_ln, ↓En.wop_some, ↓En.st_fz, ↓En.rt_fz, ↓En.rt_ow, ↓En.k_fz, ↓En.k_ow, ↓En.k_ln, ↓En.ls0, ↓En.ls1, ↓En.sa0, ↓En.sa1, ↓En.g_lit, ↓En.g_bin, ↓En.lift2_eq, ↓En.lift1_eq, ↓En.g_un, ↓En.g_not, ↓En.g_and, ↓En.g_or, ↓En.g_if, ↓En.g_toT, ↓En.wt_or, ↓En.wt_and, ↓En.wt_not, ↓En.wt_bin, ↓En.wt_un, ↓En.wt_cb, ↓En.wt_var, ↓En.wt_call, ↓En.wt_lit, ↓En.wt_meth, ↓En.wt_chain, ↓En.wt_comp, ↓En.wt_if, ↓En.g_args0, ↓En.g_args1, ↓En.g_with, ↓En.ca, ↓En.g_call, ↓En.tup_ok, ↓En.lst_ok, ↓En.g_cb, ↓En.g_meth, ↓En.is_str, ↓En.is_lst, ↓En.isl, ↓En.part0, ↓En.part1, ↓En.wint, ↓En.g_slice, ↓En.g_d01, ↓En.g_rev, ↓En.g_dic0, ↓En.g_fmt, ↓En.js0, ↓En.js_e, ↓En.js_S, ↓En.wstr, ↓En.g_chain, ↓En.chn, ↓En.g_app, ↓En.g_ext, ↓En.wlst, ↓En.g_pop, ↓En.g_pro, ↓En.pro, ↓En.to_, ↓En.fz0, ↓En.fzF, ↓En.fzO, ↓En.fzN, ↓En.g_said, ↓En.t_name, ↓En.ta0, ↓En.taF, ↓En.taO, ↓En.gs0, ↓En.gs1, ↓En.t_tup, ↓En.wtup, ↓En.t_sub, ↓En.s_seq, ↓En.s_next, ↓En.s_cont, ↓En.s_drop, ↓En.s_ret, ↓En.s_retn, ↓En.s_if, ↓En.s_set, ↓En.s_asg, ↓En.s_par, ↓En.s_parg, ↓En.set0, ↓En.set1, ↓En.held0, ↓En.held1, ↓En.ho_fz, ↓En.ho_ow, ↓En.ho_ln, ↓En.s_raise, ↓En.s_raiset, ↓En.s_for, ↓En.i_seq, ↓En.it_lst, ↓En.it_tup, ↓En.it_str, ↓En.wrg, ↓En.i_rng1, ↓En.i_rng2, ↓En.cm, ↓En.g_comp, ↓En.t_yes, ↓En.fo_fz, ↓En.fo_ow, ↓En.s_loop, ↓En.q_add, ↓En.q_sub, ↓En.q_div, ↓En.q_mod, ↓En.q_pow, ↓En.q_lt, ↓En.q_le, ↓En.q_gt, ↓En.q_ge, ↓En.q_eqi, ↓En.q_nei, ↓En.q_is_non, ↓En.q_isn_non, ↓En.q_is_bl, ↓En.q_isn_bl, ↓En.q_is_int, ↓En.q_isn_int, ↓En.q_is_str, ↓En.q_isn_str, ↓En.q_is_tup, ↓En.q_isn_tup, ↓En.q_is_lst, ↓En.q_isn_lst, ↓En.q_is_dic, ↓En.q_isn_dic, ↓En.q_is_obj, ↓En.q_isn_obj, ↓En.q_eqb, ↓En.q_neb, ↓En.q_not, ↓En.q_neg, ↓En.q_abs, ↓En.q_max, ↓En.q_min, ↓En.q_lenl, ↓En.q_lent, ↓En.q_lenc, ↓En.q_listl, ↓En.q_listt, ↓En.q_tupl, ↓En.q_tupt, ↓En.q_revl, ↓En.q_revt, ↓En.q_sll, ↓En.q_slt, ↓En.q_int, ↓En.q_intb, ↓En.q_strs, ↓En.q_atl0, ↓En.q_att0, ↓En.q_atl1, ↓En.q_att1, ↓En.q_atl2, ↓En.q_att2, ↓En.q_atl3, ↓En.q_att3, ↓En.q_atl4, ↓En.q_att4, ↓En.q_atl5, ↓En.q_att5, ↓En.q_atl6, ↓En.q_att6, ↓En.q_atl7, ↓En.q_att7, ↓En.tr_bl, ↓En.tr_int, ↓En.tr_non, ↓En.tr_tup, ↓En.tr_lst, ↓En.no0, ↓En.no1, ↓En.wp0, ↓En.wp1, ↓En.bk0, ↓En.bk1, ↓En.no_no0, ↓En.no_fz0, ↓En.gt0, ↓En.no_no1, ↓En.no_fz1, ↓En.gt1, ↓En.no_no2, ↓En.no_fz2, ↓En.gt2, ↓En.no_no3, ↓En.no_fz3, ↓En.gt3, ↓En.no_no4, ↓En.no_fz4, ↓En.gt4, ↓En.no_no5, ↓En.no_fz5, ↓En.gt5, ↓En.no_no6, ↓En.no_fz6, ↓En.gt6, ↓En.no_no7, ↓En.no_fz7, ↓En.gt7, ↓En.no_no8, ↓En.no_fz8, ↓En.gt8, ↓En.no_no9, ↓En.no_fz9, ↓En.gt9, ↓En.no_no10, ↓En.no_fz10, ↓En.gt10, ↓En.no_no11, ↓En.no_fz11, ↓En.gt11, ↓En.no_no12, ↓En.no_fz12, ↓En.gt12, ↓En.no_no13, ↓En.no_fz13, ↓En.gt13, ↓En.no_no14, ↓En.no_fz14, ↓En.gt14, ↓En.no_no15, ↓En.no_fz15, ↓En.gt15, ↓En.no_no16, ↓En.no_fz16, ↓En.gt16, ↓En.no_no17, ↓En.no_fz17, ↓En.gt17, ↓En.no_no18, ↓En.no_fz18, ↓En.gt18, ↓En.no_no19, ↓En.no_fz19, ↓En.gt19, ↓En.no_no20, ↓En.no_fz20, ↓En.gt20, ↓En.no_no21, ↓En.no_fz21, ↓En.gt21, ↓En.wCp0, ↓En.c_step, ↓En.c_one, ↓En.ap_no, ↓En.ap0, ↓En.ap1, ↓En.ap2, ↓En.ap3, ↓En.ap4, ↓En.ap5, ↓En.ap6, ↓En.ap7, ↓En.ap8, ↓En.ap9, ↓En.q_all, ↓En.q_any, ↓En.bls0, ↓En.bls1, ↓En.isi_non_bool, ↓En.isi_non_int, ↓En.isi_non_str, ↓En.isi_non_tuple, ↓En.isi_non_list, ↓En.isi_non_dict, ↓En.isi_bl_bool, ↓En.isi_bl_int, ↓En.isi_bl_str, ↓En.isi_bl_tuple, ↓En.isi_bl_list, ↓En.isi_bl_dict, ↓En.isi_int_bool, ↓En.isi_int_int, ↓En.isi_int_str, ↓En.isi_int_tuple, ↓En.isi_int_list, ↓En.isi_int_dict, ↓En.isi_str_bool, ↓En.isi_str_int, ↓En.isi_str_str, ↓En.isi_str_tuple, ↓En.isi_str_list, ↓En.isi_str_dict, ↓En.isi_tup_bool, ↓En.isi_tup_int, ↓En.isi_tup_str, ↓En.isi_tup_tuple, ↓En.isi_tup_list, ↓En.isi_tup_dict, ↓En.isi_lst_bool, ↓En.isi_lst_int, ↓En.isi_lst_str, ↓En.isi_lst_tuple, ↓En.isi_lst_list, ↓En.isi_lst_dict, ↓En.isi_dic_bool, ↓En.isi_dic_int, ↓En.isi_dic_str, ↓En.isi_dic_tuple, ↓En.isi_dic_list, ↓En.isi_dic_dict, ↓En.isi_scr_bool, ↓En.isi_scr_int, ↓En.isi_scr_str, ↓En.isi_scr_tuple, ↓En.isi_scr_list, ↓En.isi_scr_dict, reduceCtorEq, List.cons.injEq, Nat.reduceEqDiff, and_true, true_and, and_false, false_and, Int.cast_ofNat_Int, List.length_cons, List.length_nil, Nat.reduceAdd, Nat.reduceLeDiff, Nat.zero_add, Nat.reduceLT, Int.reduceLT, Int.reduceLE, Int.reducePow, Int.reduceToNat, Int.reduceNeg, Int.reduceAdd, Int.reduceSub, Int.reduceMul, Nat.reducePow, Int.reduceEq, Int.reduceBNe, decide_true, decide_false, Bool.not_true, Bool.not_false, beq_self_eq_true, Bool.true_beq, Bool.false_beq, En.cndP, En.cndQ, En.cndN, gt_iff_lt, if_true, if_false, ↓Lk.r_isfr, ↓Lk.r_common, ↓Lk.l_drw, ↓Lk.l_FIGURES, Lk.lit_, Lk.lit__45_, Lk.lit__47_, Lk.lit_0, Lk.lit_0123456789, ↓Tx.q_inS, ↓Tx.q_notInS, ↓Tx.it_S] | skip)
local macro_rules | `(tactic| walk_at "start") => `(tactic| (rw [En.wF_run]; simp only [List.map_cons, List.map_nil, List.cons_append, List.nil_append, List.length_cons, List.length_nil, Nat.reduceAdd, Nat.reduceSub, List.replicate_succ, List.replicate_zero]))
local macro_rules | `(tactic| walk_at "if") => `(tactic| (refine En.cnd_if (fun _ => ?_) (fun _ => ?_) <;> walk_at "run"))
namespace Lk
open PySem PySem.Spec PyProof.Rows L2 Fw Wk En Tx Rp
variable {st : List Cell} {s : S} {K : RV → List Cell → Prop} {E : Ex → List Cell → Prop} {p : List Cell} {q : Dw}
def digB (c : Nat) : Bool := decide (48 ≤ c ∧ c ≤ 57)
theorem r_figs {w : List Nat} (hw : w.length ≤ 600) (ok : okT w) : wF (f__law_figures [.str (SX.S w)] st) K E = K (.fz (optD (numW w))) st := by
  refine wF_det fun K E h => ?_
  unfold f__law_figures g__law_figures
  walk_at "start"
  walk_at "run"
  rw [q_eqS ok (by intro c hc; cases hc)]
  walk_at "run"
  walk_at "if"
  · next e => subst e; exact h
  · next e =>
    rw [wCp_fm (fun c => if digB c then none else some (D.str (SX.S [c]))) (fun c hc M => by
      walk_at "run"
      rw [fig_mem]
      show cnd (digB c) _ _ = _
      cases hd : digB c with
      | true => walk_at "run"
      | false => walk_at "run") (by omega)]
    walk_at "run"
    have fe : ∀ w : List Nat, w.filterMap (fun c => if digB c = true then none else some (D.str (SX.S [c]))) = [] ↔ figs w = true := fun w => by
      induction w with
      | nil => exact ⟨fun _ => rfl, fun _ => rfl⟩
      | cons c w ih =>
        rw [List.filterMap_cons]
        show _ ↔ (digB c && figs w) = true
        cases hd : digB c with
        | true => simpa using ih
        | false => simp
    cases f : figs w with
    | true =>
      rw [(fe w).mpr f, q_neP (eqP_same (k := 0 + 1) (d := .lst []) rfl (by decide))]
      obtain ⟨c, r, rfl⟩ := List.exists_cons_of_ne_nil e
      have f1 := figs_all.mp f
      walk_at "run"
      rw [q_eqS ok (by intro d hd; rw [List.mem_singleton.mp hd]; decide)]
      walk_at "run"
      walk_at "if"
      · next e2 =>
        rw [q_intS f1 e (by omega)]
        walk_at "run"
        unfold numW at h
        rw [if_pos ⟨e, f, .inr (by rw [e2.1, e2.2])⟩] at h
        exact h
      · next e2 =>
        rw [q_at0S (by omega)]
        walk_at "run"
        rw [q_neS (fun d hd => ok d (by rw [List.mem_singleton.mp hd]; exact List.mem_cons_self)) (by intro d hd; rw [List.mem_singleton.mp hd]; decide)]
        walk_at "run"
        walk_at "if"
        · next e1 =>
          unfold numW at h
          rw [if_neg (fun z => by rcases z.2.2 with z | z; exact z (by rw [e1]; rfl); exact e2 ⟨(List.cons.inj z).1, (List.cons.inj z).2⟩)] at h
          exact h
        · next e1 =>
          rw [q_intS f1 e (by omega)]
          walk_at "run"
          unfold numW at h
          rw [if_pos ⟨e, f, .inl (by simpa using e1)⟩] at h
          exact h
    | false =>
      unfold numW at h
      rw [if_neg (fun z => by rw [f] at z; cases z.2.1)] at h
      obtain ⟨x, xs, ex⟩ := List.exists_cons_of_ne_nil (fun z => by rw [(fe w).mp z] at f; cases f)
      have cx : Rp.cm 1 (.lst (x :: xs)) = true := by
        rw [← ex]
        show List.all _ _ = true
        rw [List.all_eq_true]
        intro y hy
        obtain ⟨c, hc, e⟩ := List.mem_filterMap.mp hy
        split at e
        · cases e
        · cases e
          exact okS (fun d hd => ok d (by rw [List.mem_singleton.mp hd]; exact hc))
      rw [ex, q_neP (eqP_nilL cx (by decide))]
      walk_at "run"
      exact h
theorem spl_in {k : Nat} : ∀ (l acc : List Nat), (∀ p ∈ TL.spl [k] 0 acc l, (∀ c ∈ p, c ∈ acc ∨ c ∈ l) ∧ p.length ≤ acc.length + l.length) ∧ (TL.spl [k] 0 acc l).length ≤ l.length + 1
  | [], acc => by
    rw [TL.spl_nil]
    exact ⟨fun p hp => by rw [List.mem_singleton.mp hp]; exact ⟨fun c hc => .inl hc, Nat.le_refl _⟩, Nat.le_refl _⟩
  | c :: r, acc => by
    by_cases h : TL.pre [k] (c :: r) = true
    · rw [TL.spl_hit h]
      obtain ⟨i1, i2⟩ := spl_in (k := k) r []
      refine ⟨fun p hp => ?_, by rw [List.length_cons, List.length_cons]; exact Nat.succ_le_succ i2⟩
      rcases List.mem_cons.mp hp with rfl | hp
      · exact ⟨fun c hc => .inl hc, by omega⟩
      · obtain ⟨j1, j2⟩ := i1 p hp
        exact ⟨fun d hd => (j1 d hd).elim (fun z => by cases z) fun z => .inr (List.mem_cons_of_mem _ z), by simp at j2 ⊢; omega⟩
    · rw [TL.spl_miss (Bool.eq_false_iff.mpr h)]
      obtain ⟨i1, i2⟩ := spl_in (k := k) r (acc ++ [c])
      refine ⟨fun p hp => ?_, by rw [List.length_cons]; omega⟩
      obtain ⟨j1, j2⟩ := i1 p hp
      refine ⟨fun d hd => ?_, by simp at j2 ⊢; omega⟩
      rcases j1 d hd with z | z
      · rcases List.mem_append.mp z with z | z
        · exact .inl z
        · rw [List.mem_singleton.mp z]; exact .inr List.mem_cons_self
      · exact .inr (List.mem_cons_of_mem _ z)
theorem e_lwhole : f__law_whole = f_is_whole := rfl
theorem q_splitS {u : List Nat} (h : u.length ≤ 1000000) {K : RV → S → Prop} : wO (splitD (.str (SX.S u)) [.str (SX.S [47])]) s K = K (.ow (.lst ((TL.spl [47] 0 [] u).map fun p => D.str (SX.S p)))) s := by
  show wO (if (!((SX.S [47]).length == 0) && sz ((SX.S u).length + 2)) = true then .nl ((Txt.split (SX.S u) (SX.S [47])).map .str) else .no) s K = _
  rw [SX.S_len, SX.S_len, if_pos (by rw [sz]; simp [sizeLine_eq]; omega), SX.split_S (by simp) (by decide), List.map_map]; rfl
theorem q_inN {os : List (Option Nat)} {K : RV → S → Prop} : wO (cmpD .In .non (.lst (os.map optD))) s K = K (.fz (.bl (os.any Option.isNone))) s := by
  have h1 : (os.map optD).all flatD = true := by
    rw [List.all_map, List.all_eq_true]
    intro o _
    cases o <;> rfl
  have h2 : inF .non (os.map optD) = os.any Option.isNone := by
    unfold inF
    rw [List.any_map]
    congr 1
    funext o
    cases o <;> rfl
  show wO (match (if (flatD .non && (os.map optD).all flatD) = true then some (inF .non (os.map optD)) else none) with | some k => .val (.bl k) | none => .no) s K = _
  rw [h1, h2]; rfl
noncomputable def rdR  : SX := (gSeq (gRet (gIf (gAnd (gCall f__law_is_fraction [(gVar 4)]) (gBin (lift2 (cmpD .Eq)) (gCall f__law_fraction_text [(gVar 4)]) (gVar 0))) (gVar 4) (gLit .non))) gNext)
theorem rd_tail {t : List Nat} {a b : Int} {x1 x2 x3 x5 : Sl} (ht : t.length ≤ 70) (ok : okT t) (ha : a.natAbs < 2 ^ 250) (hb : b.natAbs < 2 ^ 250) {N : S → Prop} {TT : RV → S → Prop} {B C : S → Prop} {E : Ex → S → Prop}
    (h : ∀ sl, TT (.fz (frD (chk t a b))) ⟨sl, st⟩) : wS (rdR ⟨[.fz (.str (SX.S t)), x1, x2, x3, .fz (.tup [.int a, .int b]), x5], st⟩) N TT B C E := by
  unfold rdR
  walk_at "run"
  rw [e_lisfr, r_isfr rfl]
  walk_at "run"
  unfold chk at h
  refine cnd_of (fun f => ?_) (fun f => ?_)
  · walk_at "run"
    rw [r_ltext ha hb]
    walk_at "run"
    rw [q_eqS (frL_ok _ _) ok]
    walk_at "run"
    walk_at "if"
    · next e => rw [if_pos ⟨f, e⟩] at h; exact h _
    · next e => rw [if_neg (fun z => e z.2)] at h; exact h _
  · walk_at "run"
    rw [if_neg (fun z => by rw [f] at z; cases z.1)] at h; exact h _
noncomputable def rdM  : SX := (gSeq (gSet 3 (gComp [5] (gSeqI (gVar 2)) (pName 5) tstYes (gCall f__law_figures [(gVar 5)]))) (gSeq (gIfS (gOr (gBin (lift2 (cmpD .In)) (gLit .non) (gVar 3)) (gBin (lift2 (cmpD .Gt)) (gCB lenD [(gVar 2)]) (gLit (.int 2)))) (gSeq (gRet (gLit .non)) gNext) gNext) (gSeq (gSet 4 (gWith [(gIf (gVar 1) (gBin (lift2 (binD .Sub)) (gLit (.int 0)) (gBin (lift2 atD) (gVar 3) (gLit (.int 0)))) (gBin (lift2 atD) (gVar 3) (gLit (.int 0)))), (gIf (gBin (lift2 (cmpD .Eq)) (gCB lenD [(gVar 2)]) (gLit (.int 1))) (gLit (.int 1)) (gBin (lift2 atD) (gVar 3) (gLit (.int 1))))] tupK)) (gSeq (gRet (gIf (gAnd (gCall f__law_is_fraction [(gVar 4)]) (gBin (lift2 (cmpD .Eq)) (gCall f__law_fraction_text [(gVar 4)]) (gVar 0))) (gVar 4) (gLit .non))) gNext))))
theorem rd_mid {t u : List Nat} {neg : Bool} (ht : t.length ≤ 70) (hu : u.length ≤ 70) (ok : okT t) (oku : okT u) {N : S → Prop} {TT : RV → S → Prop} {B C : S → Prop} {E : Ex → S → Prop}
    (h : ∀ sl, TT (.fz (frD (fracU t neg u))) ⟨sl, st⟩) :
    wS (rdM ⟨[.fz (.str (SX.S t)), .fz (.bl neg), .ow (.lst ((TL.spl [47] 0 [] u).map fun p => D.str (SX.S p))), .no, .no, .no], st⟩) N TT B C E := by
  have p70 : (10 : Nat) ^ 70 < 2 ^ 250 := by decide
  unfold fracU at h
  by_cases m : 47 ∈ u
  · obtain ⟨p, q, rfl, np⟩ := split_at m
    have hl : p.length + q.length + 1 ≤ 70 := by simp at hu; omega
    have okp : okT p := okT_sub oku fun c hc => by simp [hc]
    have okq : okT q := okT_sub oku fun c hc => by simp [hc]
    rw [show TL.par [47] [] (p ++ 47 :: q) = some (p, q) from SX.par_head q np] at h
    dsimp only at h
    by_cases m2 : 47 ∈ q
    · obtain ⟨q1, q2, rfl, nq⟩ := split_at m2
      have e0 : numW (q1 ++ 47 :: q2) = none := by
        unfold numW
        rw [if_neg (fun z => by have := figs_all.mp z.2.1 47 (by simp); omega)]
      have e0 : (numW p).bind (fun n => (numW (q1 ++ 47 :: q2)).bind fun d => chk t (if neg = true then 0 - (n : Int) else n) d) = none := by
        rw [e0]; cases numW p <;> rfl
      rw [e0] at h
      obtain ⟨ps, hps⟩ : ∃ ps, ps = TL.spl [47] 0 [] q2 := ⟨_, rfl⟩
      have hne : ps ≠ [] := by
        rw [hps]
        intro z
        have := TL.spl_nil
        by_cases m3 : 47 ∈ q2
        · obtain ⟨r1, r2, rfl, nr⟩ := split_at m3
          rw [show r1 ++ 47 :: r2 = r1 ++ ([47] ++ r2) from rfl, TL.spl_part1 nr] at z
          cases z
        · rw [TL.spl_last1 m3] at z; cases z
      have hsub : ∀ r ∈ ps, r.length ≤ 70 ∧ okT r := by
        intro r hr
        rw [hps] at hr
        have hl2 : q2.length ≤ 70 := by simp at hl; omega
        obtain ⟨j1, j2⟩ := (spl_in q2 []).1 r hr
        exact ⟨by simp at j2; omega, fun c hc => okq c ((j1 c hc).elim (fun z => by cases z) fun z => by simp [z])⟩
      have hpl : ps.length ≤ 71 := by
        have := (spl_in (k := 47) q2 []).2
        rw [hps]; simp at hl; omega
      rw [show TL.spl [47] 0 [] (p ++ 47 :: (q1 ++ 47 :: q2)) = p :: q1 :: ps from by rw [show p ++ 47 :: (q1 ++ 47 :: q2) = p ++ ([47] ++ (q1 ++ ([47] ++ q2))) from rfl, TL.spl_part1 np, TL.spl_part1 nq, hps]; rfl]
      have hall : ∀ r ∈ p :: q1 :: ps, r.length ≤ 600 ∧ okT r := by
        intro r hr
        simp only [List.mem_cons] at hr
        rcases hr with rfl | rfl | hr
        · exact ⟨by omega, okp⟩
        · exact ⟨by simp at hl; omega, okT_sub okq fun c hc => by simp [hc]⟩
        · exact ⟨by have := (hsub r hr).1; omega, (hsub r hr).2⟩
      unfold rdM
      walk_at "run"
      rw [wCp_map (fun r => optD (numW r)) (fun r hr M => by walk_at "run"; rw [r_figs (hall r hr).1 (hall r hr).2]; walk_at "run") (by simp; omega)]
      walk_at "run"
      rw [show (List.map (fun r => optD (numW r)) (p :: q1 :: ps)) = ((p :: q1 :: ps).map numW).map optD from by rw [List.map_map]; rfl, q_inN]
      walk_at "run"
      refine cnd_of (fun _ => ?_) (fun _ => ?_)
      · walk_at "run"; exact h _
      · walk_at "run"
        walk_at "if"
        · exact h _
        · next z => exfalso; apply z; cases ps with
          | nil => exact absurd rfl hne
          | cons a b => simp only [List.map_cons, List.length_cons]; omega
    · rw [show TL.spl [47] 0 [] (p ++ 47 :: q) = [p, q] from by rw [show p ++ 47 :: q = p ++ ([47] ++ q) from rfl, TL.spl_part1 np, TL.spl_last1 m2]; rfl]
      unfold rdM
      rw [List.map_cons, List.map_cons, List.map_nil]
      walk_at "run"
      rw [r_figs (by omega) okp]
      walk_at "run"
      rw [r_figs (by omega) okq]
      walk_at "run"
      refine Eq.mpr (q_inN (os := [numW p, numW q])) ?_
      walk_at "run"
      cases e : numW p with
      | none => rw [e] at h; walk_at "run"; exact h _
      | some n =>
        cases e2 : numW q with
        | none => rw [e, e2] at h; walk_at "run"; exact h _
        | some n2 =>
          rw [e, e2] at h
          have := numW_lt e (by omega)
          have := numW_lt e2 (by omega)
          walk_at "run"
          cases neg with
          | true =>
            walk_at "run"
            exact rd_tail ht ok (by omega) (by omega) h
          | false =>
            walk_at "run"
            exact rd_tail ht ok (by omega) (by omega) h
  · rw [SX.par_head_none m] at h
    dsimp only at h
    rw [show TL.spl [47] 0 [] u = [u] from by rw [TL.spl_last1 m]; rfl]
    unfold rdM
    rw [List.map_cons, List.map_nil]
    walk_at "run"
    rw [r_figs (by omega) oku]
    walk_at "run"
    refine Eq.mpr (q_inN (os := [numW u])) ?_
    walk_at "run"
    cases e : numW u with
    | none => rw [e] at h; walk_at "run"; exact h _
    | some n =>
      rw [e] at h
      have := numW_lt e (by omega)
      walk_at "run"
      cases neg with
      | true =>
        walk_at "run"
        exact rd_tail ht ok (by omega) (by decide) h
      | false =>
        walk_at "run"
        exact rd_tail ht ok (by omega) (by decide) h
theorem r_lread {t : List Nat} (ht : t.length ≤ 70) (ok : okT t) : wF (f__law_read [.str (SX.S t)] st) K E = K (.fz (frD (fracW t))) st := by
  refine wF_det fun K E h => ?_
  unfold f__law_read g__law_read
  walk_at "start"
  walk_at "run"
  rw [q_toS (by decide) (by omega)]
  walk_at "run"
  rw [q_eqS (okT_sub ok fun c hc => List.mem_of_mem_take hc) (by intro d hd; rw [List.mem_singleton.mp hd]; decide)]
  walk_at "run"
  unfold fracW at h
  by_cases e : List.take 1 t = [45]
  · rw [if_pos e] at h
    rw [decide_eq_true e]
    simp only [if_true]
    rw [q_fromS (by decide) (by omega)]
    walk_at "run"
    rw [q_splitS (by simp; omega), so_ow2]
    refine rd_mid ht (by simp; omega) ok (okT_sub ok fun c hc => List.mem_of_mem_drop hc) ?_
    exact fun sl => h
  · rw [if_neg e] at h
    rw [decide_eq_false e]
    simp only [Bool.false_eq_true, if_false]
    rw [q_fromS (by decide) (by omega)]
    walk_at "run"
    rw [q_splitS (by simp; omega), so_ow2]
    refine rd_mid ht ht ok ok ?_
    exact fun sl => h
def bentL : List Nat := [48, 49, 50, 51, 52, 53, 54, 55, 56, 57, 47, 45, 32, 46, 43, 120]
theorem q_atS {l : List Nat} {i : Int} {K : RV → S → Prop} (h : l.length ≤ 1000000) (h0 : 0 ≤ i) (h1 : i < l.length) : ∃ c, c ∈ l ∧ wO (atD (.str (SX.S l)) (.int i)) s K = K (.fz (.str (SX.S [c]))) s := by
  obtain ⟨c, e, e2⟩ := atI_nat (a := Nat) (xs := l) h0 h1
  refine ⟨c, List.mem_of_getElem? e2, ?_⟩
  show wO (if sz (SX.S l).length then (match L2.atI l i with | some c => .val (.str ⟨#[c]⟩) | none => .no) else .no) s K = _
  rw [if_pos (sz_ok (by rw [SX.S_len]; exact h)), e]; rfl
theorem w_bent {t : List Nat} (ht : t.length ≤ 1000) (ok : okT t) (h : ∀ t1 q1, t1.length ≤ t.length + 1 → okT t1 → K (.fz (.str (SX.S t1))) (p ++ [drw q1])) : wF (f__law_bent [.obj p.length, .str (SX.S t)] (p ++ [drw q])) K E := by
  unfold f__law_bent g__law_bent
  walk_at "start"
  walk_at "run"
  rw [q_lenS (by omega)]
  walk_at "run"
  refine w_take (by omega) (by omega) fun at_ q1 h0 h1 => ?_
  walk_at "run"
  refine w_take (by decide) (by decide) fun way q2 k0 k1 => ?_
  walk_at "run"
  refine w_take (by decide) (by decide) fun si q3 s0 s1 => ?_
  walk_at "run"
  rw [show Str.ofString "0123456789/- .+x" = SX.S bentL by kernel_rfl]
  obtain ⟨c, hc, hq⟩ := q_atS (l := bentL) (i := si) (by decide) s0 s1
  rw [hq]
  have okc : okT [c] := fun d hd => by
    rw [List.mem_singleton.mp hd]
    have : bentL.all (fun c => decide (c < 1114112)) = true := by decide
    exact of_decide_eq_true (List.all_eq_true.mp this c hc)
  have okt : ∀ n, okT (t.take n) := fun n => okT_sub ok fun c hc => List.mem_of_mem_take hc
  have okd : ∀ n, okT (t.drop n) := fun n => okT_sub ok fun c hc => List.mem_of_mem_drop hc
  walk_at "run"
  rw [q_toS h0 (by omega)]
  walk_at "run"
  rw [q_catS (by simp; omega)]
  walk_at "run"
  rw [q_fromS h0 (by omega)]
  walk_at "run"
  rw [q_catS (by simp; omega)]
  walk_at "run"
  rw [q_toS h0 (by omega)]
  walk_at "run"
  rw [q_fromS (by omega) (by omega)]
  walk_at "run"
  rw [q_catS (by simp; omega)]
  walk_at "run"
  rw [q_toS h0 (by omega)]
  walk_at "run"
  rw [q_catS (by simp; omega)]
  walk_at "run"
  rw [q_fromS (by omega) (by omega)]
  walk_at "run"
  rw [q_catS (by simp; omega)]
  walk_at "run"
  rw [q_toS h0 (by omega)]
  walk_at "run"
  rw [q_fromS (by split <;> omega) (by omega)]
  walk_at "run"
  rw [q_catS (by simp; omega)]
  walk_at "run"
  obtain ⟨x, e, e2⟩ := atI_nat (a := D) (xs := [.str (SX.S (t.take at_.toNat ++ [c] ++ t.drop at_.toNat)), .str (SX.S (t.take at_.toNat ++ t.drop (at_ + 1).toNat)), .str (SX.S (t.take at_.toNat ++ [c] ++ t.drop (at_ + 1).toNat)), .str (SX.S (t.take at_.toNat ++ t.drop (if at_ - 1 > 0 then at_ - 1 else 0).toNat))]) k0 (by show way < 4; exact k1)
  refine Eq.mpr (q_at e) ?_
  walk_at "run"
  have hx := List.mem_of_getElem? e2
  simp only [List.mem_cons, List.not_mem_nil, or_false] at hx
  rcases hx with rfl | rfl | rfl | rfl
  · exact h _ _ (by simp; omega) (okT_app (okT_app (okt _) okc) (okd _))
  · exact h _ _ (by simp; omega) (okT_app (okt _) (okd _))
  · exact h _ _ (by simp; omega) (okT_app (okT_app (okt _) okc) (okd _))
  · exact h _ _ (by simp; split <;> omega) (okT_app (okt _) (okd _))
end Lk

set_option Elab.async false
set_option linter.all false
set_option maxRecDepth 100000
set_option maxHeartbeats 4000000
local macro_rules | `(tactic| walk_at "run") => `(tactic| first | simp -dsimp -implicitDefEqProofs only [↓En.cndP, ↓En.cndQ, ↓En.cndN, ↓En.l_non, ↓En.l_bl, ↓En.l_int, ↓En.l_str, ↓En.l_tup, ↓En.l_lst, ↓En.l_dic, ↓En.l_scr, ↓En.l_ty, ↓En.l_exc, ↓En.l_any, ↓En.l_ow, ↓En.l_lnow0, ↓En.v_ow0, ↓En.st_lnow0, ↓En.rt_lnow0, ↓En.l_lnfz0, ↓En.v_fz0, ↓En.st_lnfz0, ↓En.rt_lnfz0, ↓En.so_fz0, ↓En.so_ow0, ↓En.s1_0, ↓En.ch_ow0, ↓En.l_lnow1, ↓En.v_ow1, ↓En.st_lnow1, ↓En.rt_lnow1, ↓En.l_lnfz1, ↓En.v_fz1, ↓En.st_lnfz1, ↓En.rt_lnfz1, ↓En.so_fz1, ↓En.so_ow1, ↓En.s1_1, ↓En.ch_ow1, ↓En.l_lnow2, ↓En.v_ow2, ↓En.st_lnow2, ↓En.rt_lnow2, ↓En.l_lnfz2, ↓En.v_fz2, ↓En.st_lnfz2, ↓En.rt_lnfz2, ↓En.so_fz2, ↓En.so_ow2, ↓En.s1_2, ↓En.ch_ow2, ↓En.l_lnow3, ↓En.v_ow3, ↓En.st_lnow3, ↓En.rt_lnow3, ↓En.l_lnfz3, ↓En.v_fz3, ↓En.st_lnfz3, ↓En.rt_lnfz3, ↓En.so_fz3, ↓En.so_ow3, ↓En.s1_3, ↓En.ch_ow3, ↓En.l_lnow4, ↓En.v_ow4, ↓En.st_lnow4, ↓En.rt_lnow4, ↓En.l_lnfz4, ↓En.v_fz4, ↓En.st_lnfz4, ↓En.rt_lnfz4, ↓En.so_fz4, ↓En.so_ow4, ↓En.s1_4, ↓En.ch_ow4, ↓En.l_lnow5, ↓En.v_ow5, ↓En.st_lnow5, ↓En.rt_lnow5, ↓En.l_lnfz5, ↓En.v_fz5, ↓En.st_lnfz5, ↓En.rt_lnfz5, ↓En.so_fz5, ↓En.so_ow5, ↓En.s1_5, ↓En.ch_ow5, ↓En.l_lnow6, ↓En.v_ow6, ↓En.st_lnow6, ↓En.rt_lnow6, ↓En.l_lnfz6, ↓En.v_fz6, ↓En.st_lnfz6, ↓En.rt_lnfz6, ↓En.so_fz6, ↓En.so_ow6, ↓En.s1_6, ↓En.ch_ow6, ↓En.l_lnow7, ↓En.v_ow7, ↓En.st_lnow7, ↓En.rt_lnow7, ↓En.l_lnfz7, ↓En.v_fz7, ↓En.st_lnfz7, ↓En.rt_lnfz7, ↓En.so_fz7, ↓En.so_ow7, ↓En.s1_7, ↓En.ch_ow7, ↓En.l_lnow8, ↓En.v_ow8, ↓En.st_lnow8, ↓En.rt_lnow8, ↓En.l_lnfz8, ↓En.v_fz8, ↓En.st_lnfz8, ↓En.rt_lnfz8, ↓En.so_fz8, ↓En.so_ow8, ↓En.s1_8, ↓En.ch_ow8, ↓En.l_lnow9, ↓En.v_ow9, ↓En.st_lnow9, ↓En.rt_lnow9, ↓En.l_lnfz9, ↓En.v_fz9, ↓En.st_lnfz9, ↓En.rt_lnfz9, ↓En.so_fz9, ↓En.so_ow9, ↓En.s1_9, ↓En.ch_ow9, ↓En.l_lnow10, ↓En.v_ow10, ↓En.st_lnow10, ↓En.rt_lnow10, ↓En.l_lnfz10, ↓En.v_fz10, ↓En.st_lnfz10, ↓En.rt_lnfz10, ↓En.so_fz10, ↓En.so_ow10, ↓En.s1_10, ↓En.ch_ow10, ↓En.l_lnow11, ↓En.v_ow11, ↓En.st_lnow11, ↓En.rt_lnow11, ↓En.l_lnfz11, ↓En.v_fz11, ↓En.st_lnfz11, ↓En.rt_lnfz11, ↓En.so_fz11, ↓En.so_ow11, ↓En.s1_11, ↓En.ch_ow11, ↓En.l_lnow12, ↓En.v_ow12, ↓En.st_lnow12, ↓En.rt_lnow12, ↓En.l_lnfz12, ↓En.v_fz12, ↓En.st_lnfz12, ↓En.rt_lnfz12, ↓En.so_fz12, ↓En.so_ow12, ↓En.s1_12, ↓En.ch_ow12, ↓En.l_lnow13, ↓En.v_ow13, ↓En.st_lnow13, ↓En.rt_lnow13, ↓En.l_lnfz13, ↓En.v_fz13, ↓En.st_lnfz13, ↓En.rt_lnfz13, ↓En.so_fz13, ↓En.so_ow13, ↓En.s1_13, ↓En.ch_ow13, ↓En.l_lnow14, ↓En.v_ow14, ↓En.st_lnow14, ↓En.rt_lnow14, ↓En.l_lnfz14, ↓En.v_fz14, ↓En.st_lnfz14, ↓En.rt_lnfz14, ↓En.so_fz14, ↓En.so_ow14, ↓En.s1_14, ↓En.ch_ow14, ↓En.l_lnow15, ↓En.v_ow15, ↓En.st_lnow15, ↓En.rt_lnow15, ↓En.l_lnfz15, ↓En.v_fz15, ↓En.st_lnfz15, ↓En.rt_lnfz15, ↓En.so_fz15, ↓En.so_ow15, ↓En.s1_15, ↓En.ch_ow15, ↓En.l_lnow16, ↓En.v_ow16, ↓En.st_lnow16, ↓En.rt_lnow16, ↓En.l_lnfz16, ↓En.v_fz16, ↓En.st_lnfz16, ↓En.rt_lnfz16, ↓En.so_fz16, ↓En.so_ow16, ↓En.s1_16, ↓En.ch_ow16, ↓En.l_lnow17, ↓En.v_ow17, ↓En.st_lnow17, ↓En.rt_lnow17, ↓En.l_lnfz17, ↓En.v_fz17, ↓En.st_lnfz17, ↓En.rt_lnfz17, ↓En.so_fz17, ↓En.so_ow17, ↓En.s1_17, ↓En.ch_ow17, ↓En.l_lnow18, ↓En.v_ow18, ↓En.st_lnow18, ↓En.rt_lnow18, ↓En.l_lnfz18, ↓En.v_fz18, ↓En.st_lnfz18, ↓En.rt_lnfz18, ↓En.so_fz18, ↓En.so_ow18, ↓En.s1_18, ↓En.ch_ow18, ↓En.l_lnow19, ↓En.v_ow19, ↓En.st_lnow19, ↓En.rt_lnow19, ↓En.l_lnfz19, ↓En.v_fz19, ↓En.st_lnfz19, ↓En.rt_lnfz19, ↓En.so_fz19, ↓En.so_ow19, ↓En.s1_19, ↓En.ch_ow19, ↓En.l_lnow20, ↓En.v_ow20, ↓En.st_lnow20, ↓En.rt_lnow20, ↓En.l_lnfz20, ↓En.v_fz20, ↓En.st_lnfz20, ↓En.rt_lnfz20, ↓En.so_fz20, ↓En.so_ow20, ↓En.s1_20, ↓En.ch_ow20, ↓En.l_lnow21, ↓En.v_ow21, ↓En.st_lnow21, ↓En.rt_lnow21, ↓En.l_lnfz21, ↓En.v_fz21, ↓En.st_lnfz21, ↓En.rt_lnfz21, ↓En.so_fz21, ↓En.so_ow21, ↓En.s1_21, ↓En.ch_ow21, ↓En.so_ln, ↓En.wop_some, ↓En.st_fz, ↓En.rt_fz, ↓En.rt_ow, ↓En.k_fz, ↓En.k_ow, ↓En.k_ln, ↓En.ls0, ↓En.ls1, ↓En.sa0, ↓En.sa1, ↓En.g_lit, ↓En.g_bin, ↓En.lift2_eq, ↓En.lift1_eq, ↓En.g_un, ↓En.g_not, ↓En.g_and, ↓En.g_or, ↓En.g_if, ↓En.g_toT, ↓En.wt_or, ↓En.wt_and, ↓En.wt_not, ↓En.wt_bin, ↓En.wt_un, ↓En.wt_cb, ↓En.wt_var, ↓En.wt_call, ↓En.wt_lit, ↓En.wt_meth, ↓En.wt_chain, ↓En.wt_comp, ↓En.wt_if, ↓En.g_args0, ↓En.g_args1, ↓En.g_with, ↓En.ca, ↓En.g_call, ↓En.tup_ok, ↓En.lst_ok, ↓En.g_cb, ↓En.g_meth, ↓En.is_str, ↓En.is_lst, ↓En.isl, ↓En.part0, ↓En.part1, ↓En.wint, ↓En.g_slice, ↓En.g_d01, ↓En.g_rev, ↓En.g_dic0, ↓En.g_fmt, ↓En.js0, ↓En.js_e, ↓En.js_S, ↓En.wstr, ↓En.g_chain, ↓En.chn, ↓En.g_app, ↓En.g_ext, ↓En.wlst, ↓En.g_pop, ↓En.g_pro, ↓En.pro, ↓En.to_, ↓En.fz0, ↓En.fzF, ↓En.fzO, ↓En.fzN, ↓En.g_said, ↓En.t_name, ↓En.ta0, ↓En.taF, ↓En.taO, ↓En.gs0, ↓En.gs1, ↓En.t_tup, ↓En.wtup, ↓En.t_sub, ↓En.s_seq, ↓En.s_next, ↓En.s_cont, ↓En.s_drop, ↓En.s_ret, ↓En.s_retn, ↓En.s_if, ↓En.s_set, ↓En.s_asg, ↓En.s_par, ↓En.s_parg, ↓En.set0, ↓En.set1, ↓En.held0, ↓En.held1, ↓En.ho_fz, ↓En.ho_ow, ↓En.ho_ln, ↓En.s_raise, ↓En.s_raiset, ↓En.s_for, ↓En.i_seq, ↓En.it_lst, ↓En.it_tup, ↓En.it_str, ↓En.wrg, ↓En.i_rng1, ↓En.i_rng2, ↓En.cm, ↓En.g_comp, ↓En.t_yes, ↓En.fo_fz, ↓En.fo_ow, ↓En.s_loop, ↓En.q_add, ↓En.q_sub, ↓En.q_div, ↓En.q_mod, ↓En.q_pow, ↓En.q_lt, ↓En.q_le, ↓En.q_gt, ↓En.q_ge, ↓En.q_eqi, ↓En.q_nei, ↓En.q_is_non, ↓En.q_isn_non, ↓En.q_is_bl, ↓En.q_isn_bl, ↓En.q_is_int, ↓En.q_isn_int, ↓En.q_is_str, ↓En.q_isn_str, ↓En.q_is_tup, ↓En.q_isn_tup, ↓En.q_is_lst, ↓En.q_isn_lst, ↓En.q_is_dic, ↓En.q_isn_dic, ↓En.q_is_obj, ↓En.q_isn_obj, ↓En.q_eqb, ↓En.q_neb, ↓En.q_not, ↓En.q_neg, ↓En.q_abs, ↓En.q_max, ↓En.q_min, ↓En.q_lenl, ↓En.q_lent, ↓En.q_lenc, ↓En.q_listl, ↓En.q_listt, ↓En.q_tupl, ↓En.q_tupt, ↓En.q_revl, ↓En.q_revt, ↓En.q_sll, ↓En.q_slt, ↓En.q_int, ↓En.q_intb, ↓En.q_strs, ↓En.q_atl0, ↓En.q_att0, ↓En.q_atl1, ↓En.q_att1, ↓En.q_atl2, ↓En.q_att2, ↓En.q_atl3, ↓En.q_att3, ↓En.q_atl4, ↓En.q_att4, ↓En.q_atl5, ↓En.q_att5, ↓En.q_atl6, ↓En.q_att6, ↓En.q_atl7, ↓En.q_att7, ↓En.tr_bl, ↓En.tr_int, ↓En.tr_non, ↓En.tr_tup, ↓En.tr_lst, ↓En.no0, ↓En.no1, ↓En.wp0, ↓En.wp1, ↓En.bk0, ↓En.bk1, ↓En.no_no0, ↓En.no_fz0, ↓En.gt0, ↓En.no_no1, ↓En.no_fz1, ↓En.gt1, ↓En.no_no2, ↓En.no_fz2, ↓En.gt2, ↓En.no_no3, ↓En.no_fz3, ↓En.gt3, ↓En.no_no4, ↓En.no_fz4, ↓En.gt4, ↓En.no_no5, ↓En.no_fz5, ↓En.gt5, ↓En.no_no6, ↓En.no_fz6, ↓En.gt6, ↓En.no_no7, ↓En.no_fz7, ↓En.gt7, ↓En.no_no8, ↓En.no_fz8, ↓En.gt8, ↓En.no_no9, ↓En.no_fz9, ↓En.gt9, ↓En.no_no10, ↓En.no_fz10, ↓En.gt10, ↓En.no_no11, ↓En.no_fz11, ↓En.gt11, ↓En.no_no12, ↓En.no_fz12, ↓En.gt12, ↓En.no_no13, ↓En.no_fz13, ↓En.gt13, ↓En.no_no14, ↓En.no_fz14, ↓En.gt14, ↓En.no_no15, ↓En.no_fz15, ↓En.gt15, ↓En.no_no16, ↓En.no_fz16, ↓En.gt16, ↓En.no_no17, ↓En.no_fz17, ↓En.gt17, ↓En.no_no18, ↓En.no_fz18, ↓En.gt18, ↓En.no_no19, ↓En.no_fz19, ↓En.gt19, ↓En.no_no20, ↓En.no_fz20, ↓En.gt20, ↓En.no_no21, ↓En.no_fz21, ↓En.gt21, ↓En.wCp0, ↓En.c_step, ↓En.c_one, ↓En.ap_no, ↓En.ap0, ↓En.ap1, ↓En.ap2, ↓En.ap3, ↓En.ap4, ↓En.ap5, ↓En.ap6, ↓En.ap7, ↓En.ap8, ↓En.ap9, ↓En.q_all, ↓En.q_any, ↓En.bls0, ↓En.bls1, ↓En.isi_non_bool, ↓En.isi_non_int, ↓En.isi_non_str, ↓En.isi_non_tuple, ↓En.isi_non_list, ↓En.isi_non_dict, ↓En.isi_bl_bool, ↓En.isi_bl_int, ↓En.isi_bl_str, ↓En.isi_bl_tuple, ↓En.isi_bl_list, ↓En.isi_bl_dict, ↓En.isi_int_bool, ↓En.isi_int_int, ↓En.isi_int_str, ↓En.isi_int_tuple, ↓En.isi_int_list, ↓En.isi_int_dict, ↓En.isi_str_bool, ↓En.isi_str_int, ↓En.isi_str_str, ↓En.isi_str_tuple, ↓En.isi_str_list, ↓En.isi_str_dict, ↓En.isi_tup_bool, ↓En.isi_tup_int, ↓En.isi_tup_str, ↓En.isi_tup_tuple, ↓En.isi_tup_list, ↓En.isi_tup_dict, ↓En.isi_lst_bool, ↓En.isi_lst_int, ↓En.isi_lst_str, ↓En.isi_lst_tuple, ↓En.isi_lst_list, ↓En.isi_lst_dict, ↓En.isi_dic_bool, ↓En.isi_dic_int, ↓En.isi_dic_str, ↓En.isi_dic_tuple, ↓En.isi_dic_list, ↓En.isi_dic_dict, ↓En.isi_scr_bool, ↓En.isi_scr_int, ↓En.isi_scr_str, ↓En.isi_scr_tuple, ↓En.isi_scr_list, ↓En.isi_scr_dict, reduceCtorEq, List.cons.injEq, Nat.reduceEqDiff, and_true, true_and, and_false, false_and, Int.cast_ofNat_Int, List.length_cons, List.length_nil, Nat.reduceAdd, Nat.reduceLeDiff, Nat.zero_add, Nat.reduceLT, Int.reduceLT, Int.reduceLE, Int.reducePow, Int.reduceToNat, Int.reduceNeg, Int.reduceAdd, Int.reduceSub, Int.reduceMul, Nat.reducePow, Int.reduceEq, Int.reduceBNe, decide_true, decide_false, Bool.not_true, Bool.not_false, beq_self_eq_true, Bool.true_beq, Bool.false_beq, En.cndP, En.cndQ, En.cndN, gt_iff_lt, if_true, if_false] | skip)
local macro_rules | `(tactic| walk_at "start") => `(tactic| (rw [En.wF_run]; simp only [List.map_cons, List.map_nil, List.cons_append, List.nil_append, List.length_cons, List.length_nil, Nat.reduceAdd, Nat.reduceSub, List.replicate_succ, List.replicate_zero]))
local macro_rules | `(tactic| walk_at "if") => `(tactic| (refine En.cnd_if (fun _ => ?_) (fun _ => ?_) <;> walk_at "run"))
namespace Lk
open PySem PySem.Spec PyProof.Rows L2 Fw Wk En Tx Rp
variable {st : List Cell} {s : S} {sl : List Sl} {K : RV → S → Prop} {E : Ex → S → Prop}
theorem eq_wF {r : FR} {x : RV} (h : ∀ (K : RV → List Cell → Prop) (E : Ex → List Cell → Prop), K x st → wF r K E) (hx : ∀ i, x ≠ .ln i) : r = .ok x st := by
  have q := h (fun y z => y = x ∧ z = st) (fun _ _ => False) ⟨rfl, rfl⟩
  cases r with
  | ok y z => cases y with
    | fz d => obtain ⟨rfl, rfl⟩ := q; rfl
    | ow d => obtain ⟨rfl, rfl⟩ := q; rfl
    | ln i => exact q.elim
  | ex y z => exact q.elim
  | bad => exact q.elim
theorem v_isE {a : Nat} {dd : Option Nat} {b : Bool} {e : D} (h : excIs a dd e = true) : wR (gIsE a dd 0 b ⟨.fz e :: sl, st⟩) K E = K (.fz (.bl b)) ⟨.fz e :: sl, st⟩ := by
  show wR (if excIs a dd e = true then _ else _) K E = _
  rw [if_pos h]; rfl
theorem exc_is {a : Nat} {dd : Option Nat} {fs : List (Str × D)} : excIs a dd (excD a dd fs) = true := by
  cases dd with
  | none => show (true && a == a) = true; simp
  | some d => show (a == a && some d == some d) = true; simp
def boolsAt (k : Nat) : List D := (List.range 17).map fun i => .bl (i == k)
local macro_rules | `(tactic| walk_at "run") => `(tactic| first | simp -dsimp -implicitDefEqProofs only [↓En.cndP, ↓En.cndQ, ↓En.cndN, ↓En.l_non, ↓En.l_bl, ↓En.l_int, ↓En.l_str, ↓En.l_tup, ↓En.l_lst, ↓En.l_dic, ↓En.l_scr, ↓En.l_ty, ↓En.l_exc, ↓En.l_any, ↓En.l_ow, ↓En.l_lnow0, ↓En.v_ow0, ↓En.st_lnow0, ↓En.rt_lnow0, ↓En.l_lnfz0, ↓En.v_fz0, ↓En.st_lnfz0, ↓En.rt_lnfz0, ↓En.so_fz0, ↓En.so_ow0, ↓En.s1_0, ↓En.ch_ow0, ↓En.l_lnow1, ↓En.v_ow1, ↓En.st_lnow1, ↓En.rt_lnow1, ↓En.l_lnfz1, ↓En.v_fz1, ↓En.st_lnfz1, ↓En.rt_lnfz1, ↓En.so_fz1, ↓En.so_ow1, ↓En.s1_1, ↓En.ch_ow1, ↓En.l_lnow2, ↓En.v_ow2, ↓En.st_lnow2, ↓En.rt_lnow2, ↓En.l_lnfz2, ↓En.v_fz2, ↓En.st_lnfz2, ↓En.rt_lnfz2, ↓En.so_fz2, ↓En.so_ow2, ↓En.s1_2, ↓En.ch_ow2, ↓En.l_lnow3, ↓En.v_ow3, ↓En.st_lnow3, ↓En.rt_lnow3, ↓En.l_lnfz3, ↓En.v_fz3, ↓En.st_lnfz3, ↓En.rt_lnfz3, ↓En.so_fz3, ↓En.so_ow3, ↓En.s1_3, ↓En.ch_ow3, ↓En.l_lnow4, ↓En.v_ow4, ↓En.st_lnow4, ↓En.rt_lnow4, ↓En.l_lnfz4, ↓En.v_fz4, ↓En.st_lnfz4, ↓En.rt_lnfz4, ↓En.so_fz4, ↓En.so_ow4, ↓En.s1_4, ↓En.ch_ow4, ↓En.l_lnow5, ↓En.v_ow5, ↓En.st_lnow5, ↓En.rt_lnow5, ↓En.l_lnfz5, ↓En.v_fz5, ↓En.st_lnfz5, ↓En.rt_lnfz5, ↓En.so_fz5, ↓En.so_ow5, ↓En.s1_5, ↓En.ch_ow5, ↓En.l_lnow6, ↓En.v_ow6, ↓En.st_lnow6, ↓En.rt_lnow6, ↓En.l_lnfz6, ↓En.v_fz6, ↓En.st_lnfz6, ↓En.rt_lnfz6, ↓En.so_fz6, ↓En.so_ow6, ↓En.s1_6, ↓En.ch_ow6, ↓En.l_lnow7, ↓En.v_ow7, ↓En.st_lnow7, ↓En.rt_lnow7, ↓En.l_lnfz7, ↓En.v_fz7, ↓En.st_lnfz7, ↓En.rt_lnfz7, ↓En.so_fz7, ↓En.so_ow7, ↓En.s1_7, ↓En.ch_ow7, ↓En.l_lnow8, ↓En.v_ow8, ↓En.st_lnow8, ↓En.rt_lnow8, ↓En.l_lnfz8, ↓En.v_fz8, ↓En.st_lnfz8, ↓En.rt_lnfz8, ↓En.so_fz8, ↓En.so_ow8, ↓En.s1_8, ↓En.ch_ow8, ↓En.l_lnow9, ↓En.v_ow9, ↓En.st_lnow9, ↓En.rt_lnow9, ↓En.l_lnfz9, ↓En.v_fz9, ↓En.st_lnfz9, ↓En.rt_lnfz9, ↓En.so_fz9, ↓En.so_ow9, ↓En.s1_9, ↓En.ch_ow9, ↓En.l_lnow10, ↓En.v_ow10, ↓En.st_lnow10, ↓En.rt_lnow10, ↓En.l_lnfz10, ↓En.v_fz10, ↓En.st_lnfz10, ↓En.rt_lnfz10, ↓En.so_fz10, ↓En.so_ow10, ↓En.s1_10, ↓En.ch_ow10, ↓En.l_lnow11, ↓En.v_ow11, ↓En.st_lnow11, ↓En.rt_lnow11, ↓En.l_lnfz11, ↓En.v_fz11, ↓En.st_lnfz11, ↓En.rt_lnfz11, ↓En.so_fz11, ↓En.so_ow11, ↓En.s1_11, ↓En.ch_ow11, ↓En.l_lnow12, ↓En.v_ow12, ↓En.st_lnow12, ↓En.rt_lnow12, ↓En.l_lnfz12, ↓En.v_fz12, ↓En.st_lnfz12, ↓En.rt_lnfz12, ↓En.so_fz12, ↓En.so_ow12, ↓En.s1_12, ↓En.ch_ow12, ↓En.l_lnow13, ↓En.v_ow13, ↓En.st_lnow13, ↓En.rt_lnow13, ↓En.l_lnfz13, ↓En.v_fz13, ↓En.st_lnfz13, ↓En.rt_lnfz13, ↓En.so_fz13, ↓En.so_ow13, ↓En.s1_13, ↓En.ch_ow13, ↓En.l_lnow14, ↓En.v_ow14, ↓En.st_lnow14, ↓En.rt_lnow14, ↓En.l_lnfz14, ↓En.v_fz14, ↓En.st_lnfz14, ↓En.rt_lnfz14, ↓En.so_fz14, ↓En.so_ow14, ↓En.s1_14, ↓En.ch_ow14, ↓En.l_lnow15, ↓En.v_ow15, ↓En.st_lnow15, ↓En.rt_lnow15, ↓En.l_lnfz15, ↓En.v_fz15, ↓En.st_lnfz15, ↓En.rt_lnfz15, ↓En.so_fz15, ↓En.so_ow15, ↓En.s1_15, ↓En.ch_ow15, ↓En.l_lnow16, ↓En.v_ow16, ↓En.st_lnow16, ↓En.rt_lnow16, ↓En.l_lnfz16, ↓En.v_fz16, ↓En.st_lnfz16, ↓En.rt_lnfz16, ↓En.so_fz16, ↓En.so_ow16, ↓En.s1_16, ↓En.ch_ow16, ↓En.l_lnow17, ↓En.v_ow17, ↓En.st_lnow17, ↓En.rt_lnow17, ↓En.l_lnfz17, ↓En.v_fz17, ↓En.st_lnfz17, ↓En.rt_lnfz17, ↓En.so_fz17, ↓En.so_ow17, ↓En.s1_17, ↓En.ch_ow17, ↓En.l_lnow18, ↓En.v_ow18, ↓En.st_lnow18, ↓En.rt_lnow18, ↓En.l_lnfz18, ↓En.v_fz18, ↓En.st_lnfz18, ↓En.rt_lnfz18, ↓En.so_fz18, ↓En.so_ow18, ↓En.s1_18, ↓En.ch_ow18, ↓En.l_lnow19, ↓En.v_ow19, ↓En.st_lnow19, ↓En.rt_lnow19, ↓En.l_lnfz19, ↓En.v_fz19, ↓En.st_lnfz19, ↓En.rt_lnfz19, ↓En.so_fz19, ↓En.so_ow19, ↓En.s1_19, ↓En.ch_ow19, ↓En.l_lnow20, ↓En.v_ow20, ↓En.st_lnow20, ↓En.rt_lnow20, ↓En.l_lnfz20, ↓En.v_fz20, ↓En.st_lnfz20, ↓En.rt_lnfz20, ↓En.so_fz20, ↓En.so_ow20, ↓En.s1_20, ↓En.ch_ow20, ↓En.l_lnow21, ↓En.v_ow21, ↓En.st_lnow21, ↓En.rt_lnow21, ↓En.l_lnfz21, ↓En.v_fz21, ↓En.st_lnfz21, ↓En.rt_lnfz21, ↓En.so_fz21, ↓En.so_ow21, ↓En.s1_21, ↓En.ch_ow21, ↓En.so_ln, ↓En.wop_some, ↓En.st_fz, ↓En.rt_fz, ↓En.rt_ow, ↓En.k_fz, ↓En.k_ow, ↓En.k_ln, ↓En.ls0, ↓En.ls1, ↓En.sa0, ↓En.sa1, ↓En.g_lit, ↓En.g_bin, ↓En.lift2_eq, ↓En.lift1_eq, ↓En.g_un, ↓En.g_not, ↓En.g_and, ↓En.g_or, ↓En.g_if, ↓En.g_toT, ↓En.wt_or, ↓En.wt_and, ↓En.wt_not, ↓En.wt_bin, ↓En.wt_un, ↓En.wt_cb, ↓En.wt_var, ↓En.wt_call, ↓En.wt_lit, ↓En.wt_meth, ↓En.wt_chain, ↓En.wt_comp, ↓En.wt_if, ↓En.g_args0, ↓En.g_args1, ↓En.g_with, ↓En.ca, ↓En.g_call, ↓En.tup_ok, ↓En.lst_ok, ↓En.g_cb, ↓En.g_meth, ↓En.is_str, ↓En.is_lst, ↓En.isl, ↓En.part0, ↓En.part1, ↓En.wint, ↓En.g_slice, ↓En.g_d01, ↓En.g_rev, ↓En.g_dic0, ↓En.g_fmt, ↓En.js0, ↓En.js_e, ↓En.js_S, ↓En.wstr, ↓En.g_chain, ↓En.chn, ↓En.g_app, ↓En.g_ext, ↓En.wlst, ↓En.g_pop, ↓En.g_pro, ↓En.pro, ↓En.to_, ↓En.fz0, ↓En.fzF, ↓En.fzO, ↓En.fzN, ↓En.g_said, ↓En.t_name, ↓En.ta0, ↓En.taF, ↓En.taO, ↓En.gs0, ↓En.gs1, ↓En.t_tup, ↓En.wtup, ↓En.t_sub, ↓En.s_seq, ↓En.s_next, ↓En.s_cont, ↓En.s_drop, ↓En.s_ret, ↓En.s_retn, ↓En.s_if, ↓En.s_set, ↓En.s_asg, ↓En.s_par, ↓En.s_parg, ↓En.set0, ↓En.set1, ↓En.held0, ↓En.held1, ↓En.ho_fz, ↓En.ho_ow, ↓En.ho_ln, ↓En.s_raise, ↓En.s_raiset, ↓En.s_for, ↓En.i_seq, ↓En.it_lst, ↓En.it_tup, ↓En.it_str, ↓En.wrg, ↓En.i_rng1, ↓En.i_rng2, ↓En.cm, ↓En.g_comp, ↓En.t_yes, ↓En.fo_fz, ↓En.fo_ow, ↓En.s_loop, ↓En.q_add, ↓En.q_sub, ↓En.q_div, ↓En.q_mod, ↓En.q_pow, ↓En.q_lt, ↓En.q_le, ↓En.q_gt, ↓En.q_ge, ↓En.q_eqi, ↓En.q_nei, ↓En.q_is_non, ↓En.q_isn_non, ↓En.q_is_bl, ↓En.q_isn_bl, ↓En.q_is_int, ↓En.q_isn_int, ↓En.q_is_str, ↓En.q_isn_str, ↓En.q_is_tup, ↓En.q_isn_tup, ↓En.q_is_lst, ↓En.q_isn_lst, ↓En.q_is_dic, ↓En.q_isn_dic, ↓En.q_is_obj, ↓En.q_isn_obj, ↓En.q_eqb, ↓En.q_neb, ↓En.q_not, ↓En.q_neg, ↓En.q_abs, ↓En.q_max, ↓En.q_min, ↓En.q_lenl, ↓En.q_lent, ↓En.q_lenc, ↓En.q_listl, ↓En.q_listt, ↓En.q_tupl, ↓En.q_tupt, ↓En.q_revl, ↓En.q_revt, ↓En.q_sll, ↓En.q_slt, ↓En.q_int, ↓En.q_intb, ↓En.q_strs, ↓En.q_atl0, ↓En.q_att0, ↓En.q_atl1, ↓En.q_att1, ↓En.q_atl2, ↓En.q_att2, ↓En.q_atl3, ↓En.q_att3, ↓En.q_atl4, ↓En.q_att4, ↓En.q_atl5, ↓En.q_att5, ↓En.q_atl6, ↓En.q_att6, ↓En.q_atl7, ↓En.q_att7, ↓En.tr_bl, ↓En.tr_int, ↓En.tr_non, ↓En.tr_tup, ↓En.tr_lst, ↓En.no0, ↓En.no1, ↓En.wp0, ↓En.wp1, ↓En.bk0, ↓En.bk1, ↓En.no_no0, ↓En.no_fz0, ↓En.gt0, ↓En.no_no1, ↓En.no_fz1, ↓En.gt1, ↓En.no_no2, ↓En.no_fz2, ↓En.gt2, ↓En.no_no3, ↓En.no_fz3, ↓En.gt3, ↓En.no_no4, ↓En.no_fz4, ↓En.gt4, ↓En.no_no5, ↓En.no_fz5, ↓En.gt5, ↓En.no_no6, ↓En.no_fz6, ↓En.gt6, ↓En.no_no7, ↓En.no_fz7, ↓En.gt7, ↓En.no_no8, ↓En.no_fz8, ↓En.gt8, ↓En.no_no9, ↓En.no_fz9, ↓En.gt9, ↓En.no_no10, ↓En.no_fz10, ↓En.gt10, ↓En.no_no11, ↓En.no_fz11, ↓En.gt11, ↓En.no_no12, ↓En.no_fz12, ↓En.gt12, ↓En.no_no13, ↓En.no_fz13, ↓En.gt13, ↓En.no_no14, ↓En.no_fz14, ↓En.gt14, ↓En.no_no15, ↓En.no_fz15, ↓En.gt15, ↓En.no_no16, ↓En.no_fz16, ↓En.gt16, ↓En.no_no17, ↓En.no_fz17, ↓En.gt17, ↓En.no_no18, ↓En.no_fz18, ↓En.gt18, ↓En.no_no19, ↓En.no_fz19, ↓En.gt19, ↓En.no_no20, ↓En.no_fz20, ↓En.gt20, ↓En.no_no21, ↓En.no_fz21, ↓En.gt21, ↓En.wCp0, ↓En.c_step, ↓En.c_one, ↓En.ap_no, ↓En.ap0, ↓En.ap1, ↓En.ap2, ↓En.ap3, ↓En.ap4, ↓En.ap5, ↓En.ap6, ↓En.ap7, ↓En.ap8, ↓En.ap9, ↓En.q_all, ↓En.q_any, ↓En.bls0, ↓En.bls1, ↓En.isi_non_bool, ↓En.isi_non_int, ↓En.isi_non_str, ↓En.isi_non_tuple, ↓En.isi_non_list, ↓En.isi_non_dict, ↓En.isi_bl_bool, ↓En.isi_bl_int, ↓En.isi_bl_str, ↓En.isi_bl_tuple, ↓En.isi_bl_list, ↓En.isi_bl_dict, ↓En.isi_int_bool, ↓En.isi_int_int, ↓En.isi_int_str, ↓En.isi_int_tuple, ↓En.isi_int_list, ↓En.isi_int_dict, ↓En.isi_str_bool, ↓En.isi_str_int, ↓En.isi_str_str, ↓En.isi_str_tuple, ↓En.isi_str_list, ↓En.isi_str_dict, ↓En.isi_tup_bool, ↓En.isi_tup_int, ↓En.isi_tup_str, ↓En.isi_tup_tuple, ↓En.isi_tup_list, ↓En.isi_tup_dict, ↓En.isi_lst_bool, ↓En.isi_lst_int, ↓En.isi_lst_str, ↓En.isi_lst_tuple, ↓En.isi_lst_list, ↓En.isi_lst_dict, ↓En.isi_dic_bool, ↓En.isi_dic_int, ↓En.isi_dic_str, ↓En.isi_dic_tuple, ↓En.isi_dic_list, ↓En.isi_dic_dict, ↓En.isi_scr_bool, ↓En.isi_scr_int, ↓En.isi_scr_str, ↓En.isi_scr_tuple, ↓En.isi_scr_list, ↓En.isi_scr_dict, reduceCtorEq, List.cons.injEq, Nat.reduceEqDiff, and_true, true_and, and_false, false_and, Int.cast_ofNat_Int, List.length_cons, List.length_nil, Nat.reduceAdd, Nat.reduceLeDiff, Nat.zero_add, Nat.reduceLT, Int.reduceLT, Int.reduceLE, Int.reducePow, Int.reduceToNat, Int.reduceNeg, Int.reduceAdd, Int.reduceSub, Int.reduceMul, Nat.reducePow, Int.reduceEq, Int.reduceBNe, decide_true, decide_false, Bool.not_true, Bool.not_false, beq_self_eq_true, Bool.true_beq, Bool.false_beq, En.cndP, En.cndQ, En.cndN, gt_iff_lt, if_true, if_false, ↓Lk.v_isE, Lk.exc_is] | skip)
theorem marks_at {C : Str} {a : Nat} {dd : Option Nat} {fs : List (Str × D)} {k : Nat} (hk : clsN.map (fun c => D.bl (saidT C c)) = boolsAt k) : f__law_marks_of (saidT C) dd a [excD a dd fs] st = .ok (.ow (.lst (boolsAt k))) st := by
  refine eq_wF (fun K E h => ?_) (fun i z => by cases z)
  unfold f__law_marks_of g__law_marks_of
  walk_at "start"
  walk_at "run"
  rw [q_lcat (by simp)]
  walk_at "run"
  rw [q_lcat (by simp)]
  walk_at "run"
  rw [q_lcat (by simp)]
  walk_at "run"
  rw [q_lcat (by simp)]
  walk_at "run"
  rw [← hk] at h
  exact h
theorem bools_count {k : Nat} (h : k < 17) : countD (.lst (boolsAt k)) [.bl true] = .val (.int 1) := by
  have e : (List.range 17).all (fun k => match countD (.lst (boolsAt k)) [.bl true] with | .val (.int i) => i == 1 | _ => false) = true := by kernel_rfl
  have := List.all_eq_true.mp e k (List.mem_range.mpr h)
  split at this
  · next i q => rw [q, eq_of_beq this]
  · cases this
theorem bools_index {k : Nat} (h : k < 17) : indexD (.lst (boolsAt k)) [.bl true] = .val (.int k) := by
  have e : (List.range 17).all (fun k => match indexD (.lst (boolsAt k)) [.bl true] with | .val (.int i) => i == (k : Int) | _ => false) = true := by kernel_rfl
  have := List.all_eq_true.mp e k (List.mem_range.mpr h)
  split at this
  · next i q => rw [q, eq_of_beq this]
  · cases this
def wordsL : List D := [.str "net", .str "case", .str "shut", .str "place", .str "joint", .str "pipe", .str "plan", .str "levels", .str "readings", .str "fraction", .str "amount", .str "meters", .str "tariff", .str "now", .str "deed", .str "line", .str "text"]
theorem wM {s : S} {K : RV → S → Prop} {f : D → List D → Out} {d : D} {ds : List D} {x : D} (h : f d ds = .val x) : wO (f d ds) s K = K (.fz x) s := by rw [h]; rfl
theorem word_at {C : Str} {a : Nat} {dd : Option Nat} {fs : List (Str × D)} {k : Nat} {w : Str} (hk : clsN.map (fun c => D.bl (saidT C c)) = boolsAt k) (h17 : k < 16) (hw : wordsL[k]? = some (.str w)) (ht : eqP (.str w) (.str "text") = some false) : f__law_word (saidT C) dd a [excD a dd fs] st = .ok (.fz (.tup [.str w])) st := by
  refine eq_wF (fun K E h => ?_) (fun i z => by cases z)
  unfold f__law_word g__law_word
  walk_at "start"
  walk_at "run"
  rw [marks_at hk]
  show wF (.ok (.ow _) _) _ _
  unfold wF
  dsimp only
  walk_at "run"
  rw [wM (bools_count (by omega))]
  walk_at "run"
  rw [q_lcat (by simp)]
  walk_at "run"
  rw [wM (bools_index (by omega))]
  walk_at "run"
  have ha : L2.atI wordsL (k : Int) = some (.str w) := by
    obtain ⟨x, e, e2⟩ := atI_nat (a := D) (xs := wordsL) (i := (k : Int)) (by omega) (by show (k : Int) < 17; omega)
    rw [Int.toNat_natCast, hw] at e2
    cases e2; exact e
  refine Eq.mpr (q_at ha) ?_
  walk_at "run"
  rw [q_eqP ht]
  walk_at "run"
  exact h
theorem v_xd {a dd : Nat} {d : D} {f : Str} : wR (gXd a (some dd) 0 f ⟨.fz (excD a (some dd) [(f, d)]) :: sl, st⟩) K E = K (.fz d) ⟨.fz (excD a (some dd) [(f, d)]) :: sl, st⟩ := by
  show wR (if a = a ∧ dd = dd then (match List.lookup f [(f, d)] with | some d => R.ok (.fz d) _ | none => .bad) else .bad) K E = _
  rw [if_pos ⟨rfl, rfl⟩, List.lookup_cons_self]; rfl
theorem word_text {a : Nat} {dd : Nat} {n : Int} : f__law_word (saidT "NoText") (some dd) a [excD a (some dd) [("line", .int n)]] st = .ok (.fz (.tup [.str "text", .int n])) st := by
  refine eq_wF (fun K E h => ?_) (fun i z => by cases z)
  unfold f__law_word g__law_word
  walk_at "start"
  walk_at "run"
  rw [marks_at (k := 16) (by kernel_rfl)]
  show wF (.ok (.ow _) _) _ _
  unfold wF
  dsimp only
  walk_at "run"
  rw [wM (bools_count (by omega))]
  walk_at "run"
  rw [q_lcat (by simp)]
  walk_at "run"
  rw [wM (bools_index (by omega))]
  walk_at "run"
  refine Eq.mpr (q_at (xs := wordsL) (d := .str "text") (i := ((16 : Nat) : Int)) (by rfl)) ?_
  walk_at "run"
  rw [q_eqP (k := true) (by kernel_rfl)]
  walk_at "run"
  rw [v_xd]
  walk_at "run"
  exact h
/-- the word of a NoText -/
def wordT (x : Ex) : Option D := match x.fs with
  | [(f, .int n)] => if x.cls = ("NoText" : Str) ∧ f = ("line" : Str) then some (.tup [.str "text", .int n]) else none
  | _ => none
theorem wordT_is {n : Int} : wordT ⟨"NoText", [("line", .int n)]⟩ = some (.tup [.str "text", .int n]) := by unfold wordT; exact if_pos ⟨rfl, rfl⟩
theorem hwordT : ∀ x d, wordT x = some d → (x.cls = "NoText") ∧ ∀ dd, (dd = none ↔ x.fs = []) → ∀ a st, f__law_word (saidT x.cls) dd a [excD a dd x.fs] st = .ok (.fz d) st := by
  intro x d h
  obtain ⟨c, fs⟩ := x
  unfold wordT at h
  dsimp only at h
  split at h
  · next f n =>
    split at h
    · next e =>
      obtain ⟨rfl, rfl⟩ := e
      cases h
      refine ⟨rfl, fun dd hdd a st => ?_⟩
      cases dd with
      | none => exact absurd (hdd.mp rfl) (by simp)
      | some d => exact word_text
    · cases h
  · cases h
theorem sd_text {n : Int} : wSd wordT K ⟨"NoText", [("line", .int n)]⟩ s = K (.fz (.tup [.str "text", .int n])) s := by
  unfold wSd; rw [wordT_is]
theorem sd_one {word : Ex → Option D} {C w : Str} (h : word ⟨C, []⟩ = some (.tup [.str w])) : wSd word K ⟨C, []⟩ s = K (.fz (.tup [.str w])) s := by
  unfold wSd; rw [h]
end Lk

set_option Elab.async false
set_option linter.all false
set_option maxRecDepth 100000
set_option maxHeartbeats 4000000
local macro_rules | `(tactic| walk_at "run") => `(tactic| first | simp -dsimp -implicitDefEqProofs only [↓En.cndP, ↓En.cndQ, ↓En.cndN, ↓En.l_non, ↓En.l_bl, ↓En.l_int, ↓En.l_str, ↓En.l_tup, ↓En.l_lst, ↓En.l_dic, ↓En.l_scr, ↓En.l_ty, ↓En.l_exc, ↓En.l_any, ↓En.l_ow, ↓En.l_lnow0, ↓En.v_ow0, ↓En.st_lnow0, ↓En.rt_lnow0, ↓En.l_lnfz0, ↓En.v_fz0, ↓En.st_lnfz0, ↓En.rt_lnfz0, ↓En.so_fz0, ↓En.so_ow0, ↓En.s1_0, ↓En.ch_ow0, ↓En.l_lnow1, ↓En.v_ow1, ↓En.st_lnow1, ↓En.rt_lnow1, ↓En.l_lnfz1, ↓En.v_fz1, ↓En.st_lnfz1, ↓En.rt_lnfz1, ↓En.so_fz1, ↓En.so_ow1, ↓En.s1_1, ↓En.ch_ow1, ↓En.l_lnow2, ↓En.v_ow2, ↓En.st_lnow2, ↓En.rt_lnow2, ↓En.l_lnfz2, ↓En.v_fz2, ↓En.st_lnfz2, ↓En.rt_lnfz2, ↓En.so_fz2, ↓En.so_ow2, ↓En.s1_2, ↓En.ch_ow2, ↓En.l_lnow3, ↓En.v_ow3, ↓En.st_lnow3, ↓En.rt_lnow3, ↓En.l_lnfz3, ↓En.v_fz3, ↓En.st_lnfz3, ↓En.rt_lnfz3, ↓En.so_fz3, ↓En.so_ow3, ↓En.s1_3, ↓En.ch_ow3, ↓En.l_lnow4, ↓En.v_ow4, ↓En.st_lnow4, ↓En.rt_lnow4, ↓En.l_lnfz4, ↓En.v_fz4, ↓En.st_lnfz4, ↓En.rt_lnfz4, ↓En.so_fz4, ↓En.so_ow4, ↓En.s1_4, ↓En.ch_ow4, ↓En.l_lnow5, ↓En.v_ow5, ↓En.st_lnow5, ↓En.rt_lnow5, ↓En.l_lnfz5, ↓En.v_fz5, ↓En.st_lnfz5, ↓En.rt_lnfz5, ↓En.so_fz5, ↓En.so_ow5, ↓En.s1_5, ↓En.ch_ow5, ↓En.l_lnow6, ↓En.v_ow6, ↓En.st_lnow6, ↓En.rt_lnow6, ↓En.l_lnfz6, ↓En.v_fz6, ↓En.st_lnfz6, ↓En.rt_lnfz6, ↓En.so_fz6, ↓En.so_ow6, ↓En.s1_6, ↓En.ch_ow6, ↓En.l_lnow7, ↓En.v_ow7, ↓En.st_lnow7, ↓En.rt_lnow7, ↓En.l_lnfz7, ↓En.v_fz7, ↓En.st_lnfz7, ↓En.rt_lnfz7, ↓En.so_fz7, ↓En.so_ow7, ↓En.s1_7, ↓En.ch_ow7, ↓En.l_lnow8, ↓En.v_ow8, ↓En.st_lnow8, ↓En.rt_lnow8, ↓En.l_lnfz8, ↓En.v_fz8, ↓En.st_lnfz8, ↓En.rt_lnfz8, ↓En.so_fz8, ↓En.so_ow8, ↓En.s1_8, ↓En.ch_ow8, ↓En.l_lnow9, ↓En.v_ow9, ↓En.st_lnow9, ↓En.rt_lnow9, ↓En.l_lnfz9, ↓En.v_fz9, ↓En.st_lnfz9, ↓En.rt_lnfz9, ↓En.so_fz9, ↓En.so_ow9, ↓En.s1_9, ↓En.ch_ow9, ↓En.l_lnow10, ↓En.v_ow10, ↓En.st_lnow10, ↓En.rt_lnow10, ↓En.l_lnfz10, ↓En.v_fz10, ↓En.st_lnfz10, ↓En.rt_lnfz10, ↓En.so_fz10, ↓En.so_ow10, ↓En.s1_10, ↓En.ch_ow10, ↓En.l_lnow11, ↓En.v_ow11, ↓En.st_lnow11, ↓En.rt_lnow11, ↓En.l_lnfz11, ↓En.v_fz11, ↓En.st_lnfz11, ↓En.rt_lnfz11, ↓En.so_fz11, ↓En.so_ow11, ↓En.s1_11, ↓En.ch_ow11, ↓En.l_lnow12, ↓En.v_ow12, ↓En.st_lnow12, ↓En.rt_lnow12, ↓En.l_lnfz12, ↓En.v_fz12, ↓En.st_lnfz12, ↓En.rt_lnfz12, ↓En.so_fz12, ↓En.so_ow12, ↓En.s1_12, ↓En.ch_ow12, ↓En.l_lnow13, ↓En.v_ow13, ↓En.st_lnow13, ↓En.rt_lnow13, ↓En.l_lnfz13, ↓En.v_fz13, ↓En.st_lnfz13, ↓En.rt_lnfz13, ↓En.so_fz13, ↓En.so_ow13, ↓En.s1_13, ↓En.ch_ow13, ↓En.l_lnow14, ↓En.v_ow14, ↓En.st_lnow14, ↓En.rt_lnow14, ↓En.l_lnfz14, ↓En.v_fz14, ↓En.st_lnfz14, ↓En.rt_lnfz14, ↓En.so_fz14, ↓En.so_ow14, ↓En.s1_14, ↓En.ch_ow14, ↓En.l_lnow15, ↓En.v_ow15, ↓En.st_lnow15, ↓En.rt_lnow15, ↓En.l_lnfz15, ↓En.v_fz15, ↓En.st_lnfz15, ↓En.rt_lnfz15, ↓En.so_fz15, ↓En.so_ow15, ↓En.s1_15, ↓En.ch_ow15, ↓En.l_lnow16, ↓En.v_ow16, ↓En.st_lnow16, ↓En.rt_lnow16, ↓En.l_lnfz16, ↓En.v_fz16, ↓En.st_lnfz16, ↓En.rt_lnfz16, ↓En.so_fz16, ↓En.so_ow16, ↓En.s1_16, ↓En.ch_ow16, ↓En.l_lnow17, ↓En.v_ow17, ↓En.st_lnow17, ↓En.rt_lnow17, ↓En.l_lnfz17, ↓En.v_fz17, ↓En.st_lnfz17, ↓En.rt_lnfz17, ↓En.so_fz17, ↓En.so_ow17, ↓En.s1_17, ↓En.ch_ow17, ↓En.l_lnow18, ↓En.v_ow18, ↓En.st_lnow18, ↓En.rt_lnow18, ↓En.l_lnfz18, ↓En.v_fz18, ↓En.st_lnfz18, ↓En.rt_lnfz18, ↓En.so_fz18, ↓En.so_ow18, ↓En.s1_18, ↓En.ch_ow18, ↓En.l_lnow19, ↓En.v_ow19, ↓En.st_lnow19, ↓En.rt_lnow19, ↓En.l_lnfz19, ↓En.v_fz19, ↓En.st_lnfz19, ↓En.rt_lnfz19, ↓En.so_fz19, ↓En.so_ow19, ↓En.s1_19, ↓En.ch_ow19, ↓En.l_lnow20, ↓En.v_ow20, ↓En.st_lnow20, ↓En.rt_lnow20, ↓En.l_lnfz20, ↓En.v_fz20, ↓En.st_lnfz20, ↓En.rt_lnfz20, ↓En.so_fz20, ↓En.so_ow20, ↓En.s1_20, ↓En.ch_ow20, ↓En.l_lnow21, ↓En.v_ow21, ↓En.st_lnow21, ↓En.rt_lnow21, ↓En.l_lnfz21, ↓En.v_fz21, ↓En.st_lnfz21, ↓En.rt_lnfz21, ↓En.so_fz21, ↓En.so_ow21, ↓En.s1_21, ↓En.ch_ow21, ↓En.so_ln, ↓En.wop_some, ↓En.st_fz, ↓En.rt_fz, ↓En.rt_ow, ↓En.k_fz, ↓En.k_ow, ↓En.k_ln, ↓En.ls0, ↓En.ls1, ↓En.sa0, ↓En.sa1, ↓En.g_lit, ↓En.g_bin, ↓En.lift2_eq, ↓En.lift1_eq, ↓En.g_un, ↓En.g_not, ↓En.g_and, ↓En.g_or, ↓En.g_if, ↓En.g_toT, ↓En.wt_or, ↓En.wt_and, ↓En.wt_not, ↓En.wt_bin, ↓En.wt_un, ↓En.wt_cb, ↓En.wt_var, ↓En.wt_call, ↓En.wt_lit, ↓En.wt_meth, ↓En.wt_chain, ↓En.wt_comp, ↓En.wt_if, ↓En.g_args0, ↓En.g_args1, ↓En.g_with, ↓En.ca, ↓En.g_call, ↓En.tup_ok, ↓En.lst_ok, ↓En.g_cb, ↓En.g_meth, ↓En.is_str, ↓En.is_lst, ↓En.isl, ↓En.part0, ↓En.part1, ↓En.wint, ↓En.g_slice, ↓En.g_d01, ↓En.g_rev, ↓En.g_dic0, ↓En.g_fmt, ↓En.js0, ↓En.js_e, ↓En.js_S, ↓En.wstr, ↓En.g_chain, ↓En.chn, ↓En.g_app, ↓En.g_ext, ↓En.wlst, ↓En.g_pop, ↓En.g_pro, ↓En.pro, ↓En.to_, ↓En.fz0, ↓En.fzF, ↓En.fzO, ↓En.fzN, ↓En.g_said, ↓En.t_name, ↓En.ta0, ↓En.taF, ↓En.taO, ↓En.gs0, ↓En.gs1, ↓En.t_tup, ↓En.wtup, ↓En.t_sub, ↓En.s_seq, ↓En.s_next, ↓En.s_cont, ↓En.s_drop, ↓En.s_ret, ↓En.s_retn, ↓En.s_if, ↓En.s_set, ↓En.s_asg, ↓En.s_par, ↓En.s_parg, ↓En.set0, ↓En.set1, ↓En.held0, ↓En.held1, ↓En.ho_fz, ↓En.ho_ow, ↓En.ho_ln, ↓En.s_raise, ↓En.s_raiset, ↓En.s_for, ↓En.i_seq, ↓En.it_lst, ↓En.it_tup, ↓En.it_str, ↓En.wrg, ↓En.i_rng1, ↓En.i_rng2, ↓En.cm, ↓En.g_comp, ↓En.t_yes, ↓En.fo_fz, ↓En.fo_ow, ↓En.s_loop, ↓En.q_add, ↓En.q_sub, ↓En.q_div, ↓En.q_mod, ↓En.q_pow, ↓En.q_lt, ↓En.q_le, ↓En.q_gt, ↓En.q_ge, ↓En.q_eqi, ↓En.q_nei, ↓En.q_is_non, ↓En.q_isn_non, ↓En.q_is_bl, ↓En.q_isn_bl, ↓En.q_is_int, ↓En.q_isn_int, ↓En.q_is_str, ↓En.q_isn_str, ↓En.q_is_tup, ↓En.q_isn_tup, ↓En.q_is_lst, ↓En.q_isn_lst, ↓En.q_is_dic, ↓En.q_isn_dic, ↓En.q_is_obj, ↓En.q_isn_obj, ↓En.q_eqb, ↓En.q_neb, ↓En.q_not, ↓En.q_neg, ↓En.q_abs, ↓En.q_max, ↓En.q_min, ↓En.q_lenl, ↓En.q_lent, ↓En.q_lenc, ↓En.q_listl, ↓En.q_listt, ↓En.q_tupl, ↓En.q_tupt, ↓En.q_revl, ↓En.q_revt, ↓En.q_sll, ↓En.q_slt, ↓En.q_int, ↓En.q_intb, ↓En.q_strs, ↓En.q_atl0, ↓En.q_att0, ↓En.q_atl1, ↓En.q_att1, ↓En.q_atl2, ↓En.q_att2, ↓En.q_atl3, ↓En.q_att3, ↓En.q_atl4, ↓En.q_att4, ↓En.q_atl5, ↓En.q_att5, ↓En.q_atl6, ↓En.q_att6, ↓En.q_atl7, ↓En.q_att7, ↓En.tr_bl, ↓En.tr_int, ↓En.tr_non, ↓En.tr_tup, ↓En.tr_lst, ↓En.no0, ↓En.no1, ↓En.wp0, ↓En.wp1, ↓En.bk0, ↓En.bk1, ↓En.no_no0, ↓En.no_fz0, ↓En.gt0, ↓En.no_no1, ↓En.no_fz1, ↓En.gt1, ↓En.no_no2, ↓En.no_fz2, ↓En.gt2, ↓En.no_no3, ↓En.no_fz3, ↓En.gt3, ↓En.no_no4, ↓En.no_fz4, ↓En.gt4, ↓En.no_no5, ↓En.no_fz5, ↓En.gt5, ↓En.no_no6, ↓En.no_fz6, ↓En.gt6, ↓En.no_no7, ↓En.no_fz7, ↓En.gt7, ↓En.no_no8, ↓En.no_fz8, ↓En.gt8, ↓En.no_no9, ↓En.no_fz9, ↓En.gt9, ↓En.no_no10, ↓En.no_fz10, ↓En.gt10, ↓En.no_no11, ↓En.no_fz11, ↓En.gt11, ↓En.no_no12, ↓En.no_fz12, ↓En.gt12, ↓En.no_no13, ↓En.no_fz13, ↓En.gt13, ↓En.no_no14, ↓En.no_fz14, ↓En.gt14, ↓En.no_no15, ↓En.no_fz15, ↓En.gt15, ↓En.no_no16, ↓En.no_fz16, ↓En.gt16, ↓En.no_no17, ↓En.no_fz17, ↓En.gt17, ↓En.no_no18, ↓En.no_fz18, ↓En.gt18, ↓En.no_no19, ↓En.no_fz19, ↓En.gt19, ↓En.no_no20, ↓En.no_fz20, ↓En.gt20, ↓En.no_no21, ↓En.no_fz21, ↓En.gt21, ↓En.wCp0, ↓En.c_step, ↓En.c_one, ↓En.ap_no, ↓En.ap0, ↓En.ap1, ↓En.ap2, ↓En.ap3, ↓En.ap4, ↓En.ap5, ↓En.ap6, ↓En.ap7, ↓En.ap8, ↓En.ap9, ↓En.q_all, ↓En.q_any, ↓En.bls0, ↓En.bls1, ↓En.isi_non_bool, ↓En.isi_non_int, ↓En.isi_non_str, ↓En.isi_non_tuple, ↓En.isi_non_list, ↓En.isi_non_dict, ↓En.isi_bl_bool, ↓En.isi_bl_int, ↓En.isi_bl_str, ↓En.isi_bl_tuple, ↓En.isi_bl_list, ↓En.isi_bl_dict, ↓En.isi_int_bool, ↓En.isi_int_int, ↓En.isi_int_str, ↓En.isi_int_tuple, ↓En.isi_int_list, ↓En.isi_int_dict, ↓En.isi_str_bool, ↓En.isi_str_int, ↓En.isi_str_str, ↓En.isi_str_tuple, ↓En.isi_str_list, ↓En.isi_str_dict, ↓En.isi_tup_bool, ↓En.isi_tup_int, ↓En.isi_tup_str, ↓En.isi_tup_tuple, ↓En.isi_tup_list, ↓En.isi_tup_dict, ↓En.isi_lst_bool, ↓En.isi_lst_int, ↓En.isi_lst_str, ↓En.isi_lst_tuple, ↓En.isi_lst_list, ↓En.isi_lst_dict, ↓En.isi_dic_bool, ↓En.isi_dic_int, ↓En.isi_dic_str, ↓En.isi_dic_tuple, ↓En.isi_dic_list, ↓En.isi_dic_dict, ↓En.isi_scr_bool, ↓En.isi_scr_int, ↓En.isi_scr_str, ↓En.isi_scr_tuple, ↓En.isi_scr_list, ↓En.isi_scr_dict, reduceCtorEq, List.cons.injEq, Nat.reduceEqDiff, and_true, true_and, and_false, false_and, Int.cast_ofNat_Int, List.length_cons, List.length_nil, Nat.reduceAdd, Nat.reduceLeDiff, Nat.zero_add, Nat.reduceLT, Int.reduceLT, Int.reduceLE, Int.reducePow, Int.reduceToNat, Int.reduceNeg, Int.reduceAdd, Int.reduceSub, Int.reduceMul, Nat.reducePow, Int.reduceEq, Int.reduceBNe, decide_true, decide_false, Bool.not_true, Bool.not_false, beq_self_eq_true, Bool.true_beq, Bool.false_beq, En.cndP, En.cndQ, En.cndN, gt_iff_lt, if_true, if_false, ↓Lk.l_drw] | skip)
local macro_rules | `(tactic| walk_at "start") => `(tactic| (rw [En.wF_run]; simp only [List.map_cons, List.map_nil, List.cons_append, List.nil_append, List.length_cons, List.length_nil, Nat.reduceAdd, Nat.reduceSub, List.replicate_succ, List.replicate_zero]))
local macro_rules | `(tactic| walk_at "if") => `(tactic| (refine En.cnd_if (fun _ => ?_) (fun _ => ?_) <;> walk_at "run"))
namespace Lk
open PySem PySem.Spec PyProof.Rows L2 Fw Wk En Tx Rp
variable {st : List Cell} {s : S} {K : RV → List Cell → Prop} {E : Ex → List Cell → Prop} {p : List Cell} {q : Dw}
theorem r_cell {ns : List Int} {k : Int} (h : 0 ≤ k) : ∃ z : Int, ∀ {K : RV → List Cell → Prop} {E : Ex → List Cell → Prop}, wF (f__law_cell_at [.scr ns, .int k] st) K E = K (.fz (.int z)) st := by
  by_cases c : k < ns.length
  · obtain ⟨z, e, _⟩ := atI_nat h c
    refine ⟨z, fun {K E} => wF_det fun K E hk => ?_⟩
    unfold f__law_cell_at g__law_cell_at
    walk_at "start"
    walk_at "run"
    rw [decide_eq_true c]
    walk_at "run"
    rw [q_atc e]
    walk_at "run"
    exact hk
  · refine ⟨0, fun {K E} => wF_det fun K E hk => ?_⟩
    unfold f__law_cell_at g__law_cell_at
    walk_at "start"
    walk_at "run"
    rw [decide_eq_false c]
    walk_at "run"
    exact hk
theorem w_state {ns : List Int} {k : Int} (h : 0 ≤ k) (hk : ∀ q : Dw, K (.ow (.lst [.int q.a, .int q.b])) st) : wF (f__law_state [.scr ns, .int k] st) K E := by
  obtain ⟨z, hz⟩ := r_cell (st := st) (ns := ns) h
  unfold f__law_state g__law_state
  walk_at "start"
  walk_at "run"
  rw [hz]
  walk_at "run"
  have := hk ⟨if z - 1000000000000000000 > 0 then z - 1000000000000000000 else 0, z % 2147483647, by split <;> omega, by omega, by omega⟩
  exact this
/-- a text that is read -/
def txs (d : D) : Prop := ∃ t : List Nat, d = .str (SX.S t) ∧ t.length ≤ 70 ∧ okT t
theorem shw_fr {t : List Nat} {a b : Int} (ht : t.length ≤ 70) (h : fracW t = some (a, b)) : a.natAbs < 2 ^ 250 ∧ b.natAbs < 2 ^ 250 := by
  have p70 : (10 : Nat) ^ 70 < 2 ^ 250 := by decide
  have go : ∀ neg u, u.length ≤ 70 → fracU t neg u = some (a, b) → a.natAbs < 2 ^ 250 ∧ b.natAbs < 2 ^ 250 := by
    intro neg u hu e
    have ck : ∀ {n d : Nat} {neg : Bool}, n < 10 ^ 70 → d < 10 ^ 70 → chk t (if neg = true then 0 - (n : Int) else n) d = some (a, b) → a.natAbs < 2 ^ 250 ∧ b.natAbs < 2 ^ 250 := by
      intro n d neg hn hd e
      unfold chk at e
      obtain ⟨_, e⟩ := Option.ite_none_right_eq_some.mp e
      injection e with e
      injection e with e1 e2
      rw [← e1, ← e2]
      constructor
      · split <;> omega
      · omega
    unfold fracU at e
    by_cases m : 47 ∈ u
    · obtain ⟨p, q, rfl, np⟩ := split_at m
      rw [show TL.par [47] [] (p ++ 47 :: q) = some (p, q) from SX.par_head q np] at e
      dsimp only at e
      have hl : p.length + q.length + 1 ≤ 70 := by simp at hu; omega
      cases e1 : numW p with
      | none => rw [e1] at e; exact absurd e (by simp)
      | some n =>
        cases e2 : numW q with
        | none => rw [e1, e2] at e; exact absurd e (by simp)
        | some d => rw [e1, e2] at e; exact ck (numW_lt e1 (by omega)) (numW_lt e2 (by omega)) e
    · rw [SX.par_head_none m] at e
      dsimp only at e
      cases e1 : numW u with
      | none => rw [e1] at e; exact absurd e (by simp)
      | some n => rw [e1] at e; exact ck (d := 1) (numW_lt e1 hu) (by decide) e
  unfold fracW at h
  split at h
  · exact go _ _ (by simp; omega) h
  · exact go _ _ ht h
theorem r_readO {d : D} (hd : okTy d = true) (hs : ∀ x, d ≠ .str x) : wF (f_read_fraction [d] st) K E = E ⟨"NoText", [("line", .int 0)]⟩ st := by
  refine wF_exc fun K E h => ?_
  unfold f_read_fraction g_read_fraction
  walk_at "start"
  cases d with
  | str x => exact absurd rfl (hs x)
  | obj _ => cases hd
  | ty _ => cases hd
  | exc _ => cases hd
  | exf _ _ _ => cases hd
  | _ => walk_at "run"; exact h
noncomputable def b1  : SX := (gSeq (gSet 6 (gCall f__law_fraction_text [(gCall f__law_lowest [(gCall f__law_take [(gVar 3), (gLit (.int 900))]), (gBin (lift2 (binD .Add)) (gLit (.int 1)) (gCall f__law_take [(gVar 3), (gLit (.int 90))]))])])) (gSeq (gSet 4 (gBin (lift2 (binD .Add)) (gVar 4) (gWith [(gVar 6), (gBin (lift2 (binD .Add)) (gLit (.str "-")) (gVar 6)), (gCall f__law_bent [(gVar 3), (gVar 6)]), (gCall f__law_bent [(gVar 3), (gCall f__law_bent [(gVar 3), (gBin (lift2 (binD .Add)) (gLit (.str "-")) (gVar 6))])])] lstK))) gNext))
noncomputable def b2 (word : Ex → Option D) : SX := (gSeq (gSet 7 (gCall f__law_read [(gVar 6)])) (gSeq (gIfS (gBin (lift2 (cmpD .NotEq)) (gCB reprD [(gSaid word (gCall f_read_fraction [(gVar 6)]))]) (gCB reprD [(gIf (gBin (lift2 (cmpD .Is)) (gVar 7) (gLit .non)) (gWith [(gLit (.str "text")), (gLit (.int 0))] tupK) (gWith [(gLit (.str "told")), (gVar 7)] tupK))])) (gSeq (gRet (gLit (.bl false))) gNext) gNext) gNext))
noncomputable def b3 (word : Ex → Option D) : SX := (gSeq (gIfS (gAnd (gNot (gCB isiD [(gVar 8), (gLit (.ty "str"))])) (gBin (lift2 (cmpD .NotEq)) (gSaid word (gCall f_read_fraction [(gVar 8)])) (gWith [(gLit (.str "text")), (gLit (.int 0))] tupK))) (gSeq (gRet (gLit (.bl false))) gNext) gNext) gNext)
theorem body2 {N : S → Prop} {TT : RV → S → Prop} {B C : S → Prop} {E : Ex → S → Prop} {e0 e2 e3 e5 : D} {fl ds : List D} {y6 y7 x8 : Sl} {d : D} (hd : txs d) (h8 : x8 = .no ∨ ∃ e, x8 = .fz e)
    (h : ∀ d6 d7, N ⟨[.fz e0, .ow (.lst fl), .fz e2, .fz e3, .fz (.lst ds), .fz e5, .fz d6, .fz d7, x8], p⟩) :
    wG (pName 6) (.fz d) ⟨[.fz e0, .ow (.lst fl), .fz e2, .fz e3, .fz (.lst ds), .fz e5, y6, y7, x8], p⟩ fun s1 => wS (b2 wordT s1) N TT B C E := by
  unfold b2
  obtain ⟨t, rfl, ht, ok⟩ := hd
  walk_at "run"
  rw [r_lread ht ok]
  walk_at "run"
  have go : ∀ (d1 : D) (x : Str), reprS d1 = some x → ok1 x → True := fun _ _ _ _ => trivial
  cases e : fracW t with
  | none =>
    rw [show frD none = D.non from rfl]
    obtain ⟨x, ex, okx⟩ := shw_repr (d := .tup [.str "text", .int 0]) (by kernel_rfl)
    rcases h8 with rfl | ⟨e8, rfl⟩
    · walk_at "run"
      rw [r_readN ht ok e]
      walk_at "run"
      rw [sd_text]
      walk_at "run"
      rw [q_repr ex]
      walk_at "run"
      rw [q_repr ex]
      walk_at "run"
      rw [q_neP (eqP_same (k := 0) (d := .str x) okx (by decide))]
      walk_at "run"
      exact h _ _
    · walk_at "run"
      rw [r_readN ht ok e]
      walk_at "run"
      rw [sd_text]
      walk_at "run"
      rw [q_repr ex]
      walk_at "run"
      rw [q_repr ex]
      walk_at "run"
      rw [q_neP (eqP_same (k := 0) (d := .str x) okx (by decide))]
      walk_at "run"
      exact h _ _
  | some ab =>
    obtain ⟨a, b⟩ := ab
    obtain ⟨ha, hb⟩ := shw_fr ht e
    rw [show frD (some (a, b)) = D.tup [.int a, .int b] from rfl]
    obtain ⟨x, ex, okx⟩ := shw_repr (d := .tup [.str "told", .tup [.int a, .int b]]) (by
      have e1 : PyData.strOk (Str.ofString "told") = true := by kernel_rfl
      have e2 : (Str.ofString "told").length ≤ 60 := by decide
      simp [shw, sm, nl, nd, ha, hb, e1, e2])
    rcases h8 with rfl | ⟨e8, rfl⟩
    · walk_at "run"
      rw [r_read ht ok e]
      walk_at "run"
      rw [q_repr ex]
      walk_at "run"
      rw [q_repr ex]
      walk_at "run"
      rw [q_neP (eqP_same (k := 0) (d := .str x) okx (by decide))]
      walk_at "run"
      exact h _ _
    · walk_at "run"
      rw [r_read ht ok e]
      walk_at "run"
      rw [q_repr ex]
      walk_at "run"
      rw [q_repr ex]
      walk_at "run"
      rw [q_neP (eqP_same (k := 0) (d := .str x) okx (by decide))]
      walk_at "run"
      exact h _ _
theorem body3 {N : S → Prop} {TT : RV → S → Prop} {B C : S → Prop} {E : Ex → S → Prop} {e0 e2 e3 e5 e6 e7 : D} {fl ds : List D} {x8 : Sl} {d : D} (hd : okTy d = true)
    (h : ∀ d8, N ⟨[.fz e0, .ow (.lst fl), .fz e2, .fz e3, .fz (.lst ds), .fz e5, .fz e6, .fz e7, .fz d8], p⟩) :
    wG (pName 8) (.fz d) ⟨[.fz e0, .ow (.lst fl), .fz e2, .fz e3, .fz (.lst ds), .fz e5, .fz e6, .fz e7, x8], p⟩ fun s1 => wS (b3 wordT s1) N TT B C E := by
  unfold b3
  have fin : ∀ d, okTy d = true → (∀ x, d ≠ .str x) → ∀ {K : RV → List Cell → Prop} {E : Ex → List Cell → Prop}, wF (f_read_fraction [d] p) K E = E ⟨"NoText", [("line", .int 0)]⟩ p := fun d h1 h2 _ _ => r_readO h1 h2
  have eq1 : eqP (.tup [.str "text", .int 0]) (.tup [.str "text", .int 0]) = some true := eqP_same (k := 1) (by kernel_rfl) (by decide)
  cases d with
  | str x => walk_at "run"; exact h _
  | obj _ => cases hd
  | ty _ => cases hd
  | exc _ => cases hd
  | exf _ _ _ => cases hd
  | _ =>
    walk_at "run"
    rw [fin _ rfl (fun x z => by cases z)]
    walk_at "run"
    rw [sd_text]
    walk_at "run"
    rw [q_neP eq1]
    walk_at "run"
    exact h _
theorem body1 {N : S → Prop} {TT : RV → S → Prop} {B C : S → Prop} {E : Ex → S → Prop} {y0 y1 y2 y5 y6 y7 y8 : Sl} {i : Nat} {d : D} {ds : List D} (hi : i < 6) (hds : ∀ d ∈ ds, txs d) (hlen : ds.length ≤ 100 + 10 * i)
    (h : ∀ d5 ds d6 q, (∀ d ∈ ds, txs d) → ds.length ≤ 100 + 10 * (i + 1) → 0 < ds.length → N ⟨[y0, y1, y2, .fz (.obj p.length), .ow (.lst ds), .fz d5, .fz d6, y7, y8], p ++ [drw q]⟩) :
    wG (pName 5) (.fz d) ⟨[y0, y1, y2, .fz (.obj p.length), .ow (.lst ds), y5, y6, y7, y8], p ++ [drw q]⟩ fun s1 => wS (b1 s1) N TT B C E := by
  unfold b1
  walk_at "run"
  refine w_take (by decide) (by decide) fun top q1 t0 t1 => ?_
  walk_at "run"
  refine w_take (by decide) (by decide) fun bot q2 u0 u1 => ?_
  walk_at "run"
  rw [r_lowest (by omega) (by omega)]
  walk_at "run"
  have g0 : 0 < Int.gcd top (1 + bot) := Int.gcd_pos_of_ne_zero_right _ (by omega)
  obtain ⟨a, ha⟩ : ∃ a, a = top / (Int.gcd top (1 + bot) : Int) := ⟨_, rfl⟩
  obtain ⟨b, hb⟩ : ∃ b, b = (1 + bot) / (Int.gcd top (1 + bot) : Int) := ⟨_, rfl⟩
  rw [← ha, ← hb]
  have a0 : 0 ≤ a := by rw [ha]; exact Int.ediv_nonneg t0 (by omega)
  have a1 : a ≤ top := by rw [ha]; exact Int.ediv_le_self _ t0
  have b0 : 0 ≤ b := by rw [hb]; exact Int.ediv_nonneg (by omega) (by omega)
  have b1 : b ≤ 1 + bot := by rw [hb]; exact Int.ediv_le_self _ (by omega)
  rw [r_ltext (by omega) (by omega)]
  walk_at "run"
  have l1 : (frL a b).length ≤ 40 := by
    have h1 := itx_len (a := a) (k := 3) (by decide) (by omega)
    have h2 := itx_len (a := b) (k := 3) (by decide) (by omega)
    unfold frL; split
    · omega
    · rw [List.length_append, List.length_cons]; omega
  have ok1 := frL_ok a b
  have okm : okT (45 :: frL a b) := fun c hc => by
    rcases List.mem_cons.mp hc with rfl | hc
    · decide
    · exact ok1 c hc
  rw [lit__45_, q_catS (by simp; omega)]
  walk_at "run"
  refine w_bent (by omega) ok1 fun t1 q3 k1 o1 => ?_
  walk_at "run"
  rw [q_catS (by simp; omega)]
  walk_at "run"
  refine w_bent (t := 45 :: frL a b) (by simp; omega) okm fun t2 q4 k2 o2 => ?_
  walk_at "run"
  refine w_bent (by simp at k2; omega) o2 fun t3 q5 k3 o3 => ?_
  walk_at "run"
  rw [q_lcat (by simp; omega)]
  walk_at "run"
  refine h _ _ _ _ (fun d hd => ?_) (by simp; omega) (by simp)
  rcases List.mem_append.mp hd with hd | hd
  · exact hds d hd
  · simp only [List.mem_cons, List.not_mem_nil, or_false] at hd
    rcases hd with rfl | rfl | rfl | rfl
    · exact ⟨_, rfl, by omega, ok1⟩
    · exact ⟨45 :: frL a b, rfl, by simp; omega, okm⟩
    · exact ⟨_, rfl, by omega, o1⟩
    · exact ⟨_, rfl, by simp at k2; omega, o3⟩
def fixedL : List D := [.str "", .str "0", .str "-0", .str "00", .str "01", .str "1", .str "-1", .str "--1", .str "1/2", .str "2/4", .str "1/1", .str "3/1", .str "0/1", .str "0/5", .str "1/0", .str "-1/2",
  .str "1/-2", .str "1/02", .str "1//2", .str "1/2/3", .str "/2", .str "1/", .str "-", .str "/", .str " 1", .str "1 ", .str "1/ 2", .str "+1", .str "1.5", .str "-0/3", .str "7/3", .str "-7/3"]
def txB (d : D) : Bool := match d with
  | .str x => decide (x.length ≤ 70) && PyData.strOk x
  | _ => false
theorem txB_ok {d : D} (h : txB d = true) : txs d := by
  unfold txB at h
  split at h
  · next x =>
    rw [Bool.and_eq_true] at h
    refine ⟨x.cps.toList, by rw [SX.S_tl], ?_, ok1_iff.mp h.2⟩
    have := of_decide_eq_true h.1
    rw [Array.length_toList]; exact this
  · cases h
theorem fixed_tx : ∀ d ∈ fixedL, txs d := fun d hd => txB_ok (List.all_eq_true.mp (show fixedL.all txB = true by kernel_rfl) d hd)
end Lk

set_option Elab.async false
set_option linter.all false
set_option maxRecDepth 100000
set_option maxHeartbeats 4000000
local macro_rules | `(tactic| walk_at "run") => `(tactic| first | simp -dsimp -implicitDefEqProofs only [↓En.cndP, ↓En.cndQ, ↓En.cndN, ↓En.l_non, ↓En.l_bl, ↓En.l_int, ↓En.l_str, ↓En.l_tup, ↓En.l_lst, ↓En.l_dic, ↓En.l_scr, ↓En.l_ty, ↓En.l_exc, ↓En.l_any, ↓En.l_ow, ↓En.l_lnow0, ↓En.v_ow0, ↓En.st_lnow0, ↓En.rt_lnow0, ↓En.l_lnfz0, ↓En.v_fz0, ↓En.st_lnfz0, ↓En.rt_lnfz0, ↓En.so_fz0, ↓En.so_ow0, ↓En.s1_0, ↓En.ch_ow0, ↓En.l_lnow1, ↓En.v_ow1, ↓En.st_lnow1, ↓En.rt_lnow1, ↓En.l_lnfz1, ↓En.v_fz1, ↓En.st_lnfz1, ↓En.rt_lnfz1, ↓En.so_fz1, ↓En.so_ow1, ↓En.s1_1, ↓En.ch_ow1, ↓En.l_lnow2, ↓En.v_ow2, ↓En.st_lnow2, ↓En.rt_lnow2, ↓En.l_lnfz2, ↓En.v_fz2, ↓En.st_lnfz2, ↓En.rt_lnfz2, ↓En.so_fz2, ↓En.so_ow2, ↓En.s1_2, ↓En.ch_ow2, ↓En.l_lnow3, ↓En.v_ow3, ↓En.st_lnow3, ↓En.rt_lnow3, ↓En.l_lnfz3, ↓En.v_fz3, ↓En.st_lnfz3, ↓En.rt_lnfz3, ↓En.so_fz3, ↓En.so_ow3, ↓En.s1_3, ↓En.ch_ow3, ↓En.l_lnow4, ↓En.v_ow4, ↓En.st_lnow4, ↓En.rt_lnow4, ↓En.l_lnfz4, ↓En.v_fz4, ↓En.st_lnfz4, ↓En.rt_lnfz4, ↓En.so_fz4, ↓En.so_ow4, ↓En.s1_4, ↓En.ch_ow4, ↓En.l_lnow5, ↓En.v_ow5, ↓En.st_lnow5, ↓En.rt_lnow5, ↓En.l_lnfz5, ↓En.v_fz5, ↓En.st_lnfz5, ↓En.rt_lnfz5, ↓En.so_fz5, ↓En.so_ow5, ↓En.s1_5, ↓En.ch_ow5, ↓En.l_lnow6, ↓En.v_ow6, ↓En.st_lnow6, ↓En.rt_lnow6, ↓En.l_lnfz6, ↓En.v_fz6, ↓En.st_lnfz6, ↓En.rt_lnfz6, ↓En.so_fz6, ↓En.so_ow6, ↓En.s1_6, ↓En.ch_ow6, ↓En.l_lnow7, ↓En.v_ow7, ↓En.st_lnow7, ↓En.rt_lnow7, ↓En.l_lnfz7, ↓En.v_fz7, ↓En.st_lnfz7, ↓En.rt_lnfz7, ↓En.so_fz7, ↓En.so_ow7, ↓En.s1_7, ↓En.ch_ow7, ↓En.l_lnow8, ↓En.v_ow8, ↓En.st_lnow8, ↓En.rt_lnow8, ↓En.l_lnfz8, ↓En.v_fz8, ↓En.st_lnfz8, ↓En.rt_lnfz8, ↓En.so_fz8, ↓En.so_ow8, ↓En.s1_8, ↓En.ch_ow8, ↓En.l_lnow9, ↓En.v_ow9, ↓En.st_lnow9, ↓En.rt_lnow9, ↓En.l_lnfz9, ↓En.v_fz9, ↓En.st_lnfz9, ↓En.rt_lnfz9, ↓En.so_fz9, ↓En.so_ow9, ↓En.s1_9, ↓En.ch_ow9, ↓En.l_lnow10, ↓En.v_ow10, ↓En.st_lnow10, ↓En.rt_lnow10, ↓En.l_lnfz10, ↓En.v_fz10, ↓En.st_lnfz10, ↓En.rt_lnfz10, ↓En.so_fz10, ↓En.so_ow10, ↓En.s1_10, ↓En.ch_ow10, ↓En.l_lnow11, ↓En.v_ow11, ↓En.st_lnow11, ↓En.rt_lnow11, ↓En.l_lnfz11, ↓En.v_fz11, ↓En.st_lnfz11, ↓En.rt_lnfz11, ↓En.so_fz11, ↓En.so_ow11, ↓En.s1_11, ↓En.ch_ow11, ↓En.l_lnow12, ↓En.v_ow12, ↓En.st_lnow12, ↓En.rt_lnow12, ↓En.l_lnfz12, ↓En.v_fz12, ↓En.st_lnfz12, ↓En.rt_lnfz12, ↓En.so_fz12, ↓En.so_ow12, ↓En.s1_12, ↓En.ch_ow12, ↓En.l_lnow13, ↓En.v_ow13, ↓En.st_lnow13, ↓En.rt_lnow13, ↓En.l_lnfz13, ↓En.v_fz13, ↓En.st_lnfz13, ↓En.rt_lnfz13, ↓En.so_fz13, ↓En.so_ow13, ↓En.s1_13, ↓En.ch_ow13, ↓En.l_lnow14, ↓En.v_ow14, ↓En.st_lnow14, ↓En.rt_lnow14, ↓En.l_lnfz14, ↓En.v_fz14, ↓En.st_lnfz14, ↓En.rt_lnfz14, ↓En.so_fz14, ↓En.so_ow14, ↓En.s1_14, ↓En.ch_ow14, ↓En.l_lnow15, ↓En.v_ow15, ↓En.st_lnow15, ↓En.rt_lnow15, ↓En.l_lnfz15, ↓En.v_fz15, ↓En.st_lnfz15, ↓En.rt_lnfz15, ↓En.so_fz15, ↓En.so_ow15, ↓En.s1_15, ↓En.ch_ow15, ↓En.l_lnow16, ↓En.v_ow16, ↓En.st_lnow16, ↓En.rt_lnow16, ↓En.l_lnfz16, ↓En.v_fz16, ↓En.st_lnfz16, ↓En.rt_lnfz16, ↓En.so_fz16, ↓En.so_ow16, ↓En.s1_16, ↓En.ch_ow16, ↓En.l_lnow17, ↓En.v_ow17, ↓En.st_lnow17, ↓En.rt_lnow17, ↓En.l_lnfz17, ↓En.v_fz17, ↓En.st_lnfz17, ↓En.rt_lnfz17, ↓En.so_fz17, ↓En.so_ow17, ↓En.s1_17, ↓En.ch_ow17, ↓En.l_lnow18, ↓En.v_ow18, ↓En.st_lnow18, ↓En.rt_lnow18, ↓En.l_lnfz18, ↓En.v_fz18, ↓En.st_lnfz18, ↓En.rt_lnfz18, ↓En.so_fz18, ↓En.so_ow18, ↓En.s1_18, ↓En.ch_ow18, ↓En.l_lnow19, ↓En.v_ow19, ↓En.st_lnow19, ↓En.rt_lnow19, ↓En.l_lnfz19, ↓En.v_fz19, ↓En.st_lnfz19, ↓En.rt_lnfz19, ↓En.so_fz19, ↓En.so_ow19, ↓En.s1_19, ↓En.ch_ow19, ↓En.l_lnow20, ↓En.v_ow20, ↓En.st_lnow20, ↓En.rt_lnow20, ↓En.l_lnfz20, ↓En.v_fz20, ↓En.st_lnfz20, ↓En.rt_lnfz20, ↓En.so_fz20, ↓En.so_ow20, ↓En.s1_20, ↓En.ch_ow20, ↓En.l_lnow21, ↓En.v_ow21, ↓En.st_lnow21, ↓En.rt_lnow21, ↓En.l_lnfz21, ↓En.v_fz21, ↓En.st_lnfz21, ↓En.rt_lnfz21, ↓En.so_fz21, ↓En.so_ow21, ↓En.s1_21, ↓En.ch_ow21, ↓En.so_ln, ↓En.wop_some, ↓En.st_fz, ↓En.rt_fz, ↓En.rt_ow, ↓En.k_fz, ↓En.k_ow, ↓En.k_ln, ↓En.ls0, ↓En.ls1, ↓En.sa0, ↓En.sa1, ↓En.g_lit, ↓En.g_bin, ↓En.lift2_eq, ↓En.lift1_eq, ↓En.g_un, ↓En.g_not, ↓En.g_and, ↓En.g_or, ↓En.g_if, ↓En.g_toT, ↓En.wt_or, ↓En.wt_and, ↓En.wt_not, ↓En.wt_bin, ↓En.wt_un, ↓En.wt_cb, ↓En.wt_var, ↓En.wt_call, ↓En.wt_lit, ↓En.wt_meth, ↓En.wt_chain, ↓En.wt_comp, ↓En.wt_if, ↓En.g_args0, ↓En.g_args1, ↓En.g_with, ↓En.ca, ↓En.g_call, ↓En.tup_ok, ↓En.lst_ok, ↓En.g_cb, ↓En.g_meth, ↓En.is_str, ↓En.is_lst, ↓En.isl, ↓En.part0, ↓En.part1, ↓En.wint, ↓En.g_slice, ↓En.g_d01, ↓En.g_rev, ↓En.g_dic0, ↓En.g_fmt, ↓En.js0, ↓En.js_e, ↓En.js_S, ↓En.wstr, ↓En.g_chain, ↓En.chn, ↓En.g_app, ↓En.g_ext, ↓En.wlst, ↓En.g_pop, ↓En.g_pro, ↓En.pro, ↓En.to_, ↓En.fz0, ↓En.fzF, ↓En.fzO, ↓En.fzN, ↓En.g_said, ↓En.t_name, ↓En.ta0, ↓En.taF, ↓En.taO, ↓En.gs0, ↓En.gs1, ↓En.t_tup, ↓En.wtup, ↓En.t_sub, ↓En.s_seq, ↓En.s_next, ↓En.s_cont, ↓En.s_drop, ↓En.s_ret, ↓En.s_retn, ↓En.s_if, ↓En.s_set, ↓En.s_asg, ↓En.s_par, ↓En.s_parg, ↓En.set0, ↓En.set1, ↓En.held0, ↓En.held1, ↓En.ho_fz, ↓En.ho_ow, ↓En.ho_ln, ↓En.s_raise, ↓En.s_raiset, ↓En.s_for, ↓En.i_seq, ↓En.it_lst, ↓En.it_tup, ↓En.it_str, ↓En.wrg, ↓En.i_rng1, ↓En.i_rng2, ↓En.cm, ↓En.g_comp, ↓En.t_yes, ↓En.fo_fz, ↓En.fo_ow, ↓En.s_loop, ↓En.q_add, ↓En.q_sub, ↓En.q_div, ↓En.q_mod, ↓En.q_pow, ↓En.q_lt, ↓En.q_le, ↓En.q_gt, ↓En.q_ge, ↓En.q_eqi, ↓En.q_nei, ↓En.q_is_non, ↓En.q_isn_non, ↓En.q_is_bl, ↓En.q_isn_bl, ↓En.q_is_int, ↓En.q_isn_int, ↓En.q_is_str, ↓En.q_isn_str, ↓En.q_is_tup, ↓En.q_isn_tup, ↓En.q_is_lst, ↓En.q_isn_lst, ↓En.q_is_dic, ↓En.q_isn_dic, ↓En.q_is_obj, ↓En.q_isn_obj, ↓En.q_eqb, ↓En.q_neb, ↓En.q_not, ↓En.q_neg, ↓En.q_abs, ↓En.q_max, ↓En.q_min, ↓En.q_lenl, ↓En.q_lent, ↓En.q_lenc, ↓En.q_listl, ↓En.q_listt, ↓En.q_tupl, ↓En.q_tupt, ↓En.q_revl, ↓En.q_revt, ↓En.q_sll, ↓En.q_slt, ↓En.q_int, ↓En.q_intb, ↓En.q_strs, ↓En.q_atl0, ↓En.q_att0, ↓En.q_atl1, ↓En.q_att1, ↓En.q_atl2, ↓En.q_att2, ↓En.q_atl3, ↓En.q_att3, ↓En.q_atl4, ↓En.q_att4, ↓En.q_atl5, ↓En.q_att5, ↓En.q_atl6, ↓En.q_att6, ↓En.q_atl7, ↓En.q_att7, ↓En.tr_bl, ↓En.tr_int, ↓En.tr_non, ↓En.tr_tup, ↓En.tr_lst, ↓En.no0, ↓En.no1, ↓En.wp0, ↓En.wp1, ↓En.bk0, ↓En.bk1, ↓En.no_no0, ↓En.no_fz0, ↓En.gt0, ↓En.no_no1, ↓En.no_fz1, ↓En.gt1, ↓En.no_no2, ↓En.no_fz2, ↓En.gt2, ↓En.no_no3, ↓En.no_fz3, ↓En.gt3, ↓En.no_no4, ↓En.no_fz4, ↓En.gt4, ↓En.no_no5, ↓En.no_fz5, ↓En.gt5, ↓En.no_no6, ↓En.no_fz6, ↓En.gt6, ↓En.no_no7, ↓En.no_fz7, ↓En.gt7, ↓En.no_no8, ↓En.no_fz8, ↓En.gt8, ↓En.no_no9, ↓En.no_fz9, ↓En.gt9, ↓En.no_no10, ↓En.no_fz10, ↓En.gt10, ↓En.no_no11, ↓En.no_fz11, ↓En.gt11, ↓En.no_no12, ↓En.no_fz12, ↓En.gt12, ↓En.no_no13, ↓En.no_fz13, ↓En.gt13, ↓En.no_no14, ↓En.no_fz14, ↓En.gt14, ↓En.no_no15, ↓En.no_fz15, ↓En.gt15, ↓En.no_no16, ↓En.no_fz16, ↓En.gt16, ↓En.no_no17, ↓En.no_fz17, ↓En.gt17, ↓En.no_no18, ↓En.no_fz18, ↓En.gt18, ↓En.no_no19, ↓En.no_fz19, ↓En.gt19, ↓En.no_no20, ↓En.no_fz20, ↓En.gt20, ↓En.no_no21, ↓En.no_fz21, ↓En.gt21, ↓En.wCp0, ↓En.c_step, ↓En.c_one, ↓En.ap_no, ↓En.ap0, ↓En.ap1, ↓En.ap2, ↓En.ap3, ↓En.ap4, ↓En.ap5, ↓En.ap6, ↓En.ap7, ↓En.ap8, ↓En.ap9, ↓En.q_all, ↓En.q_any, ↓En.bls0, ↓En.bls1, ↓En.isi_non_bool, ↓En.isi_non_int, ↓En.isi_non_str, ↓En.isi_non_tuple, ↓En.isi_non_list, ↓En.isi_non_dict, ↓En.isi_bl_bool, ↓En.isi_bl_int, ↓En.isi_bl_str, ↓En.isi_bl_tuple, ↓En.isi_bl_list, ↓En.isi_bl_dict, ↓En.isi_int_bool, ↓En.isi_int_int, ↓En.isi_int_str, ↓En.isi_int_tuple, ↓En.isi_int_list, ↓En.isi_int_dict, ↓En.isi_str_bool, ↓En.isi_str_int, ↓En.isi_str_str, ↓En.isi_str_tuple, ↓En.isi_str_list, ↓En.isi_str_dict, ↓En.isi_tup_bool, ↓En.isi_tup_int, ↓En.isi_tup_str, ↓En.isi_tup_tuple, ↓En.isi_tup_list, ↓En.isi_tup_dict, ↓En.isi_lst_bool, ↓En.isi_lst_int, ↓En.isi_lst_str, ↓En.isi_lst_tuple, ↓En.isi_lst_list, ↓En.isi_lst_dict, ↓En.isi_dic_bool, ↓En.isi_dic_int, ↓En.isi_dic_str, ↓En.isi_dic_tuple, ↓En.isi_dic_list, ↓En.isi_dic_dict, ↓En.isi_scr_bool, ↓En.isi_scr_int, ↓En.isi_scr_str, ↓En.isi_scr_tuple, ↓En.isi_scr_list, ↓En.isi_scr_dict, reduceCtorEq, List.cons.injEq, Nat.reduceEqDiff, and_true, true_and, and_false, false_and, Int.cast_ofNat_Int, List.length_cons, List.length_nil, Nat.reduceAdd, Nat.reduceLeDiff, Nat.zero_add, Nat.reduceLT, Int.reduceLT, Int.reduceLE, Int.reducePow, Int.reduceToNat, Int.reduceNeg, Int.reduceAdd, Int.reduceSub, Int.reduceMul, Nat.reducePow, Int.reduceEq, Int.reduceBNe, decide_true, decide_false, Bool.not_true, Bool.not_false, beq_self_eq_true, Bool.true_beq, Bool.false_beq, En.cndP, En.cndQ, En.cndN, gt_iff_lt, if_true, if_false, ↓Lk.l_drw] | skip)
local macro_rules | `(tactic| walk_at "start") => `(tactic| (rw [En.wF_run]; simp only [List.map_cons, List.map_nil, List.cons_append, List.nil_append, List.length_cons, List.length_nil, Nat.reduceAdd, Nat.reduceSub, List.replicate_succ, List.replicate_zero]))
local macro_rules | `(tactic| walk_at "if") => `(tactic| (refine En.cnd_if (fun _ => ?_) (fun _ => ?_) <;> walk_at "run"))
namespace Lk
open PySem PySem.Spec PyProof.Rows L2 Fw Wk En Tx Rp
variable {st : List Cell} {s : S} {K : RV → List Cell → Prop} {E : Ex → List Cell → Prop} {p : List Cell} {q : Dw}
theorem wish_of {n : Nat} {fn : Fn} (h : ∀ ns : List Int, ns.length ≤ n → wF (fn [.scr ns] []) (fun r st => r = .fz (.bl true)) (fun _ _ => False)) : Wish n fn := by
  intro ns hl _
  have h := h ns hl
  revert h
  cases fn [.scr ns] [] with
  | ok r st => cases r with
    | fz d => intro h; have h : RV.fz d = .fz (.bl true) := h; cases h; exact ⟨st, rfl⟩
    | ow d => intro h; cases (show RV.ow d = .fz (.bl true) from h)
    | ln i => exact False.elim
  | ex x st => exact False.elim
  | bad => exact False.elim
theorem wish : Wish 63 (f_law wordT) := by
  refine wish_of fun ns hl => ?_
  unfold f_law g_law
  walk_at "start"
  walk_at "run"
  rw [q_lcat (by decide)]
  walk_at "run"
  rw [q_lcat (by decide)]
  walk_at "run"
  rw [wrg (by decide) (by decide) (by split <;> split <;> omega) (by split <;> split <;> omega)]
  walk_at "run"
  refine wLp_inv (fun _ s => ∃ y2 y3 y4 y5 y6 y7 y8 p, s = ⟨[.fz (.scr ns), .ow (.lst fixedL), y2, y3, y4, y5, y6, y7, y8], p⟩ ∧ (y8 = .no ∨ ∃ e, y8 = .fz e)) ?_ ⟨_, _, _, _, _, _, _, _, rfl, .inl rfl⟩ ?_
  · rintro i d s hd ⟨y2, y3, y4, y5, y6, y7, y8, p, rfl, h8⟩
    obtain ⟨k, hk, rfl⟩ : ∃ k : Int, 0 ≤ k ∧ d = .int k := by
      unfold rangeD at hd
      rw [List.getElem?_map] at hd
      obtain ⟨n, hn, rfl⟩ := Option.map_eq_some_iff.mp hd
      exact ⟨_, by omega, rfl⟩
    walk_at "run"
    refine w_state hk fun q => ?_
    walk_at "run"
    rw [show (Cell.lst [D.int q.a, D.int q.b]) = drw q from rfl]
    refine wLp_inv (fun i s => ∃ y5 y6 ds q, s = ⟨[.fz (.scr ns), .ow (.lst fixedL), .fz (.int k), .fz (.obj p.length), .ow (.lst ds), y5, y6, y7, y8], p ++ [drw q]⟩ ∧ (∀ d ∈ ds, txs d) ∧ ds.length ≤ 100 + 10 * i ∧ 0 < ds.length ∧ (0 < i → ∃ d5 d6, y5 = .fz d5 ∧ y6 = .fz d6)) ?_ ⟨_, _, _, _, rfl, fixed_tx, by decide, by decide, fun h => absurd h (by decide)⟩ ?_
    · rintro i d s hd ⟨y5, y6, ds, q, rfl, hds, hlen, _, _⟩
      have hi : i < 6 := by
        have := (List.getElem?_eq_some_iff.mp hd).1
        simpa [rangeD] using this
      exact body1 hi hds hlen fun d5 ds d6 q a b c => ⟨_, _, _, _, rfl, a, b, c, fun _ => ⟨_, _, rfl, rfl⟩⟩
    · rintro s ⟨y5, y6, ds, q, rfl, hds, hlen, hpos, hy⟩
      obtain ⟨d5, d6, rfl, rfl⟩ := hy (by decide)
      walk_at "run"
      refine wLp_inv (fun i s => ∃ d6 y7, s = ⟨[.fz (.scr ns), .ow (.lst fixedL), .fz (.int k), .fz (.obj p.length), .fz (.lst ds), .fz d5, .fz d6, y7, y8], p ++ [drw q]⟩ ∧ (0 < i → ∃ d7, y7 = .fz d7)) ?_ ⟨_, _, rfl, fun h => absurd h (by decide)⟩ ?_
      · rintro i d s hd ⟨d6, y7, rfl, _⟩
        exact body2 (hds d (List.mem_of_getElem? hd)) h8 fun d6 d7 => ⟨_, _, rfl, fun _ => ⟨_, rfl⟩⟩
      · rintro s ⟨d6, y7, rfl, hy⟩
        obtain ⟨d7, rfl⟩ := hy hpos
        walk_at "run"
        refine w_odd fun d0 hd0 q1 => ?_
        walk_at "run"
        refine wLp_inv (fun i s => ∃ y8, s = ⟨[.fz (.scr ns), .ow (.lst fixedL), .fz (.int k), .fz (.obj p.length), .fz (.lst ds), .fz d5, .fz d6, .fz d7, y8], p ++ [drw q1]⟩ ∧ (y8 = .no ∨ ∃ e, y8 = .fz e)) ?_ ⟨_, rfl, h8⟩ ?_
        · rintro i d s hd ⟨y8, rfl, _⟩
          refine body3 ?_ fun d8 => ⟨_, rfl, .inr ⟨_, rfl⟩⟩
          have hm := List.mem_of_getElem? hd
          have all : (oddL.all okTy) = true := by kernel_rfl
          simp only [List.mem_cons, List.not_mem_nil, or_false] at hm
          rcases hm with rfl | rfl | rfl | rfl | rfl | rfl | rfl | rfl
          all_goals first | rfl | exact List.all_eq_true.mp all _ hd0
        · rintro s ⟨y8, rfl, h8⟩
          walk_at "run"
          exact ⟨_, _, _, _, _, _, _, _, rfl, h8⟩
  · rintro s ⟨y2, y3, y4, y5, y6, y7, y8, p, rfl, _⟩
    walk_at "run"
end Lk
namespace Lk
open PySem Fw Wk
abbrev word : Ex → Option D := wordT
theorem hword : ∀ x d, word x = some d → (x.cls = "NoText") ∧ ∀ dd, (dd = none ↔ x.fs = []) → ∀ a st, f__law_word (saidT x.cls) dd a [excD a dd x.fs] st = .ok (.fz d) st := hwordT
end Lk

set_option Elab.async false
set_option linter.all false
set_option maxRecDepth 100000
set_option maxHeartbeats 4000000
namespace Wk
open PySem PySem.Spec PyProof.Rows L2 Fw
section
variable {P : Program} {w : World} {Γ : Ct} {mg : Str → Option Value} {base : Heap}
def topS (i : Nat) : Stmt := PySem.Challenge.pw_waterheads_k73_texts_that_write_no_fract.main.body.getD i (.Pass ⟨0, 0, 0, 0⟩)
abbrev t_is_whole : Stmt := topS 20
theorem sc_is_whole : FnScope ["thing"] ["thing"] (defScope t_is_whole) := ⟨rfl, rfl, rfl, by decide +kernel, rfl, by decide +kernel, by decide +kernel⟩
theorem ok_is_whole {f : Addr} {fd : FuncData} (F : L2.Fun Γ.K "is_whole" "is_whole" t_is_whole f fd) (hm : mg "is_whole" = some (.ref f)) (bn : BN mg) : Kno P w Γ mg base "is_whole" ["thing"] 1 f_is_whole := by
  exact ⟨f, fd, fn_okO (k := 0) F sc_is_whole (by decide) fun cdv A outer s H E B O => (b_cons (s_ret (x_and O.hK (ecb (c_isi O.hK) bn.isinstance (ac (ev 0) (ac (ety bn.int) an))) (x_one (x_not (ecb (c_isi O.hK) bn.isinstance (ac (ev 0) (ac (ety bn.bool) an)))))))
    b_nil), hm, F.kp, F.binds fun _ _ _ _ _ _ us hl => match us, hl with | [_], _ => rfl⟩
abbrev t_common : Stmt := topS 21
theorem sc_common : FnScope ["one", "other"] ["one", "other"] (defScope t_common) := ⟨rfl, rfl, rfl, by decide +kernel, rfl, by decide +kernel, by decide +kernel⟩
theorem ok_common {f : Addr} {fd : FuncData} (F : L2.Fun Γ.K "common" "common" t_common f fd) (hm : mg "common" = some (.ref f)) (bn : BN mg) : Kno P w Γ mg base "common" ["one", "other"] 1 f_common := by
  exact ⟨f, fd, fn_okO (k := 0) F sc_common (by decide) fun cdv A outer s H E B O => (b_cons (sp2 O 0 1 (hc (ecb (c_abs) bn.abs (ac (ev 0) an)) (hc (ecb (c_abs) bn.abs (ac (ev 1) an)) hn0)))
    (b_cons (swh (yc O (ev 1) x_int) (b_cons (sp2 O 0 1 (hc (ev 1) (hc (eb O (ev 0) (ev 1)) hn0)))
    b_nil))
    (b_cons (s_ret (ev 0))
    b_nil))), hm, F.kp, F.binds fun _ _ _ _ _ _ us hl => match us, hl with | [_, _], _ => rfl⟩
abbrev t_is_fraction : Stmt := topS 22
theorem sc_is_fraction : FnScope ["thing", "one"] ["thing"] (defScope t_is_fraction) := ⟨rfl, rfl, rfl, by decide +kernel, rfl, by decide +kernel, by decide +kernel⟩
theorem ok_is_fraction {f : Addr} {fd : FuncData} (F : L2.Fun Γ.K "is_fraction" "is_fraction" t_is_fraction f fd) (hm : mg "is_fraction" = some (.ref f)) (bn : BN mg) (k_is_whole : Kno P w Γ mg base "is_whole" ["thing"] 1 f_is_whole) (k_common : Kno P w Γ mg base "common" ["one", "other"] 1 f_common) : Kno P w Γ mg base "is_fraction" ["thing"] 2 f_is_fraction := by
  exact ⟨f, fd, fn_okO (k := 1) F sc_is_fraction (by decide) fun cdv A outer s H E B O => (b_cons (s_if (yw (w_or (y_not (yp O (ecb (c_isi O.hK) bn.isinstance (ac (ev 0) (ac (ety bn.tuple) an))))) (w_or (yc O (ecb (c_len O.hK) bn.len (ac (ev 0) an)) x_int) (w_one (.inr rfl) (y_not (yp O (ecb (c_all O.hK O.calm) bn.all (ac (el O [("one", 1)] (iq O (ev 0)) (fun s H C cl fp O => (gn O 1)) (fun s H C cl fp O => ts_nil) (fun s H C cl fp O => (ecn O k_is_whole (ac (ev 1) an)))) an)))))))) (b_cons (s_ret x_bl)
    b_nil) b_nil)
    (b_cons (s_ret (x_and O.hK (ec O (eix O (ev 0) x_int) x_int) (x_one (ec O (ecn O k_common (ac (eix O (ev 0) x_int) (ac (eix O (ev 0) x_int) an))) x_int))))
    b_nil)), hm, F.kp, F.binds fun _ _ _ _ _ _ us hl => match us, hl with | [_], _ => rfl⟩
abbrev t_fraction_by : Stmt := topS 25
theorem sc_fraction_by : FnScope ["fraction", "top", "bottom"] ["fraction"] (defScope t_fraction_by) := ⟨rfl, rfl, rfl, by decide +kernel, rfl, by decide +kernel, by decide +kernel⟩
theorem ok_fraction_by {f : Addr} {fd : FuncData} (F : L2.Fun Γ.K "fraction_by" "fraction_by" t_fraction_by f fd) (hm : mg "fraction_by" = some (.ref f)) (bn : BN mg) : Kno P w Γ mg base "fraction_by" ["fraction"] 1 f_fraction_by := by
  exact ⟨f, fd, fn_okO (k := 0) F sc_fraction_by (by decide) fun cdv A outer s H E B O => (b_cons (sa (ev 0) (gt O (gc1 (gn O 1) (gc1 (gn O 2) gn0))))
    (b_cons (s_ret (x_if (yc O (ev 2) x_int) (ect (c_str) bn.str (ac (ev 1) an)) (x_joined (.cons (x_fmt (ev 1)) (.cons x_str (.cons (x_fmt (ev 2)) .nil))))))
    b_nil)), hm, F.kp, F.binds fun _ _ _ _ _ _ us hl => match us, hl with | [_], _ => rfl⟩
abbrev t_number_in : Stmt := topS 26
theorem sc_number_in : FnScope ["word", "sign"] ["word"] (defScope t_number_in) := ⟨rfl, rfl, rfl, by decide +kernel, rfl, by decide +kernel, by decide +kernel⟩
theorem ok_number_in {u_FIGURES : Value} {f : Addr} {fd : FuncData} (F : L2.Fun Γ.K "number_in" "number_in" t_number_in f fd) (hm : mg "number_in" = some (.ref f)) (bn : BN mg) (hc_FIGURES : mg "FIGURES" = some u_FIGURES ∧ KRep Γ.K u_FIGURES d_FIGURES) : Kno P w Γ mg base "number_in" ["word"] 1 f_number_in := by
  exact ⟨f, fd, fn_okO (k := 0) F sc_number_in (by decide) fun cdv A outer s H E B O => (b_cons (s_if (yw (w_or (yc O (ev 0) x_str) (w_one (.inr rfl) (y_not (yp O (ecb (c_all O.hK O.calm) bn.all (ac (el O [("sign", 1)] (iq O (ev 0)) (fun s H C cl fp O => (gn O 1)) (fun s H C cl fp O => ts_nil) (fun s H C cl fp O => (ec O (ev 1) (eg (hc_FIGURES).1 (hc_FIGURES).2)))) an))))))) (b_cons (s_ret x_non)
    b_nil) b_nil)
    (b_cons (s_ret (x_if (yw (w_or (yc O (eix O (ev 0) x_int) x_str) (w_one (.inr rfl) (yc O (ev 0) x_str)))) (ect (c_int) bn.int (ac (ev 0) an)) x_non))
    b_nil)), hm, F.kp, F.binds fun _ _ _ _ _ _ us hl => match us, hl with | [_], _ => rfl⟩
abbrev t_fraction_in : Stmt := topS 27
theorem sc_fraction_in : FnScope ["text", "minus", "first", "stroke", "second", "top", "bottom", "found"] ["text"] (defScope t_fraction_in) := ⟨rfl, rfl, rfl, by decide +kernel, rfl, by decide +kernel, by decide +kernel⟩
theorem ok_fraction_in {f : Addr} {fd : FuncData} (F : L2.Fun Γ.K "fraction_in" "fraction_in" t_fraction_in f fd) (hm : mg "fraction_in" = some (.ref f)) (bn : BN mg) (k_number_in : Kno P w Γ mg base "number_in" ["word"] 1 f_number_in) (k_is_fraction : Kno P w Γ mg base "is_fraction" ["thing"] 2 f_is_fraction) (k_fraction_by : Kno P w Γ mg base "fraction_by" ["fraction"] 1 f_fraction_by) : Kno P w Γ mg base "fraction_in" ["text"] 3 f_fraction_in := by
  exact ⟨f, fd, fn_okO (k := 2) F sc_fraction_in (by decide) fun cdv A outer s H E B O => (b_cons (ss O 1 (ec O (exs O (ev 0) .none (.some x_int)) x_str))
    (b_cons (sa (em PySem.F.plainAttrs_str PySem.F.slot_str_partition PySem.F.type_str_partition (m_part) (x_if (yp O (ev 1)) (exs O (ev 0) (.some x_int) .none) (ev 0)) (ac x_str an)) (gt O (gc1 (gn O 2) (gc1 (gn O 3) (gc1 (gn O 4) gn0)))))
    (b_cons (sp2 O 5 6 (hc (ecn O k_number_in (ac (ev 2) an)) (hc (x_if (yc O (ev 3) x_str) (ecn O k_number_in (ac (ev 4) an)) x_int) hn0)))
    (b_cons (s_if (yw (w_or (yc O (ev 5) x_non) (w_one (.inr rfl) (yc O (ev 6) x_non)))) (b_cons (s_ret x_non)
    b_nil) b_nil)
    (b_cons (ss O 7 (x_tup (ac (x_if (yp O (ev 1)) (eb O x_int (ev 5)) (ev 5)) (ac (ev 6) an))))
    (b_cons (s_ret (x_if (yw (w_and (yp O (ecn O k_is_fraction (ac (ev 7) an))) (w_one (.inl rfl) (yc O (ecn O k_fraction_by (ac (ev 7) an)) (ev 0))))) (ev 7) x_non))
    b_nil)))))), hm, F.kp, F.binds fun _ _ _ _ _ _ us hl => match us, hl with | [_], _ => rfl⟩
abbrev t_read_fraction : Stmt := topS 28
theorem sc_read_fraction : FnScope ["text", "found"] ["text"] (defScope t_read_fraction) := ⟨rfl, rfl, rfl, by decide +kernel, rfl, by decide +kernel, by decide +kernel⟩
theorem ok_read_fraction {f : Addr} {fd : FuncData} (F : L2.Fun Γ.K "read_fraction" "read_fraction" t_read_fraction f fd) (hm : mg "read_fraction" = some (.ref f)) (bn : BN mg) (k_fraction_in : Kno P w Γ mg base "fraction_in" ["text"] 3 f_fraction_in) (ex_NoText : ExT P w Γ mg base "NoText" "line") : Kno P w Γ mg base "read_fraction" ["text"] 4 f_read_fraction := by
  exact ⟨f, fd, fn_okO (k := 3) F sc_read_fraction (by decide) fun cdv A outer s H E B O => (b_cons (ss O 1 (x_if (yp O (ecb (c_isi O.hK) bn.isinstance (ac (ev 0) (ac (ety bn.str) an)))) (ecn O k_fraction_in (ac (ev 0) an)) x_non))
    (b_cons (s_if (yc O (ev 1) x_non) (b_cons (srt O ex_NoText x_int)
    b_nil) b_nil)
    (b_cons (s_ret (ev 1))
    b_nil))), hm, F.kp, F.binds fun _ _ _ _ _ _ us hl => match us, hl with | [_], _ => rfl⟩
abbrev t__law_cell_at : Stmt := topS 30
theorem sc__law_cell_at : FnScope ["_law_script", "_law_k"] ["_law_script", "_law_k"] (defScope t__law_cell_at) := ⟨rfl, rfl, rfl, by decide +kernel, rfl, by decide +kernel, by decide +kernel⟩
theorem ok__law_cell_at {f : Addr} {fd : FuncData} (F : L2.Fun Γ.K "_law_cell_at" "_law_cell_at" t__law_cell_at f fd) (hm : mg "_law_cell_at" = some (.ref f)) (bn : BN mg) : Kno P w Γ mg base "_law_cell_at" ["_law_script", "_law_k"] 1 f__law_cell_at := by
  exact ⟨f, fd, fn_okO (k := 0) F sc__law_cell_at (by decide) fun cdv A outer s H E B O => (b_cons (s_if (yc O (ev 1) (ecb (c_len O.hK) bn.len (ac (ev 0) an))) (b_cons (s_ret (eix O (ev 0) (ev 1)))
    b_nil) b_nil)
    (b_cons (s_ret x_int)
    b_nil)), hm, F.kp, F.binds fun _ _ _ _ _ _ us hl => match us, hl with | [_, _], _ => rfl⟩
abbrev t__law_state : Stmt := topS 31
theorem sc__law_state : FnScope ["_law_script", "_law_k", "_law_cell"] ["_law_script", "_law_k"] (defScope t__law_state) := ⟨rfl, rfl, rfl, by decide +kernel, rfl, by decide +kernel, by decide +kernel⟩
theorem ok__law_state {f : Addr} {fd : FuncData} (F : L2.Fun Γ.K "_law_state" "_law_state" t__law_state f fd) (hm : mg "_law_state" = some (.ref f)) (bn : BN mg) (k__law_cell_at : Kno P w Γ mg base "_law_cell_at" ["_law_script", "_law_k"] 1 f__law_cell_at) : Kno P w Γ mg base "_law_state" ["_law_script", "_law_k"] 2 f__law_state := by
  exact ⟨f, fd, fn_okO (k := 1) F sc__law_state (by decide) fun cdv A outer s H E B O => (b_cons (ss O 2 (ecn O k__law_cell_at (ac (ev 0) (ac (ev 1) an))))
    (b_cons (s_ret (x_lst (ac (ecb (c_max O.calm) bn.max (ac x_int (ac (eb O (ev 2) (eb O x_int x_int)) an))) (ac (eb O (ev 2) x_int) an))))
    b_nil)), hm, F.kp, F.binds fun _ _ _ _ _ _ us hl => match us, hl with | [_, _], _ => rfl⟩
abbrev t__law_take : Stmt := topS 32
theorem sc__law_take : FnScope ["_law_state_here", "_law_bound", "_law_found", "_law_stirred"] ["_law_state_here", "_law_bound"] (defScope t__law_take) := ⟨rfl, rfl, rfl, by decide +kernel, rfl, by decide +kernel, by decide +kernel⟩
theorem ok__law_take {f : Addr} {fd : FuncData} (F : L2.Fun Γ.K "_law_take" "_law_take" t__law_take f fd) (hm : mg "_law_take" = some (.ref f)) (bn : BN mg) : Kno P w Γ mg base "_law_take" ["_law_state_here", "_law_bound"] 1 f__law_take := by
  exact ⟨f, fd, fn_okO (k := 0) F sc__law_take (by decide) fun cdv A outer s H E B O => (b_cons (s_if (yc O (eix O (ev 0) x_int) x_int) (b_cons (ss O 2 (eb O (eix O (ev 0) x_int) (ev 1)))
    (b_cons (sa (eb O (eix O (ev 0) x_int) (ev 1)) (gsu (ev 0) x_int))
    (b_cons (s_ret (ev 2))
    b_nil))) b_nil)
    (b_cons (sa (eb O (eb O (eb O (eix O (ev 0) x_int) x_int) x_int) x_int) (gsu (ev 0) x_int))
    (b_cons (ss O 3 (eb O (eb O (eb O (eb O (eix O (ev 0) x_int) (eix O (ev 0) x_int)) (eb O x_int (eix O (ev 0) x_int))) x_int) x_int))
    (b_cons (ss O 3 (eb O (eb O (eb O (ev 3) (ev 3)) (eb O x_int (ev 3))) x_int))
    (b_cons (s_ret (eb O (eb O (ev 3) x_int) (ev 1)))
    b_nil))))), hm, F.kp, F.binds fun _ _ _ _ _ _ us hl => match us, hl with | [_, _], _ => rfl⟩
abbrev t__law_marks_of : Stmt := topS 33
theorem sc__law_marks_of : FnScope ["_law_e", "_law_marks"] ["_law_e"] (defScope t__law_marks_of) := ⟨rfl, rfl, rfl, by decide +kernel, rfl, by decide +kernel, by decide +kernel⟩
theorem ok__law_marks_of {cc : Str} {T : Str → Bool} {dd : Option Addr} {f : Addr} {fd : FuncData} (F : L2.Fun Γ.K "_law_marks_of" "_law_marks_of" t__law_marks_of f fd) (hm : mg "_law_marks_of" = some (.ref f)) (bn : BN mg) (hC : ExcC Γ.K (Γ.cl cc)) (hve : PySem.W.kitOne Γ.K (.ref (Γ.cl cc)) (.type "ValueError") = some true) (hk_ : ∀ C : Str, clsN.contains C = true → mg C = some (.ref (Γ.cl C)) ∧ PySem.W.kitOne Γ.K (.ref (Γ.cl cc)) (.ref (Γ.cl C)) = some (T C)) (hno : ∀ d, dd = some d → PySem.W.findIn Γ.K (.ref (Γ.cl cc)) "line" = some none) : KnoW P w Γ mg base "_law_marks_of" ["_law_e"] 1 (Zx Γ cc dd) (f__law_marks_of T dd) := by
  exact ⟨f, fd, fnw_ok (k := 0) (g := g__law_marks_of T dd) F sc__law_marks_of (by decide) fun cdv A outer s H E B p hz O => (b_cons (hss O 1 (x_lst (ac (his O hC hz bn.isinstance 0 (hk_ "NoNet" (by kernel_rfl)).1 (hk_ "NoNet" (by kernel_rfl)).2) (ac (his O hC hz bn.isinstance 0 (hk_ "NoCase" (by kernel_rfl)).1 (hk_ "NoCase" (by kernel_rfl)).2) (ac (his O hC hz bn.isinstance 0 (hk_ "NoShut" (by kernel_rfl)).1 (hk_ "NoShut" (by kernel_rfl)).2) (ac (his O hC hz bn.isinstance 0 (hk_ "NoPlace" (by kernel_rfl)).1 (hk_ "NoPlace" (by kernel_rfl)).2) an))))))
    (b_cons (hss O 1 (heb O (ev 1) (x_lst (ac (his O hC hz bn.isinstance 0 (hk_ "NoJoint" (by kernel_rfl)).1 (hk_ "NoJoint" (by kernel_rfl)).2) (ac (his O hC hz bn.isinstance 0 (hk_ "NoPipe" (by kernel_rfl)).1 (hk_ "NoPipe" (by kernel_rfl)).2) (ac (his O hC hz bn.isinstance 0 (hk_ "NoPlan" (by kernel_rfl)).1 (hk_ "NoPlan" (by kernel_rfl)).2) (ac (his O hC hz bn.isinstance 0 (hk_ "NoLevels" (by kernel_rfl)).1 (hk_ "NoLevels" (by kernel_rfl)).2) an)))))))
    (b_cons (hss O 1 (heb O (ev 1) (x_lst (ac (his O hC hz bn.isinstance 0 (hk_ "NoReadings" (by kernel_rfl)).1 (hk_ "NoReadings" (by kernel_rfl)).2) (ac (his O hC hz bn.isinstance 0 (hk_ "NoFraction" (by kernel_rfl)).1 (hk_ "NoFraction" (by kernel_rfl)).2) (ac (his O hC hz bn.isinstance 0 (hk_ "NoAmount" (by kernel_rfl)).1 (hk_ "NoAmount" (by kernel_rfl)).2) an))))))
    (b_cons (hss O 1 (heb O (ev 1) (x_lst (ac (his O hC hz bn.isinstance 0 (hk_ "NoMeters" (by kernel_rfl)).1 (hk_ "NoMeters" (by kernel_rfl)).2) (ac (his O hC hz bn.isinstance 0 (hk_ "NoTariff" (by kernel_rfl)).1 (hk_ "NoTariff" (by kernel_rfl)).2) (ac (his O hC hz bn.isinstance 0 (hk_ "NotNow" (by kernel_rfl)).1 (hk_ "NotNow" (by kernel_rfl)).2) (ac (his O hC hz bn.isinstance 0 (hk_ "NoDeed" (by kernel_rfl)).1 (hk_ "NoDeed" (by kernel_rfl)).2) an)))))))
    (b_cons (s_ret (heb O (ev 1) (x_lst (ac (his O hC hz bn.isinstance 0 (hk_ "NoLine" (by kernel_rfl)).1 (hk_ "NoLine" (by kernel_rfl)).2) (ac (his O hC hz bn.isinstance 0 (hk_ "NoText" (by kernel_rfl)).1 (hk_ "NoText" (by kernel_rfl)).2) an)))))
    b_nil))))), hm, F.kp, F.binds fun _ _ _ _ _ _ us hl => match us, hl with | [_], _ => rfl⟩
abbrev t__law_word : Stmt := topS 34
theorem sc__law_word : FnScope ["_law_e", "_law_marks", "_law_words", "_law_word_here"] ["_law_e"] (defScope t__law_word) := ⟨rfl, rfl, rfl, by decide +kernel, rfl, by decide +kernel, by decide +kernel⟩
theorem ok__law_word {cc : Str} {T : Str → Bool} {dd : Option Addr} {f : Addr} {fd : FuncData} (F : L2.Fun Γ.K "_law_word" "_law_word" t__law_word f fd) (hm : mg "_law_word" = some (.ref f)) (bn : BN mg) (hC : ExcC Γ.K (Γ.cl cc)) (hve : PySem.W.kitOne Γ.K (.ref (Γ.cl cc)) (.type "ValueError") = some true) (hk_ : ∀ C : Str, clsN.contains C = true → mg C = some (.ref (Γ.cl C)) ∧ PySem.W.kitOne Γ.K (.ref (Γ.cl cc)) (.ref (Γ.cl C)) = some (T C)) (hno : ∀ d, dd = some d → PySem.W.findIn Γ.K (.ref (Γ.cl cc)) "line" = some none) (k__law_marks_of : KnoW P w Γ mg base "_law_marks_of" ["_law_e"] 1 (Zx Γ cc dd) (f__law_marks_of T dd)) : KnoW P w Γ mg base "_law_word" ["_law_e"] 2 (Zx Γ cc dd) (f__law_word T dd) := by
  exact ⟨f, fd, fnw_ok (k := 1) (g := g__law_word T dd) F sc__law_word (by decide) fun cdv A outer s H E B p hz O => (b_cons (hss O 1 (hcw O hz k__law_marks_of (ac (ev 0) an)))
    (b_cons (s_if (yw (w_or (hyc O (em PySem.F.plainAttrs_list PySem.F.slot_list_count PySem.F.type_list_count (m_count O.hK O.hu) (ev 1) (ac x_bl an)) x_int) (w_one (.inr rfl) (y_not (hyp' O (hit O hC hz bn.isinstance 0 bn.ValueError hve)))))) (b_cons (s_ret (x_tup (ac x_str an)))
    b_nil) b_nil)
    (b_cons (hss O 2 (x_lst (ac x_str (ac x_str (ac x_str (ac x_str (ac x_str (ac x_str (ac x_str (ac x_str (ac x_str (ac x_str (ac x_str an)))))))))))))
    (b_cons (hss O 3 (heix O (heb O (ev 2) (x_lst (ac x_str (ac x_str (ac x_str (ac x_str (ac x_str (ac x_str an)))))))) (em PySem.F.plainAttrs_list PySem.F.slot_list_index PySem.F.type_list_index (m_index O.hK O.hu) (ev 1) (ac x_bl an))))
    (b_cons (s_ret (x_if (hyc O (ev 3) x_str) (x_tup (ac (ev 3) (ac (hxd O hC hz hno 0) an))) (x_tup (ac (ev 3) an))))
    b_nil))))), hm, F.kp, F.binds fun _ _ _ _ _ _ us hl => match us, hl with | [_], _ => rfl⟩
abbrev t__law_said : Stmt := topS 35
theorem sc__law_said : FnScope ["_law_call", "_law_e"] ["_law_call"] (defScope t__law_said) := ⟨rfl, rfl, rfl, by decide +kernel, rfl, by decide +kernel, by decide +kernel⟩
abbrev t__law_whole : Stmt := topS 36
theorem sc__law_whole : FnScope ["_law_what"] ["_law_what"] (defScope t__law_whole) := ⟨rfl, rfl, rfl, by decide +kernel, rfl, by decide +kernel, by decide +kernel⟩
theorem ok__law_whole {f : Addr} {fd : FuncData} (F : L2.Fun Γ.K "_law_whole" "_law_whole" t__law_whole f fd) (hm : mg "_law_whole" = some (.ref f)) (bn : BN mg) : Kno P w Γ mg base "_law_whole" ["_law_what"] 1 f__law_whole := by
  exact ⟨f, fd, fn_okO (k := 0) F sc__law_whole (by decide) fun cdv A outer s H E B O => (b_cons (s_ret (x_and O.hK (ecb (c_isi O.hK) bn.isinstance (ac (ev 0) (ac (ety bn.int) an))) (x_one (x_not (ecb (c_isi O.hK) bn.isinstance (ac (ev 0) (ac (ety bn.bool) an)))))))
    b_nil), hm, F.kp, F.binds fun _ _ _ _ _ _ us hl => match us, hl with | [_], _ => rfl⟩
abbrev t__law_common : Stmt := topS 37
theorem sc__law_common : FnScope ["_law_one", "_law_other"] ["_law_one", "_law_other"] (defScope t__law_common) := ⟨rfl, rfl, rfl, by decide +kernel, rfl, by decide +kernel, by decide +kernel⟩
theorem ok__law_common {f : Addr} {fd : FuncData} (F : L2.Fun Γ.K "_law_common" "_law_common" t__law_common f fd) (hm : mg "_law_common" = some (.ref f)) (bn : BN mg) : Kno P w Γ mg base "_law_common" ["_law_one", "_law_other"] 1 f__law_common := by
  exact ⟨f, fd, fn_okO (k := 0) F sc__law_common (by decide) fun cdv A outer s H E B O => (b_cons (sp2 O 0 1 (hc (ecb (c_abs) bn.abs (ac (ev 0) an)) (hc (ecb (c_abs) bn.abs (ac (ev 1) an)) hn0)))
    (b_cons (swh (yc O (ev 1) x_int) (b_cons (sp2 O 0 1 (hc (ev 1) (hc (eb O (ev 0) (ev 1)) hn0)))
    b_nil))
    (b_cons (s_ret (ev 0))
    b_nil))), hm, F.kp, F.binds fun _ _ _ _ _ _ us hl => match us, hl with | [_, _], _ => rfl⟩
abbrev t__law_lowest : Stmt := topS 38
theorem sc__law_lowest : FnScope ["_law_top", "_law_bottom", "_law_by"] ["_law_top", "_law_bottom"] (defScope t__law_lowest) := ⟨rfl, rfl, rfl, by decide +kernel, rfl, by decide +kernel, by decide +kernel⟩
theorem ok__law_lowest {f : Addr} {fd : FuncData} (F : L2.Fun Γ.K "_law_lowest" "_law_lowest" t__law_lowest f fd) (hm : mg "_law_lowest" = some (.ref f)) (bn : BN mg) (k__law_common : Kno P w Γ mg base "_law_common" ["_law_one", "_law_other"] 1 f__law_common) : Kno P w Γ mg base "_law_lowest" ["_law_top", "_law_bottom"] 2 f__law_lowest := by
  exact ⟨f, fd, fn_okO (k := 1) F sc__law_lowest (by decide) fun cdv A outer s H E B O => (b_cons (ss O 2 (ecn O k__law_common (ac (ev 0) (ac (ev 1) an))))
    (b_cons (s_ret (x_tup (ac (eb O (ev 0) (ev 2)) (ac (eb O (ev 1) (ev 2)) an))))
    b_nil)), hm, F.kp, F.binds fun _ _ _ _ _ _ us hl => match us, hl with | [_, _], _ => rfl⟩
abbrev t__law_is_fraction : Stmt := topS 39
theorem sc__law_is_fraction : FnScope ["_law_what", "_law_part"] ["_law_what"] (defScope t__law_is_fraction) := ⟨rfl, rfl, rfl, by decide +kernel, rfl, by decide +kernel, by decide +kernel⟩
theorem ok__law_is_fraction {f : Addr} {fd : FuncData} (F : L2.Fun Γ.K "_law_is_fraction" "_law_is_fraction" t__law_is_fraction f fd) (hm : mg "_law_is_fraction" = some (.ref f)) (bn : BN mg) (k__law_whole : Kno P w Γ mg base "_law_whole" ["_law_what"] 1 f__law_whole) (k__law_common : Kno P w Γ mg base "_law_common" ["_law_one", "_law_other"] 1 f__law_common) : Kno P w Γ mg base "_law_is_fraction" ["_law_what"] 2 f__law_is_fraction := by
  exact ⟨f, fd, fn_okO (k := 1) F sc__law_is_fraction (by decide) fun cdv A outer s H E B O => (b_cons (s_if (yw (w_or (y_not (yp O (ecb (c_isi O.hK) bn.isinstance (ac (ev 0) (ac (ety bn.tuple) an))))) (w_or (yc O (ecb (c_len O.hK) bn.len (ac (ev 0) an)) x_int) (w_one (.inr rfl) (y_not (yp O (ecb (c_all O.hK O.calm) bn.all (ac (el O [("_law_part", 1)] (iq O (ev 0)) (fun s H C cl fp O => (gn O 1)) (fun s H C cl fp O => ts_nil) (fun s H C cl fp O => (ecn O k__law_whole (ac (ev 1) an)))) an)))))))) (b_cons (s_ret x_bl)
    b_nil) b_nil)
    (b_cons (s_ret (x_and O.hK (ec O (eix O (ev 0) x_int) x_int) (x_one (ec O (ecn O k__law_common (ac (eix O (ev 0) x_int) (ac (eix O (ev 0) x_int) an))) x_int))))
    b_nil)), hm, F.kp, F.binds fun _ _ _ _ _ _ us hl => match us, hl with | [_], _ => rfl⟩
abbrev t__law_odd : Stmt := topS 40
theorem sc__law_odd : FnScope ["_law_state_here", "_law_some"] ["_law_state_here"] (defScope t__law_odd) := ⟨rfl, rfl, rfl, by decide +kernel, rfl, by decide +kernel, by decide +kernel⟩
theorem ok__law_odd {f : Addr} {fd : FuncData} (F : L2.Fun Γ.K "_law_odd" "_law_odd" t__law_odd f fd) (hm : mg "_law_odd" = some (.ref f)) (bn : BN mg) (k__law_take : Kno P w Γ mg base "_law_take" ["_law_state_here", "_law_bound"] 1 f__law_take) : Kno P w Γ mg base "_law_odd" ["_law_state_here"] 2 f__law_odd := by
  exact ⟨f, fd, fn_okO (k := 1) F sc__law_odd (by decide) fun cdv A outer s H E B O => (b_cons (ss O 1 (x_lst (ac x_non (ac x_bl (ac x_bl (ac (en x_int) (ac (eb O x_int x_int) (ac x_str (ac x_str (ac x_str (ac (x_tup an) (ac (x_lst an) (ac x_dic0 (ac (x_tup (ac x_int an)) (ac (x_tup (ac x_int (ac x_int an))) (ac (x_tup (ac x_int (ac x_int an))) (ac (x_tup (ac x_int (ac x_int an))) (ac (x_lst (ac x_int (ac x_int an))) an))))))))))))))))))
    (b_cons (ss O 1 (eb O (ev 1) (x_lst (ac (x_tup (ac x_int (ac x_bl an))) (ac (x_tup (ac (x_tup (ac x_int (ac x_int an))) an)) (ac (x_tup (ac (x_tup (ac x_int (ac x_int an))) (ac (x_tup (ac x_int (ac x_int an))) an))) (ac (x_disp (.cons x_int x_int .nil) (by decide)) (ac (x_tup (ac x_str (ac x_int (ac x_int (ac x_int an))))) (ac (x_tup (ac x_int (ac (en x_int) an))) (ac x_str (ac (x_tup (ac x_int (ac x_int an))) an)))))))))))
    (b_cons (s_ret (eix O (ev 1) (ecn O k__law_take (ac (ev 0) (ac x_int an)))))
    b_nil))), hm, F.kp, F.binds fun _ _ _ _ _ _ us hl => match us, hl with | [_], _ => rfl⟩
abbrev t__law_fraction_text : Stmt := topS 41
theorem sc__law_fraction_text : FnScope ["_law_amount"] ["_law_amount"] (defScope t__law_fraction_text) := ⟨rfl, rfl, rfl, by decide +kernel, rfl, by decide +kernel, by decide +kernel⟩
theorem ok__law_fraction_text {f : Addr} {fd : FuncData} (F : L2.Fun Γ.K "_law_fraction_text" "_law_fraction_text" t__law_fraction_text f fd) (hm : mg "_law_fraction_text" = some (.ref f)) (bn : BN mg) : Kno P w Γ mg base "_law_fraction_text" ["_law_amount"] 1 f__law_fraction_text := by
  exact ⟨f, fd, fn_okO (k := 0) F sc__law_fraction_text (by decide) fun cdv A outer s H E B O => (b_cons (s_ret (eb O (ect (c_str) bn.str (ac (eix O (ev 0) x_int) an)) (x_if (yc O (eix O (ev 0) x_int) x_int) x_str (eb O x_str (ect (c_str) bn.str (ac (eix O (ev 0) x_int) an))))))
    b_nil), hm, F.kp, F.binds fun _ _ _ _ _ _ us hl => match us, hl with | [_], _ => rfl⟩
abbrev t__law_figures : Stmt := topS 42
theorem sc__law_figures : FnScope ["_law_word_here", "_law_sign"] ["_law_word_here"] (defScope t__law_figures) := ⟨rfl, rfl, rfl, by decide +kernel, rfl, by decide +kernel, by decide +kernel⟩
theorem ok__law_figures {f : Addr} {fd : FuncData} (F : L2.Fun Γ.K "_law_figures" "_law_figures" t__law_figures f fd) (hm : mg "_law_figures" = some (.ref f)) (bn : BN mg) : Kno P w Γ mg base "_law_figures" ["_law_word_here"] 1 f__law_figures := by
  exact ⟨f, fd, fn_okO (k := 0) F sc__law_figures (by decide) fun cdv A outer s H E B O => (b_cons (s_if (yw (w_or (yc O (ev 0) x_str) (w_one (.inr rfl) (yc O (el O [("_law_sign", 1)] (iq O (ev 0)) (fun s H C cl fp O => (gn O 1)) (fun s H C cl fp O => (ts_one (yc O (ev 1) x_str))) (fun s H C cl fp O => (ev 1))) (x_lst an))))) (b_cons (s_ret x_non)
    b_nil) b_nil)
    (b_cons (s_ret (x_if (yw (w_or (yc O (ev 0) x_str) (w_one (.inr rfl) (yc O (eix O (ev 0) x_int) x_str)))) (ect (c_int) bn.int (ac (ev 0) an)) x_non))
    b_nil)), hm, F.kp, F.binds fun _ _ _ _ _ _ us hl => match us, hl with | [_], _ => rfl⟩
abbrev t__law_read : Stmt := topS 43
theorem sc__law_read : FnScope ["_law_text", "_law_less", "_law_parts", "_law_numbers", "_law_found", "_law_word_here"] ["_law_text"] (defScope t__law_read) := ⟨rfl, rfl, rfl, by decide +kernel, rfl, by decide +kernel, by decide +kernel⟩
theorem ok__law_read {f : Addr} {fd : FuncData} (F : L2.Fun Γ.K "_law_read" "_law_read" t__law_read f fd) (hm : mg "_law_read" = some (.ref f)) (bn : BN mg) (k__law_figures : Kno P w Γ mg base "_law_figures" ["_law_word_here"] 1 f__law_figures) (k__law_is_fraction : Kno P w Γ mg base "_law_is_fraction" ["_law_what"] 2 f__law_is_fraction) (k__law_fraction_text : Kno P w Γ mg base "_law_fraction_text" ["_law_amount"] 1 f__law_fraction_text) : Kno P w Γ mg base "_law_read" ["_law_text"] 3 f__law_read := by
  exact ⟨f, fd, fn_okO (k := 2) F sc__law_read (by decide) fun cdv A outer s H E B O => (b_cons (ss O 1 (ec O (exs O (ev 0) .none (.some x_int)) x_str))
    (b_cons (ss O 2 (em PySem.F.plainAttrs_str PySem.F.slot_str_split PySem.F.type_str_split (m_split) (exs O (ev 0) (.some (ect (c_int) bn.int (ac (ev 1) an))) .none) (ac x_str an)))
    (b_cons (sl O 3 [("_law_word_here", 5)] (iq O (ev 2)) (fun s H C cl fp O => (gn O 5)) (fun s H C cl fp O => ts_nil) (fun s H C cl fp O => (ecn O k__law_figures (ac (ev 5) an))))
    (b_cons (s_if (yw (w_or (yc O x_non (ev 3)) (w_one (.inr rfl) (yc O (ecb (c_len O.hK) bn.len (ac (ev 2) an)) x_int)))) (b_cons (s_ret x_non)
    b_nil) b_nil)
    (b_cons (ss O 4 (x_tup (ac (x_if (yp O (ev 1)) (eb O x_int (eix O (ev 3) x_int)) (eix O (ev 3) x_int)) (ac (x_if (yc O (ecb (c_len O.hK) bn.len (ac (ev 2) an)) x_int) x_int (eix O (ev 3) x_int)) an))))
    (b_cons (s_ret (x_if (yw (w_and (yp O (ecn O k__law_is_fraction (ac (ev 4) an))) (w_one (.inl rfl) (yc O (ecn O k__law_fraction_text (ac (ev 4) an)) (ev 0))))) (ev 4) x_non))
    b_nil)))))), hm, F.kp, F.binds fun _ _ _ _ _ _ us hl => match us, hl with | [_], _ => rfl⟩
abbrev t__law_bent : Stmt := topS 44
theorem sc__law_bent : FnScope ["_law_state_here", "_law_text", "_law_at", "_law_way", "_law_sign"] ["_law_state_here", "_law_text"] (defScope t__law_bent) := ⟨rfl, rfl, rfl, by decide +kernel, rfl, by decide +kernel, by decide +kernel⟩
theorem ok__law_bent {f : Addr} {fd : FuncData} (F : L2.Fun Γ.K "_law_bent" "_law_bent" t__law_bent f fd) (hm : mg "_law_bent" = some (.ref f)) (bn : BN mg) (k__law_take : Kno P w Γ mg base "_law_take" ["_law_state_here", "_law_bound"] 1 f__law_take) : Kno P w Γ mg base "_law_bent" ["_law_state_here", "_law_text"] 2 f__law_bent := by
  exact ⟨f, fd, fn_okO (k := 1) F sc__law_bent (by decide) fun cdv A outer s H E B O => (b_cons (sp3 O 2 3 4 (hc (ecn O k__law_take (ac (ev 0) (ac (eb O (ecb (c_len O.hK) bn.len (ac (ev 1) an)) x_int) an))) (hc (ecn O k__law_take (ac (ev 0) (ac x_int an))) (hc (eix O x_str (ecn O k__law_take (ac (ev 0) (ac x_int an)))) hn0))))
    (b_cons (s_ret (eix O (x_lst (ac (eb O (eb O (exs O (ev 1) .none (.some (ev 2))) (ev 4)) (exs O (ev 1) (.some (ev 2)) .none)) (ac (eb O (exs O (ev 1) .none (.some (ev 2))) (exs O (ev 1) (.some (eb O (ev 2) x_int)) .none)) (ac (eb O (eb O (exs O (ev 1) .none (.some (ev 2))) (ev 4)) (exs O (ev 1) (.some (eb O (ev 2) x_int)) .none)) (ac (eb O (exs O (ev 1) .none (.some (ev 2))) (exs O (ev 1) (.some (ecb (c_max O.calm) bn.max (ac x_int (ac (eb O (ev 2) x_int) an)))) .none)) an))))) (ev 3)))
    b_nil)), hm, F.kp, F.binds fun _ _ _ _ _ _ us hl => match us, hl with | [_, _], _ => rfl⟩
abbrev t_law : Stmt := topS 45
theorem sc_law : FnScope ["_law_script", "_law_fixed", "_law_k", "_law_state_here", "_law_texts", "_law_turn", "_law_text", "_law_owed", "_law_bad"] ["_law_script"] (defScope t_law) := ⟨rfl, rfl, rfl, by decide +kernel, rfl, by decide +kernel, by decide +kernel⟩
theorem ok_law {word : Ex → Option D} {f : Addr} {fd : FuncData} (F : L2.Fun Γ.K "law" "law" t_law f fd) (hm : mg "law" = some (.ref f)) (bn : BN mg) (k__law_state : Kno P w Γ mg base "_law_state" ["_law_script", "_law_k"] 2 f__law_state) (k__law_take : Kno P w Γ mg base "_law_take" ["_law_state_here", "_law_bound"] 1 f__law_take) (k__law_lowest : Kno P w Γ mg base "_law_lowest" ["_law_top", "_law_bottom"] 2 f__law_lowest) (k__law_fraction_text : Kno P w Γ mg base "_law_fraction_text" ["_law_amount"] 1 f__law_fraction_text) (k__law_bent : Kno P w Γ mg base "_law_bent" ["_law_state_here", "_law_text"] 2 f__law_bent) (k__law_read : Kno P w Γ mg base "_law_read" ["_law_text"] 3 f__law_read) (k_read_fraction : Kno P w Γ mg base "read_fraction" ["text"] 4 f_read_fraction) (k__law_odd : Kno P w Γ mg base "_law_odd" ["_law_state_here"] 2 f__law_odd) (sd : SaidK P w Γ mg base "_law_said" "_law_call" "WaterError" "_law_word" t__law_said 2 word) (hlam : ∃ c Pt, fd.code = .ref c ∧ LamX.TabB base mg c Pt ∧ (Pt, ("law.<locals>.<lambda>" : Str)) ∈ Γ.T ∧ ∀ p ∈ Γ.T, p.1 = Pt → p.2 = ("law.<locals>.<lambda>" : Str)) : FnG P w Γ mg base 7 f fd ["_law_script"] (f_law word) := by
  refine fng_ok (k := 6) F sc_law (by decide) fun cdv A outer s H E B hgd ecd O => ?_
  have lm : LamK (cxOf (L2N.CX P w) P w Γ.K mg base ["_law_script", "_law_fixed", "_law_k", "_law_state_here", "_law_texts", "_law_turn", "_law_text", "_law_owed", "_law_bad"] "law" (defScope t_law) f cdv A outer s H E) Γ "law.<locals>.<lambda>" := let ⟨c, Pt, e1, TB, m, so⟩ := hlam; ⟨c, Pt, TB, ecd.symm.trans e1, m, so⟩
  exact (b_cons (ss O 1 (x_lst (ac x_str (ac x_str (ac x_str (ac x_str (ac x_str (ac x_str (ac x_str (ac x_str (ac x_str (ac x_str (ac x_str (ac x_str (ac x_str (ac x_str (ac x_str (ac x_str an))))))))))))))))))
    (b_cons (ss O 1 (eb O (ev 1) (x_lst (ac x_str (ac x_str (ac x_str (ac x_str (ac x_str (ac x_str (ac x_str (ac x_str (ac x_str (ac x_str (ac x_str (ac x_str (ac x_str (ac x_str an)))))))))))))))))
    (b_cons (ss O 1 (eb O (ev 1) (x_lst (ac x_str (ac x_str an)))))
    (b_cons (sfo O (ir1 bn.range (ecb (c_max O.calm) bn.max (ac x_int (ac (ecb (c_min O.calm) bn.min (ac (ecb (c_len O.hK) bn.len (ac (ev 0) an)) (ac x_int an))) an)))) (gn O 2) (b_cons (ss O 3 (x_pro (ecn O k__law_state (ac (ev 0) (ac (ev 2) an)))))
    (b_cons (ss O 4 (ect (c_list O.hK) bn.list (ac (ev 1) an)))
    (b_cons (sfo O (ir1 bn.range x_int) (gn O 5) (b_cons (ss O 6 (ecn O k__law_fraction_text (ac (ecn O k__law_lowest (ac (ecn O k__law_take (ac (ev 3) (ac x_int an))) (ac (eb O x_int (ecn O k__law_take (ac (ev 3) (ac x_int an)))) an))) an)))
    (b_cons (ss O 4 (eb O (ev 4) (x_lst (ac (ev 6) (ac (eb O x_str (ev 6)) (ac (ecn O k__law_bent (ac (ev 3) (ac (ev 6) an))) (ac (ecn O k__law_bent (ac (ev 3) (ac (ecn O k__law_bent (ac (ev 3) (ac (eb O x_str (ev 6)) an))) an))) an)))))))
    b_nil)))
    (b_cons (sfo O (iq O (ev 4)) (gn O 6) (b_cons (ss O 7 (ecn O k__law_read (ac (ev 6) an)))
    (b_cons (s_if (yc O (ecb (c_repr O.hK hgd O.hu) bn.repr (ac (esd O sd lm (fun A outer s H E f c' B O => (ecn O k_read_fraction (ac (ev 6) an))) sc__law_said) an)) (ecb (c_repr O.hK hgd O.hu) bn.repr (ac (x_if (yc O (ev 7) x_non) (x_tup (ac x_str (ac x_int an))) (x_tup (ac x_str (ac (ev 7) an)))) an))) (b_cons (s_ret x_bl)
    b_nil) b_nil)
    b_nil)))
    (b_cons (sfo O (iq O (x_lst (ac x_non (ac x_int (ac x_bl (ac (x_lst (ac x_str an)) (ac (x_tup (ac x_str (ac x_str an))) (ac (x_tup (ac x_int (ac x_int an))) (ac x_dic0 (ac (ecn O k__law_odd (ac (ev 3) an)) an)))))))))) (gn O 8) (b_cons (s_if (yw (w_and (y_not (yp O (ecb (c_isi O.hK) bn.isinstance (ac (ev 8) (ac (ety bn.str) an))))) (w_one (.inl rfl) (yc O (esd O sd lm (fun A outer s H E f c' B O => (ecn O k_read_fraction (ac (ev 8) an))) sc__law_said) (x_tup (ac x_str (ac x_int an))))))) (b_cons (s_ret x_bl)
    b_nil) b_nil)
    b_nil))
    b_nil))))))
    (b_cons (s_ret x_bl)
    b_nil)))))
abbrev t_ini : Stmt := clsStmt (topS 18) 0
theorem sc_ini : FnScope ["self", "line"] ["self", "line"] (defScope t_ini) := ⟨rfl, rfl, rfl, by decide +kernel, rfl, by decide +kernel, by decide +kernel⟩

end
end Wk

set_option Elab.async false
set_option linter.all false
set_option maxRecDepth 100000
set_option maxHeartbeats 4000000
namespace Wk
open PySem PySem.Spec PyProof.Rows L2 Fw
section
variable {P : Program} {w : World} {Γ : Ct} {mg : Str → Option Value} {base : Heap}
--ALL
theorem all_ok {P : Program} {w : World} {Γ : Ct} {mg : Str → Option Value} {base : Heap} (bn : BN mg) {adr_is_whole : Addr} {fd_is_whole : FuncData} (F_is_whole : L2.Fun Γ.K "is_whole" "is_whole" t_is_whole adr_is_whole fd_is_whole) (m_is_whole : mg "is_whole" = some (.ref adr_is_whole))
    {adr_common : Addr} {fd_common : FuncData} (F_common : L2.Fun Γ.K "common" "common" t_common adr_common fd_common) (m_common : mg "common" = some (.ref adr_common))
    {adr_is_fraction : Addr} {fd_is_fraction : FuncData} (F_is_fraction : L2.Fun Γ.K "is_fraction" "is_fraction" t_is_fraction adr_is_fraction fd_is_fraction) (m_is_fraction : mg "is_fraction" = some (.ref adr_is_fraction))
    {adr_fraction_by : Addr} {fd_fraction_by : FuncData} (F_fraction_by : L2.Fun Γ.K "fraction_by" "fraction_by" t_fraction_by adr_fraction_by fd_fraction_by) (m_fraction_by : mg "fraction_by" = some (.ref adr_fraction_by))
    {adr_number_in : Addr} {fd_number_in : FuncData} (F_number_in : L2.Fun Γ.K "number_in" "number_in" t_number_in adr_number_in fd_number_in) (m_number_in : mg "number_in" = some (.ref adr_number_in))
    {adr_fraction_in : Addr} {fd_fraction_in : FuncData} (F_fraction_in : L2.Fun Γ.K "fraction_in" "fraction_in" t_fraction_in adr_fraction_in fd_fraction_in) (m_fraction_in : mg "fraction_in" = some (.ref adr_fraction_in))
    {adr_read_fraction : Addr} {fd_read_fraction : FuncData} (F_read_fraction : L2.Fun Γ.K "read_fraction" "read_fraction" t_read_fraction adr_read_fraction fd_read_fraction) (m_read_fraction : mg "read_fraction" = some (.ref adr_read_fraction))
    {adr__law_cell_at : Addr} {fd__law_cell_at : FuncData} (F__law_cell_at : L2.Fun Γ.K "_law_cell_at" "_law_cell_at" t__law_cell_at adr__law_cell_at fd__law_cell_at) (m__law_cell_at : mg "_law_cell_at" = some (.ref adr__law_cell_at))
    {adr__law_state : Addr} {fd__law_state : FuncData} (F__law_state : L2.Fun Γ.K "_law_state" "_law_state" t__law_state adr__law_state fd__law_state) (m__law_state : mg "_law_state" = some (.ref adr__law_state))
    {adr__law_take : Addr} {fd__law_take : FuncData} (F__law_take : L2.Fun Γ.K "_law_take" "_law_take" t__law_take adr__law_take fd__law_take) (m__law_take : mg "_law_take" = some (.ref adr__law_take))
    {adr__law_marks_of : Addr} {fd__law_marks_of : FuncData} (F__law_marks_of : L2.Fun Γ.K "_law_marks_of" "_law_marks_of" t__law_marks_of adr__law_marks_of fd__law_marks_of) (m__law_marks_of : mg "_law_marks_of" = some (.ref adr__law_marks_of))
    {adr__law_word : Addr} {fd__law_word : FuncData} (F__law_word : L2.Fun Γ.K "_law_word" "_law_word" t__law_word adr__law_word fd__law_word) (m__law_word : mg "_law_word" = some (.ref adr__law_word))
    {adr__law_said : Addr} {fd__law_said : FuncData} (F__law_said : L2.Fun Γ.K "_law_said" "_law_said" t__law_said adr__law_said fd__law_said) (m__law_said : mg "_law_said" = some (.ref adr__law_said))
    {adr__law_whole : Addr} {fd__law_whole : FuncData} (F__law_whole : L2.Fun Γ.K "_law_whole" "_law_whole" t__law_whole adr__law_whole fd__law_whole) (m__law_whole : mg "_law_whole" = some (.ref adr__law_whole))
    {adr__law_common : Addr} {fd__law_common : FuncData} (F__law_common : L2.Fun Γ.K "_law_common" "_law_common" t__law_common adr__law_common fd__law_common) (m__law_common : mg "_law_common" = some (.ref adr__law_common))
    {adr__law_lowest : Addr} {fd__law_lowest : FuncData} (F__law_lowest : L2.Fun Γ.K "_law_lowest" "_law_lowest" t__law_lowest adr__law_lowest fd__law_lowest) (m__law_lowest : mg "_law_lowest" = some (.ref adr__law_lowest))
    {adr__law_is_fraction : Addr} {fd__law_is_fraction : FuncData} (F__law_is_fraction : L2.Fun Γ.K "_law_is_fraction" "_law_is_fraction" t__law_is_fraction adr__law_is_fraction fd__law_is_fraction) (m__law_is_fraction : mg "_law_is_fraction" = some (.ref adr__law_is_fraction))
    {adr__law_odd : Addr} {fd__law_odd : FuncData} (F__law_odd : L2.Fun Γ.K "_law_odd" "_law_odd" t__law_odd adr__law_odd fd__law_odd) (m__law_odd : mg "_law_odd" = some (.ref adr__law_odd))
    {adr__law_fraction_text : Addr} {fd__law_fraction_text : FuncData} (F__law_fraction_text : L2.Fun Γ.K "_law_fraction_text" "_law_fraction_text" t__law_fraction_text adr__law_fraction_text fd__law_fraction_text) (m__law_fraction_text : mg "_law_fraction_text" = some (.ref adr__law_fraction_text))
    {adr__law_figures : Addr} {fd__law_figures : FuncData} (F__law_figures : L2.Fun Γ.K "_law_figures" "_law_figures" t__law_figures adr__law_figures fd__law_figures) (m__law_figures : mg "_law_figures" = some (.ref adr__law_figures))
    {adr__law_read : Addr} {fd__law_read : FuncData} (F__law_read : L2.Fun Γ.K "_law_read" "_law_read" t__law_read adr__law_read fd__law_read) (m__law_read : mg "_law_read" = some (.ref adr__law_read))
    {adr__law_bent : Addr} {fd__law_bent : FuncData} (F__law_bent : L2.Fun Γ.K "_law_bent" "_law_bent" t__law_bent adr__law_bent fd__law_bent) (m__law_bent : mg "_law_bent" = some (.ref adr__law_bent))
    {adr_law : Addr} {fd_law : FuncData} (F_law : L2.Fun Γ.K "law" "law" t_law adr_law fd_law) (m_law : mg "law" = some (.ref adr_law))
    (ex_NoText : ExT P w Γ mg base "NoText" "line")
    {u_FIGURES : Value} (hc_FIGURES : mg "FIGURES" = some u_FIGURES ∧ KRep Γ.K u_FIGURES d_FIGURES)
    {word : Ex → Option D} (hword : ∀ x d, word x = some d → ((x.cls = "NoText")) ∧ ∀ dd, (dd = none ↔ x.fs = []) → ∀ a st, f__law_word (saidT x.cls) dd a [excD a dd x.fs] st = .ok (.fz d) st)
    (hno_ : PySem.W.findIn Γ.K (.ref (Γ.cl "NoText")) "line" = some none)
    (hC_NoText : ExcC Γ.K (Γ.cl "NoText")) (hV_NoText : PySem.W.kitOne Γ.K (.ref (Γ.cl "NoText")) (.type "ValueError") = some true) (hM_NoText : ∃ A, mg "WaterError" = some (.ref A) ∧ PySem.W.exmOne Γ.K (.ref (Γ.cl "NoText")) (.ref A) = some true)
    (hk_NoText_NoNet : mg "NoNet" = some (.ref (Γ.cl "NoNet")) ∧ PySem.W.kitOne Γ.K (.ref (Γ.cl "NoText")) (.ref (Γ.cl "NoNet")) = some (("NoNet" : Str) == ("NoText" : Str)))
    (hk_NoText_NoCase : mg "NoCase" = some (.ref (Γ.cl "NoCase")) ∧ PySem.W.kitOne Γ.K (.ref (Γ.cl "NoText")) (.ref (Γ.cl "NoCase")) = some (("NoCase" : Str) == ("NoText" : Str)))
    (hk_NoText_NoShut : mg "NoShut" = some (.ref (Γ.cl "NoShut")) ∧ PySem.W.kitOne Γ.K (.ref (Γ.cl "NoText")) (.ref (Γ.cl "NoShut")) = some (("NoShut" : Str) == ("NoText" : Str)))
    (hk_NoText_NoPlace : mg "NoPlace" = some (.ref (Γ.cl "NoPlace")) ∧ PySem.W.kitOne Γ.K (.ref (Γ.cl "NoText")) (.ref (Γ.cl "NoPlace")) = some (("NoPlace" : Str) == ("NoText" : Str)))
    (hk_NoText_NoJoint : mg "NoJoint" = some (.ref (Γ.cl "NoJoint")) ∧ PySem.W.kitOne Γ.K (.ref (Γ.cl "NoText")) (.ref (Γ.cl "NoJoint")) = some (("NoJoint" : Str) == ("NoText" : Str)))
    (hk_NoText_NoPipe : mg "NoPipe" = some (.ref (Γ.cl "NoPipe")) ∧ PySem.W.kitOne Γ.K (.ref (Γ.cl "NoText")) (.ref (Γ.cl "NoPipe")) = some (("NoPipe" : Str) == ("NoText" : Str)))
    (hk_NoText_NoPlan : mg "NoPlan" = some (.ref (Γ.cl "NoPlan")) ∧ PySem.W.kitOne Γ.K (.ref (Γ.cl "NoText")) (.ref (Γ.cl "NoPlan")) = some (("NoPlan" : Str) == ("NoText" : Str)))
    (hk_NoText_NoLevels : mg "NoLevels" = some (.ref (Γ.cl "NoLevels")) ∧ PySem.W.kitOne Γ.K (.ref (Γ.cl "NoText")) (.ref (Γ.cl "NoLevels")) = some (("NoLevels" : Str) == ("NoText" : Str)))
    (hk_NoText_NoReadings : mg "NoReadings" = some (.ref (Γ.cl "NoReadings")) ∧ PySem.W.kitOne Γ.K (.ref (Γ.cl "NoText")) (.ref (Γ.cl "NoReadings")) = some (("NoReadings" : Str) == ("NoText" : Str)))
    (hk_NoText_NoFraction : mg "NoFraction" = some (.ref (Γ.cl "NoFraction")) ∧ PySem.W.kitOne Γ.K (.ref (Γ.cl "NoText")) (.ref (Γ.cl "NoFraction")) = some (("NoFraction" : Str) == ("NoText" : Str)))
    (hk_NoText_NoAmount : mg "NoAmount" = some (.ref (Γ.cl "NoAmount")) ∧ PySem.W.kitOne Γ.K (.ref (Γ.cl "NoText")) (.ref (Γ.cl "NoAmount")) = some (("NoAmount" : Str) == ("NoText" : Str)))
    (hk_NoText_NoMeters : mg "NoMeters" = some (.ref (Γ.cl "NoMeters")) ∧ PySem.W.kitOne Γ.K (.ref (Γ.cl "NoText")) (.ref (Γ.cl "NoMeters")) = some (("NoMeters" : Str) == ("NoText" : Str)))
    (hk_NoText_NoTariff : mg "NoTariff" = some (.ref (Γ.cl "NoTariff")) ∧ PySem.W.kitOne Γ.K (.ref (Γ.cl "NoText")) (.ref (Γ.cl "NoTariff")) = some (("NoTariff" : Str) == ("NoText" : Str)))
    (hk_NoText_NotNow : mg "NotNow" = some (.ref (Γ.cl "NotNow")) ∧ PySem.W.kitOne Γ.K (.ref (Γ.cl "NoText")) (.ref (Γ.cl "NotNow")) = some (("NotNow" : Str) == ("NoText" : Str)))
    (hk_NoText_NoDeed : mg "NoDeed" = some (.ref (Γ.cl "NoDeed")) ∧ PySem.W.kitOne Γ.K (.ref (Γ.cl "NoText")) (.ref (Γ.cl "NoDeed")) = some (("NoDeed" : Str) == ("NoText" : Str)))
    (hk_NoText_NoLine : mg "NoLine" = some (.ref (Γ.cl "NoLine")) ∧ PySem.W.kitOne Γ.K (.ref (Γ.cl "NoText")) (.ref (Γ.cl "NoLine")) = some (("NoLine" : Str) == ("NoText" : Str)))
    (hk_NoText_NoText : mg "NoText" = some (.ref (Γ.cl "NoText")) ∧ PySem.W.kitOne Γ.K (.ref (Γ.cl "NoText")) (.ref (Γ.cl "NoText")) = some (("NoText" : Str) == ("NoText" : Str)))
    (hlam : ∃ c Pt, fd_law.code = .ref c ∧ LamX.TabB base mg c Pt ∧ (Pt, ("law.<locals>.<lambda>" : Str)) ∈ Γ.T ∧ ∀ p ∈ Γ.T, p.1 = Pt → p.2 = ("law.<locals>.<lambda>" : Str)) :
    FnG P w Γ mg base 7 adr_law fd_law ["_law_script"] (f_law word) := by
  have k_is_whole := ok_is_whole (P := P) (w := w) (base := base) F_is_whole m_is_whole bn
  have k_common := ok_common (P := P) (w := w) (base := base) F_common m_common bn
  have k_is_fraction := ok_is_fraction (P := P) (w := w) (base := base) F_is_fraction m_is_fraction bn k_is_whole k_common
  have k_fraction_by := ok_fraction_by (P := P) (w := w) (base := base) F_fraction_by m_fraction_by bn
  have k_number_in := ok_number_in (P := P) (w := w) (base := base) F_number_in m_number_in bn hc_FIGURES
  have k_fraction_in := ok_fraction_in (P := P) (w := w) (base := base) F_fraction_in m_fraction_in bn k_number_in k_is_fraction k_fraction_by
  have k_read_fraction := ok_read_fraction (P := P) (w := w) (base := base) F_read_fraction m_read_fraction bn k_fraction_in ex_NoText
  have k__law_cell_at := ok__law_cell_at (P := P) (w := w) (base := base) F__law_cell_at m__law_cell_at bn
  have k__law_state := ok__law_state (P := P) (w := w) (base := base) F__law_state m__law_state bn k__law_cell_at
  have k__law_take := ok__law_take (P := P) (w := w) (base := base) F__law_take m__law_take bn
  have k__law_whole := ok__law_whole (P := P) (w := w) (base := base) F__law_whole m__law_whole bn
  have k__law_common := ok__law_common (P := P) (w := w) (base := base) F__law_common m__law_common bn
  have k__law_lowest := ok__law_lowest (P := P) (w := w) (base := base) F__law_lowest m__law_lowest bn k__law_common
  have k__law_is_fraction := ok__law_is_fraction (P := P) (w := w) (base := base) F__law_is_fraction m__law_is_fraction bn k__law_whole k__law_common
  have k__law_odd := ok__law_odd (P := P) (w := w) (base := base) F__law_odd m__law_odd bn k__law_take
  have k__law_fraction_text := ok__law_fraction_text (P := P) (w := w) (base := base) F__law_fraction_text m__law_fraction_text bn
  have k__law_figures := ok__law_figures (P := P) (w := w) (base := base) F__law_figures m__law_figures bn
  have k__law_read := ok__law_read (P := P) (w := w) (base := base) F__law_read m__law_read bn k__law_figures k__law_is_fraction k__law_fraction_text
  have k__law_bent := ok__law_bent (P := P) (w := w) (base := base) F__law_bent m__law_bent bn k__law_take
  have hk_NoText : ∀ C : Str, clsN.contains C = true → mg C = some (.ref (Γ.cl C)) ∧ PySem.W.kitOne Γ.K (.ref (Γ.cl "NoText")) (.ref (Γ.cl C)) = some (saidT "NoText" C) := by
    intro C hC
    have hm := List.contains_iff_mem.mp hC
    simp only [clsN, List.mem_cons, List.not_mem_nil, or_false] at hm
    rcases hm with rfl | rfl | rfl | rfl | rfl | rfl | rfl | rfl | rfl | rfl | rfl | rfl | rfl | rfl | rfl | rfl | rfl
    · exact hk_NoText_NoNet
    · exact hk_NoText_NoCase
    · exact hk_NoText_NoShut
    · exact hk_NoText_NoPlace
    · exact hk_NoText_NoJoint
    · exact hk_NoText_NoPipe
    · exact hk_NoText_NoPlan
    · exact hk_NoText_NoLevels
    · exact hk_NoText_NoReadings
    · exact hk_NoText_NoFraction
    · exact hk_NoText_NoAmount
    · exact hk_NoText_NoMeters
    · exact hk_NoText_NoTariff
    · exact hk_NoText_NotNow
    · exact hk_NoText_NoDeed
    · exact hk_NoText_NoLine
    · exact hk_NoText_NoText
  have sd : SaidK P w Γ mg base "_law_said" "_law_call" "WaterError" "_law_word" t__law_said 2 word := by
    refine ⟨⟨adr__law_said, fd__law_said, F__law_said, m__law_said, F__law_said.binds fun _ _ _ _ _ _ us hl => match us, hl with | [_], _ => rfl⟩, ⟨_, hM_NoText.choose_spec.1⟩, ⟨fun x d hx => ?_⟩⟩
    obtain ⟨h2, h3⟩ := hword x d hx
    refine ⟨?_, fun dd hdd => ?_⟩
    · rcases h2 with h2
      · rw [h2]; exact hM_NoText
    · have h3 := h3 dd hdd
      rcases h2 with h2
      · rw [h2] at h3 ⊢
        have hno : ∀ d, dd = some d → PySem.W.findIn Γ.K (.ref (Γ.cl "NoText")) "line" = some none := fun _ _ => hno_
        have k1 := ok__law_marks_of (P := P) (w := w) (base := base) (cc := "NoText") (T := saidT "NoText") (dd := dd) F__law_marks_of m__law_marks_of bn hC_NoText hV_NoText hk_NoText hno
        exact ⟨_, _, ok__law_word F__law_word m__law_word bn hC_NoText hV_NoText hk_NoText hno k1, h3⟩
  exact ok_law (P := P) (w := w) (base := base) F_law m_law bn k__law_state k__law_take k__law_lowest k__law_fraction_text k__law_bent k__law_read k_read_fraction k__law_odd sd hlam
end
end Wk

set_option Elab.async false
open PySem PySem.W PyProof.Rows
set_option maxHeartbeats 0 in
set_option maxRecDepth 100000 in
theorem PySem.Challenge.cw_waterheads_k73_texts_that_write_no_fract_holds : PySem.Challenge.rw_waterheads_k73_texts_that_write_no_fract.Holds := by
  w_on; o_law; k_head; (case hw => w_witness2)
  k_fill
  refine Fw.walkG (l := PySem.Challenge.rw_waterheads_k73_texts_that_write_no_fract) (n := 63) (k := 7) (x := "_law_script") rfl (by decide) rfl ⟨rfl, by decide, by decide⟩ (fun w h Y => PySem.W.km_in_of Y) ?F
  case F =>
    intro w mg fa h Y KX G hmg
    have bn : Fw.BN mg := by
      constructor
      all_goals refine PySem.W.mg_none_of KX G ?_
      all_goals k_is
    have F_is_whole := Fw.funK_mk (x := "is_whole") (st := Wk.t_is_whole) KX G (by k_is) (by k_is) (by k_is) (by k_is)
    have F_common := Fw.funK_mk (x := "common") (st := Wk.t_common) KX G (by k_is) (by k_is) (by k_is) (by k_is)
    have F_is_fraction := Fw.funK_mk (x := "is_fraction") (st := Wk.t_is_fraction) KX G (by k_is) (by k_is) (by k_is) (by k_is)
    have F_fraction_by := Fw.funK_mk (x := "fraction_by") (st := Wk.t_fraction_by) KX G (by k_is) (by k_is) (by k_is) (by k_is)
    have F_number_in := Fw.funK_mk (x := "number_in") (st := Wk.t_number_in) KX G (by k_is) (by k_is) (by k_is) (by k_is)
    have F_fraction_in := Fw.funK_mk (x := "fraction_in") (st := Wk.t_fraction_in) KX G (by k_is) (by k_is) (by k_is) (by k_is)
    have F_read_fraction := Fw.funK_mk (x := "read_fraction") (st := Wk.t_read_fraction) KX G (by k_is) (by k_is) (by k_is) (by k_is)
    have F__law_cell_at := Fw.funK_mk (x := "_law_cell_at") (st := Wk.t__law_cell_at) KX G (by k_is) (by k_is) (by k_is) (by k_is)
    have F__law_state := Fw.funK_mk (x := "_law_state") (st := Wk.t__law_state) KX G (by k_is) (by k_is) (by k_is) (by k_is)
    have F__law_take := Fw.funK_mk (x := "_law_take") (st := Wk.t__law_take) KX G (by k_is) (by k_is) (by k_is) (by k_is)
    have F__law_marks_of := Fw.funK_mk (x := "_law_marks_of") (st := Wk.t__law_marks_of) KX G (by k_is) (by k_is) (by k_is) (by k_is)
    have F__law_word := Fw.funK_mk (x := "_law_word") (st := Wk.t__law_word) KX G (by k_is) (by k_is) (by k_is) (by k_is)
    have F__law_said := Fw.funK_mk (x := "_law_said") (st := Wk.t__law_said) KX G (by k_is) (by k_is) (by k_is) (by k_is)
    have F__law_whole := Fw.funK_mk (x := "_law_whole") (st := Wk.t__law_whole) KX G (by k_is) (by k_is) (by k_is) (by k_is)
    have F__law_common := Fw.funK_mk (x := "_law_common") (st := Wk.t__law_common) KX G (by k_is) (by k_is) (by k_is) (by k_is)
    have F__law_lowest := Fw.funK_mk (x := "_law_lowest") (st := Wk.t__law_lowest) KX G (by k_is) (by k_is) (by k_is) (by k_is)
    have F__law_is_fraction := Fw.funK_mk (x := "_law_is_fraction") (st := Wk.t__law_is_fraction) KX G (by k_is) (by k_is) (by k_is) (by k_is)
    have F__law_odd := Fw.funK_mk (x := "_law_odd") (st := Wk.t__law_odd) KX G (by k_is) (by k_is) (by k_is) (by k_is)
    have F__law_fraction_text := Fw.funK_mk (x := "_law_fraction_text") (st := Wk.t__law_fraction_text) KX G (by k_is) (by k_is) (by k_is) (by k_is)
    have F__law_figures := Fw.funK_mk (x := "_law_figures") (st := Wk.t__law_figures) KX G (by k_is) (by k_is) (by k_is) (by k_is)
    have F__law_read := Fw.funK_mk (x := "_law_read") (st := Wk.t__law_read) KX G (by k_is) (by k_is) (by k_is) (by k_is)
    have F__law_bent := Fw.funK_mk (x := "_law_bent") (st := Wk.t__law_bent) KX G (by k_is) (by k_is) (by k_is) (by k_is)
    have ex_NoText := fun T => Fw.exT_mk (T := T) (c := "NoText") (qual := "NoText.__init__") (st := Wk.t_ini) KX G (by k_is) (by k_is) (by k_is) (by k_is) (by k_is) (by k_is) (by k_is) (by k_is) (by k_is) (by k_is) (by k_is) (by k_is) (by k_is) (by k_is) (by k_is) (by k_is) (by k_is) (by decide +kernel) Wk.sc_ini rfl rfl rfl rfl (fun _ => rfl) (fun _ _ _ _ _ _ us hl => match us, hl with | [_, _], _ => rfl)
    have hC_NoText := Fw.excA_mk (cc := "NoText") KX (by k_is) (by k_is) (by k_is) (by k_is) (by k_is) (by k_is) (by k_is) (by k_is) (by k_is)
    have hV_NoText := Fw.kitV_mk (cc := "NoText") KX (by k_is) (by k_is)
    have hM_NoText := Fw.exmC_mk (cc := "NoText") (C := "WaterError") KX G (by k_is) (by k_is) (by k_is) (by k_is) (by k_is) (by k_is)
    have hk_NoText_NoNet := Fw.kitC_mk (cc := "NoText") (C := "NoNet") KX G (by k_is) (by k_is) (by k_is) (by k_is) (by k_is) (by decide) (by kernel_rfl)
    have hk_NoText_NoCase := Fw.kitC_mk (cc := "NoText") (C := "NoCase") KX G (by k_is) (by k_is) (by k_is) (by k_is) (by k_is) (by decide) (by kernel_rfl)
    have hk_NoText_NoShut := Fw.kitC_mk (cc := "NoText") (C := "NoShut") KX G (by k_is) (by k_is) (by k_is) (by k_is) (by k_is) (by decide) (by kernel_rfl)
    have hk_NoText_NoPlace := Fw.kitC_mk (cc := "NoText") (C := "NoPlace") KX G (by k_is) (by k_is) (by k_is) (by k_is) (by k_is) (by decide) (by kernel_rfl)
    have hk_NoText_NoJoint := Fw.kitC_mk (cc := "NoText") (C := "NoJoint") KX G (by k_is) (by k_is) (by k_is) (by k_is) (by k_is) (by decide) (by kernel_rfl)
    have hk_NoText_NoPipe := Fw.kitC_mk (cc := "NoText") (C := "NoPipe") KX G (by k_is) (by k_is) (by k_is) (by k_is) (by k_is) (by decide) (by kernel_rfl)
    have hk_NoText_NoPlan := Fw.kitC_mk (cc := "NoText") (C := "NoPlan") KX G (by k_is) (by k_is) (by k_is) (by k_is) (by k_is) (by decide) (by kernel_rfl)
    have hk_NoText_NoLevels := Fw.kitC_mk (cc := "NoText") (C := "NoLevels") KX G (by k_is) (by k_is) (by k_is) (by k_is) (by k_is) (by decide) (by kernel_rfl)
    have hk_NoText_NoReadings := Fw.kitC_mk (cc := "NoText") (C := "NoReadings") KX G (by k_is) (by k_is) (by k_is) (by k_is) (by k_is) (by decide) (by kernel_rfl)
    have hk_NoText_NoFraction := Fw.kitC_mk (cc := "NoText") (C := "NoFraction") KX G (by k_is) (by k_is) (by k_is) (by k_is) (by k_is) (by decide) (by kernel_rfl)
    have hk_NoText_NoAmount := Fw.kitC_mk (cc := "NoText") (C := "NoAmount") KX G (by k_is) (by k_is) (by k_is) (by k_is) (by k_is) (by decide) (by kernel_rfl)
    have hk_NoText_NoMeters := Fw.kitC_mk (cc := "NoText") (C := "NoMeters") KX G (by k_is) (by k_is) (by k_is) (by k_is) (by k_is) (by decide) (by kernel_rfl)
    have hk_NoText_NoTariff := Fw.kitC_mk (cc := "NoText") (C := "NoTariff") KX G (by k_is) (by k_is) (by k_is) (by k_is) (by k_is) (by decide) (by kernel_rfl)
    have hk_NoText_NotNow := Fw.kitC_mk (cc := "NoText") (C := "NotNow") KX G (by k_is) (by k_is) (by k_is) (by k_is) (by k_is) (by decide) (by kernel_rfl)
    have hk_NoText_NoDeed := Fw.kitC_mk (cc := "NoText") (C := "NoDeed") KX G (by k_is) (by k_is) (by k_is) (by k_is) (by k_is) (by decide) (by kernel_rfl)
    have hk_NoText_NoLine := Fw.kitC_mk (cc := "NoText") (C := "NoLine") KX G (by k_is) (by k_is) (by k_is) (by k_is) (by k_is) (by decide) (by kernel_rfl)
    have hk_NoText_NoText := Fw.kitC_mk (cc := "NoText") (C := "NoText") KX G (by k_is) (by k_is) (by k_is) (by k_is) (by k_is) (by decide) (by kernel_rfl)
    have hno_ := Fw.hno_mk (c := "NoText") (f := "line") KX (by k_is) (by k_is)
    have hc_FIGURES := Fw.con_mk (c := "FIGURES") (d := Wk.d_FIGURES) KX G (by k_is) (by kernel_rfl)
    refine Fw.lawG_mk1 (st := Wk.t_law) (fn := Wk.f_law Lk.word) (n := 63) (q := "law.<locals>.<lambda>") KX G hmg (by k_is) (by k_is) (by k_is) (by k_is) (by k_is) (by kernel_rfl) (PySem.W.km_tabs_of Y _ (by decide)) (by kernel_rfl) (fun _ _ _ _ _ _ _ _ => .of_eq rfl) Lk.wish ?_
    intro fd base FL kb gb hlam
    obtain ⟨f_is_whole, fd_is_whole, F_is_whole, m_is_whole⟩ := F_is_whole.ex
    obtain ⟨f_common, fd_common, F_common, m_common⟩ := F_common.ex
    obtain ⟨f_is_fraction, fd_is_fraction, F_is_fraction, m_is_fraction⟩ := F_is_fraction.ex
    obtain ⟨f_fraction_by, fd_fraction_by, F_fraction_by, m_fraction_by⟩ := F_fraction_by.ex
    obtain ⟨f_number_in, fd_number_in, F_number_in, m_number_in⟩ := F_number_in.ex
    obtain ⟨f_fraction_in, fd_fraction_in, F_fraction_in, m_fraction_in⟩ := F_fraction_in.ex
    obtain ⟨f_read_fraction, fd_read_fraction, F_read_fraction, m_read_fraction⟩ := F_read_fraction.ex
    obtain ⟨f__law_cell_at, fd__law_cell_at, F__law_cell_at, m__law_cell_at⟩ := F__law_cell_at.ex
    obtain ⟨f__law_state, fd__law_state, F__law_state, m__law_state⟩ := F__law_state.ex
    obtain ⟨f__law_take, fd__law_take, F__law_take, m__law_take⟩ := F__law_take.ex
    obtain ⟨f__law_marks_of, fd__law_marks_of, F__law_marks_of, m__law_marks_of⟩ := F__law_marks_of.ex
    obtain ⟨f__law_word, fd__law_word, F__law_word, m__law_word⟩ := F__law_word.ex
    obtain ⟨f__law_said, fd__law_said, F__law_said, m__law_said⟩ := F__law_said.ex
    obtain ⟨f__law_whole, fd__law_whole, F__law_whole, m__law_whole⟩ := F__law_whole.ex
    obtain ⟨f__law_common, fd__law_common, F__law_common, m__law_common⟩ := F__law_common.ex
    obtain ⟨f__law_lowest, fd__law_lowest, F__law_lowest, m__law_lowest⟩ := F__law_lowest.ex
    obtain ⟨f__law_is_fraction, fd__law_is_fraction, F__law_is_fraction, m__law_is_fraction⟩ := F__law_is_fraction.ex
    obtain ⟨f__law_odd, fd__law_odd, F__law_odd, m__law_odd⟩ := F__law_odd.ex
    obtain ⟨f__law_fraction_text, fd__law_fraction_text, F__law_fraction_text, m__law_fraction_text⟩ := F__law_fraction_text.ex
    obtain ⟨f__law_figures, fd__law_figures, F__law_figures, m__law_figures⟩ := F__law_figures.ex
    obtain ⟨f__law_read, fd__law_read, F__law_read, m__law_read⟩ := F__law_read.ex
    obtain ⟨f__law_bent, fd__law_bent, F__law_bent, m__law_bent⟩ := F__law_bent.ex
    obtain ⟨u_FIGURES, hc_FIGURES⟩ := hc_FIGURES
    exact Wk.all_ok bn F_is_whole m_is_whole F_common m_common F_is_fraction m_is_fraction F_fraction_by m_fraction_by F_number_in m_number_in F_fraction_in m_fraction_in F_read_fraction m_read_fraction F__law_cell_at m__law_cell_at F__law_state m__law_state F__law_take m__law_take F__law_marks_of m__law_marks_of F__law_word m__law_word F__law_said m__law_said F__law_whole m__law_whole F__law_common m__law_common F__law_lowest m__law_lowest F__law_is_fraction m__law_is_fraction F__law_odd m__law_odd F__law_fraction_text m__law_fraction_text F__law_figures m__law_figures F__law_read m__law_read F__law_bent m__law_bent FL hmg (ex_NoText _ _ _ _) hc_FIGURES Lk.hword hno_ hC_NoText hV_NoText hM_NoText hk_NoText_NoNet hk_NoText_NoCase hk_NoText_NoShut hk_NoText_NoPlace hk_NoText_NoJoint hk_NoText_NoPipe hk_NoText_NoPlan hk_NoText_NoLevels hk_NoText_NoReadings hk_NoText_NoFraction hk_NoText_NoAmount hk_NoText_NoMeters hk_NoText_NoTariff hk_NoText_NotNow hk_NoText_NoDeed hk_NoText_NoLine hk_NoText_NoText hlam
