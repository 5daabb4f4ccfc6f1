import PyProof.Rows.All
import Wide.All
import OpenK.AllK
import Wide.FinOn
import HandS.ForMost
import HandS.Wide
import HandS.Defaults
import HandS.Style
import HandS.SortInts
import PyProof.ReprRoads
import PyProof.ReprBulk
import HandS.Rev
import HandS.More
import HandS.EndBits
import HandS.HeadHook2
import HandS.Head2
import HandS.DictComp
import HandS.Deep
import HandS.TryOnly
import PySem.Challenge.RW_fewproducts_k06_whole_products_of_all_si
import HandS.Head0
import HandS.Head1
import HandS.HeadEnd
import HandS.HeadHook1
set_option Elab.async false
set_option linter.all false
set_option maxRecDepth 100000
/-! ghost layer, part 1: data as trees, a ledger of mutable objects, readings without a heap -/
namespace Gh
open PySem PySem.Spec L2

/-- what stands written in the program -/
class KK where
  K : PySem.W.Frag
variable [KK]
/-- data as trees; scr: a list that is read alone (the script, a constant); ptr: an object of the ledger -/
inductive D where
  | non | bl (b : Bool) | int (i : Int) | str (s : Str)
  | lst (ds : List D) | tup (ds : List D) | dic (kvs : List (Key × D)) | scr (ds : List D) | ptr (a : Addr)
/-- a mutable object -/
inductive O where
  | lst (ds : List D) | dic (kvs : List (Key × D))
abbrev Led := Addr → Option O
def put (L : Led) (a : Addr) (o : O) : Led := fun b => if b = a then some o else L b
theorem put_same {L : Led} {a : Addr} {o : O} : put L a o a = some o := if_pos rfl
theorem put_ne {L : Led} {a b : Addr} {o : O} (h : b ≠ a) : put L a o b = L b := if_neg h
theorem put_put {L : Led} {a : Addr} {o u : O} : put (put L a o) a u = put L a u := by
  funext b
  unfold put
  by_cases h : b = a
  · rw [if_pos h, if_pos h]
  · rw [if_neg h, if_neg h, if_neg h]

def Ext (F F' : Hp) : Prop := ∀ a o, F a = some o → F' a = some o
theorem Ext.refl (F : Hp) : Ext F F := fun _ _ h => h
theorem Ext.trans {F F1 F2 : Hp} (a : Ext F F1) (b : Ext F1 F2) : Ext F F2 := fun x o h => b x o (a x o h)
theorem Ext.new {F : Hp} {p : Addr} {o : HO} (h : F p = none) : Ext F (upd F p o) := fun a u e => by
  rw [upd_ne (ne_of_none e h)]
  exact e
theorem Ext.free {F H : Hp} (e : Ext F H) {p : Addr} (h : H p = none) : F p = none := by
  cases q : F p with
  | none => rfl
  | some o => rw [e p o q] at h; cases h

theorem ext_rd {F F' : Hp} {a : Addr} {u : HO} (e : Ext F F') (h : Rd F a u) : Rd F' a u := by
  rcases h with h | ⟨o, h⟩
  · exact .inl (e a _ h)
  · exact .inr ⟨o, e a _ h⟩
theorem ext_l {K : PySem.W.Frag} {F F' : Hp} {a : Addr} {xs : List V} (e : Ext F F') (h : SqL K F a xs) : SqL K F' a xs := h.imp (ext_rd e) id
theorem ext_t {K : PySem.W.Frag} {F F' : Hp} {a : Addr} {xs : List V} (e : Ext F F') (h : SqT K F a xs) : SqT K F' a xs := h.imp (ext_rd e) id

mutual
/-- a value stands for a tree, by the objects of F -/
inductive Rp (F : Hp) : V → D → Prop
  | non : Rp F .non .non
  | bl (b : Bool) : Rp F (.bl b) (.bl b)
  | int (i : Int) : Rp F (.int i) (.int i)
  | str (s : Str) : Rp F (.str s) (.str s)
  | ptr (a : Addr) : Rp F (.ref a) (.ptr a)
  | lst {a : Addr} {xs : List V} {ds : List D} : F a = some (.lst xs) → Rps F xs ds → Rp F (.ref a) (.lst ds)
  | tup {a : Addr} {xs : List V} {ds : List D} : SqT KK.K F a xs → Rps F xs ds → Rp F (.ref a) (.tup ds)
  | scr {a : Addr} {xs : List V} {ds : List D} : SqL KK.K F a xs → Rps F xs ds → Rp F (.ref a) (.scr ds)
  | dic {a : Addr} {xs : List (Key × V)} {ds : List (Key × D)} : F a = some (.dK xs) → RpK F xs ds → Rp F (.ref a) (.dic ds)
inductive Rps (F : Hp) : List V → List D → Prop
  | nil : Rps F [] []
  | cons {v : V} {d : D} {vs : List V} {ds : List D} : Rp F v d → Rps F vs ds → Rps F (v :: vs) (d :: ds)
inductive RpK (F : Hp) : List (Key × V) → List (Key × D) → Prop
  | nil : RpK F [] []
  | cons {k : Key} {v : V} {d : D} {vs : List (Key × V)} {ds : List (Key × D)} : Rp F v d → RpK F vs ds → RpK F ((k, v) :: vs) ((k, d) :: ds)
end

mutual
theorem Rp.mono {F F' : Hp} (e : Ext F F') : ∀ {v : V} {d : D}, Rp F v d → Rp F' v d
  | _, _, .non => .non
  | _, _, .bl b => .bl b
  | _, _, .int i => .int i
  | _, _, .str s => .str s
  | _, _, .ptr a => .ptr a
  | _, _, .lst h r => .lst (e _ _ h) (Rps.mono e r)
  | _, _, .tup h r => .tup (ext_t e h) (Rps.mono e r)
  | _, _, .scr h r => .scr (ext_l e h) (Rps.mono e r)
  | _, _, .dic h r => .dic (e _ _ h) (RpK.mono e r)
theorem Rps.mono {F F' : Hp} (e : Ext F F') : ∀ {v : List V} {d : List D}, Rps F v d → Rps F' v d
  | _, _, .nil => .nil
  | _, _, .cons h r => .cons (Rp.mono e h) (Rps.mono e r)
theorem RpK.mono {F F' : Hp} (e : Ext F F') : ∀ {v : List (Key × V)} {d : List (Key × D)}, RpK F v d → RpK F' v d
  | _, _, .nil => .nil
  | _, _, .cons h r => .cons (Rp.mono e h) (RpK.mono e r)
end

section
variable {F : Hp}
theorem Rps.length : ∀ {xs : List V} {ds : List D}, Rps F xs ds → xs.length = ds.length
  | _, _, .nil => rfl
  | _, _, .cons _ r => by rw [List.length_cons, List.length_cons, Rps.length r]
theorem Rps.get : ∀ {xs : List V} {ds : List D} {i : Nat} {d : D}, Rps F xs ds → ds[i]? = some d → ∃ v, xs[i]? = some v ∧ Rp F v d
  | _, _, i, _, .nil, e => by simp at e
  | _, _, 0, _, .cons h _, e => by simp at e; subst e; exact ⟨_, rfl, h⟩
  | _, _, i + 1, d, .cons _ r, e => by
    obtain ⟨v, h1, h2⟩ := Rps.get (i := i) (d := d) r (by simpa using e)
    exact ⟨v, by simpa using h1, h2⟩
theorem Rps.gev : ∀ {xs : List V} {ds : List D} {i : Nat} {v : V}, Rps F xs ds → xs[i]? = some v → ∃ d, ds[i]? = some d ∧ Rp F v d
  | _, _, i, _, .nil, e => by simp at e
  | _, _, 0, _, .cons h _, e => by simp at e; subst e; exact ⟨_, rfl, h⟩
  | _, _, i + 1, v, .cons _ r, e => by
    obtain ⟨d, h1, h2⟩ := Rps.gev (i := i) (v := v) r (by simpa using e)
    exact ⟨d, by simpa using h1, h2⟩
theorem Rps.append : ∀ {xs ys : List V} {ds es : List D}, Rps F xs ds → Rps F ys es → Rps F (xs ++ ys) (ds ++ es)
  | _, _, _, _, .nil, s => s
  | _, _, _, _, .cons h r, s => .cons h (Rps.append r s)
theorem Rps.take : ∀ {xs : List V} {ds : List D} (n : Nat), Rps F xs ds → Rps F (xs.take n) (ds.take n)
  | _, _, 0, _ => by rw [List.take_zero, List.take_zero]; exact .nil
  | _, _, _ + 1, .nil => .nil
  | _, _, n + 1, .cons h r => .cons h (Rps.take n r)
theorem Rps.drop : ∀ {xs : List V} {ds : List D} (n : Nat), Rps F xs ds → Rps F (xs.drop n) (ds.drop n)
  | _, _, 0, r => r
  | _, _, _ + 1, .nil => .nil
  | _, _, n + 1, .cons h r => Rps.drop n r
theorem Rps.set {v : V} {d : D} (h : Rp F v d) : ∀ {xs : List V} {ds : List D} (i : Nat), Rps F xs ds → Rps F (xs.set i v) (ds.set i d)
  | _, _, _, .nil => .nil
  | _, _, 0, .cons _ r => .cons h r
  | _, _, i + 1, .cons q r => .cons q (Rps.set h i r)
theorem Rps.reverse : ∀ {xs : List V} {ds : List D}, Rps F xs ds → Rps F xs.reverse ds.reverse
  | _, _, .nil => .nil
  | _, _, .cons h r => by rw [List.reverse_cons, List.reverse_cons]; exact (Rps.reverse r).append (.cons h .nil)
theorem Rps.ints : ∀ {xs : List V} {ns : List Int}, Rps F xs (ns.map D.int) → xs = ns.map V.int
  | _, [], .nil => rfl
  | _, n :: r, .cons h t => by
    cases h
    rw [Rps.ints t]
    rfl
theorem Rps.of_ints : ∀ (ns : List Int), Rps F (ns.map V.int) (ns.map D.int)
  | [] => .nil
  | n :: r => .cons (.int n) (Rps.of_ints r)
theorem Rps.bls : ∀ {xs : List V} {ns : List Bool}, Rps F xs (ns.map D.bl) → xs = ns.map V.bl
  | _, [], .nil => rfl
  | _, n :: r, .cons h t => by
    cases h
    rw [Rps.bls t]
    rfl
end

def RpO (F : Hp) : HO → O → Prop
  | .lst xs, .lst ds => Rps F xs ds
  | .dK xs, .dic ds => RpK F xs ds
  | _, _ => False
theorem RpO.mono {F F' : Hp} (e : Ext F F') : ∀ {h : HO} {o : O}, RpO F h o → RpO F' h o := by
  intro h o r
  cases h <;> cases o <;> first | exact r.elim | exact Rps.mono e r | exact RpK.mono e r
theorem RpO.lst_inv {F : Hp} {h : HO} {ds : List D} (r : RpO F h (.lst ds)) : ∃ xs, h = .lst xs ∧ Rps F xs ds := by
  cases h <;> first | exact r.elim | exact ⟨_, rfl, r⟩
theorem RpO.dic_inv {F : Hp} {h : HO} {ds : List (Key × D)} (r : RpO F h (.dic ds)) : ∃ xs, h = .dK xs ∧ RpK F xs ds := by
  cases h <;> first | exact r.elim | exact ⟨_, rfl, r⟩

/-- the heap holds the frozen part and the ledger's objects, apart -/
structure Ok (F H : Hp) (L : Led) : Prop where
  ex : Ext F H
  led : ∀ a o, L a = some o → F a = none ∧ ∃ h, H a = some h ∧ RpO F h o

theorem Ok.fresh {F H : Hp} {L : Led} (k : Ok F H L) {p : Addr} (h : H p = none) : L p = none := by
  cases q : L p with
  | none => rfl
  | some o =>
    obtain ⟨_, u, e, _⟩ := k.led p o q
    rw [h] at e; cases e
/-- a new frozen object -/
theorem Ok.froz {F H : Hp} {L : Led} (k : Ok F H L) {p : Addr} {u : HO} (h : H p = none) : Ok (upd F p u) (upd H p u) L := by
  have hF : F p = none := k.ex.free h
  refine ⟨fun a o e => ?_, fun a o e => ?_⟩
  · by_cases q : a = p
    · subst q; rw [upd_same] at e ⊢; exact e
    · rw [upd_ne q] at e ⊢; exact k.ex a o e
  · obtain ⟨e1, v, e2, r⟩ := k.led a o e
    have q : a ≠ p := ne_of_none e2 h
    exact ⟨by rw [upd_ne q]; exact e1, v, by rw [upd_ne q]; exact e2, r.mono (Ext.new hF)⟩
/-- a new object of the ledger -/
theorem Ok.newO {F H : Hp} {L : Led} (k : Ok F H L) {p : Addr} {u : HO} {o : O} (h : H p = none) (r : RpO F u o) : Ok F (upd H p u) (put L p o) := by
  refine ⟨k.ex.trans (Ext.new h), fun a x e => ?_⟩
  by_cases q : a = p
  · subst q
    rw [put_same] at e; cases e
    exact ⟨k.ex.free h, u, upd_same, r⟩
  · rw [put_ne q] at e
    obtain ⟨e1, v, e2, r2⟩ := k.led a x e
    exact ⟨e1, v, by rw [upd_ne q]; exact e2, r2⟩
/-- an object of the ledger is written -/
theorem Ok.write {F H : Hp} {L : Led} (k : Ok F H L) {p : Addr} {u : HO} {o o' : O} (h : L p = some o) (r : RpO F u o') : Ok F (upd H p u) (put L p o') := by
  have hF := (k.led p o h).1
  refine ⟨fun a x e => ?_, fun a x e => ?_⟩
  · have q : a ≠ p := ne_of_none e hF
    rw [upd_ne q]; exact k.ex a x e
  · by_cases q : a = p
    · subst q
      rw [put_same] at e; cases e
      exact ⟨hF, u, upd_same, r⟩
    · rw [put_ne q] at e
      obtain ⟨e1, v, e2, r2⟩ := k.led a x e
      exact ⟨e1, v, by rw [upd_ne q]; exact e2, r2⟩

/-! ### slots -/
abbrev Gm := List (Option D)
def lk : Gm → Nat → Option D
  | [], _ => none
  | x :: _, 0 => x
  | _ :: r, i + 1 => lk r i
def stt : Gm → Nat → D → Gm
  | [], _, _ => []
  | _ :: r, 0, d => some d :: r
  | x :: r, i + 1, d => x :: stt r i d
inductive Sl (F : Hp) : St → Gm → Prop
  | nil : Sl F [] []
  | cons {x : Option V} {g : Option D} {σ : St} {Γ : Gm} : (∀ d, g = some d → ∃ v, x = some v ∧ Rp F v d) → Sl F σ Γ → Sl F (x :: σ) (g :: Γ)
theorem Sl.mono {F F' : Hp} (e : Ext F F') : ∀ {σ : St} {Γ : Gm}, Sl F σ Γ → Sl F' σ Γ
  | _, _, .nil => .nil
  | _, _, .cons h r => .cons (fun d q => let ⟨v, a, b⟩ := h d q; ⟨v, a, b.mono e⟩) (Sl.mono e r)
theorem Sl.get {F : Hp} {d : D} : ∀ {σ : St} {Γ : Gm} {i : Nat}, Sl F σ Γ → lk Γ i = some d → ∃ v, σ[i]? = some (some v) ∧ Rp F v d
  | _, _, _, .nil, e => by simp [lk] at e
  | _, _, 0, .cons h _, e => by
    obtain ⟨v, a, b⟩ := h d e
    exact ⟨v, by rw [a]; rfl, b⟩
  | _, _, i + 1, .cons _ r, e => by
    obtain ⟨v, a, b⟩ := Sl.get (i := i) r e
    exact ⟨v, by simpa using a, b⟩
theorem Sl.set {F : Hp} {v : V} {d : D} (h : Rp F v d) : ∀ {σ : St} {Γ : Gm} (i : Nat), Sl F σ Γ → Sl F (σ.set i (some v)) (stt Γ i d)
  | _, _, _, .nil => .nil
  | _, _, 0, .cons _ r => .cons (fun e q => by cases q; exact ⟨v, rfl, h⟩) r
  | _, _, i + 1, .cons q r => .cons q (Sl.set h i r)
/-- forgetting -/
def Wk : Gm → Gm → Prop
  | [], [] => True
  | x :: r, y :: s => (y = none ∨ x = y) ∧ Wk r s
  | _, _ => False
theorem Sl.weak {F : Hp} : ∀ {σ : St} {Γ Γ' : Gm}, Sl F σ Γ → Wk Γ Γ' → Sl F σ Γ'
  | _, _, [], .nil, _ => .nil
  | _, _, _ :: _, .nil, h => h.elim
  | _, _, [], .cons _ _, h => h.elim
  | _, _, y :: s, .cons q r, h => .cons (fun d e => by
      rcases h.1 with z | z
      · rw [z] at e; cases e
      · exact q d (z.trans e)) (Sl.weak r h.2)

/-! ### readings without a heap -/
abbrev Ps := D → Led → Prop
abbrev GT := Gm → Led → Ps → Prop
abbrev GB := Gm → Led → (Bool → Led → Prop) → Prop
abbrev GA := Gm → Led → (List D → Led → Prop) → Prop
structure GEnds where
  nx : Gm → Led → Prop
  rt : Ps
  bk : Gm → Led → Prop := fun _ _ => False
  ct : Gm → Led → Prop := fun _ _ => False
abbrev GS := GEnds → Gm → Led → Prop

def Kn (F : Hp) (post : Ps) (Q : VK) : Prop := ∀ v d F' H' L', post d L' → Rp F' v d → Ext F F' → Ok F' H' L' → Q v H'
def KB (F : Hp) (post : Bool → Led → Prop) (Q : Bool → Hp → Prop) : Prop := ∀ b F' H' L', post b L' → Ext F F' → Ok F' H' L' → Q b H'
def KA (F : Hp) (post : List D → Led → Prop) (Q : List V → Hp → Prop) : Prop := ∀ v d F' H' L', post d L' → Rps F' v d → Ext F F' → Ok F' H' L' → Q v H'
def KX (F : Hp) (e : Gm → Led → Prop) (Q : St → Hp → Prop) : Prop := ∀ σ' F' H' Γ' L', e Γ' L' → Sl F' σ' Γ' → Ext F F' → Ok F' H' L' → Q σ' H'
theorem Kn.mono {F F1 : Hp} {post : Ps} {Q : VK} (k : Kn F post Q) (e : Ext F F1) : Kn F1 post Q := fun v d F' H' L' p r e' o => k v d F' H' L' p r (e.trans e') o
theorem KB.mono {F F1 : Hp} {post : Bool → Led → Prop} {Q : Bool → Hp → Prop} (k : KB F post Q) (e : Ext F F1) : KB F1 post Q := fun b F' H' L' p e' o => k b F' H' L' p (e.trans e') o
theorem KA.mono {F F1 : Hp} {post : List D → Led → Prop} {Q : List V → Hp → Prop} (k : KA F post Q) (e : Ext F F1) : KA F1 post Q := fun v d F' H' L' p r e' o => k v d F' H' L' p r (e.trans e') o
theorem KX.mono {F F1 : Hp} {x : Gm → Led → Prop} {Q : St → Hp → Prop} (k : KX F x Q) (e : Ext F F1) : KX F1 x Q := fun σ' F' H' Γ' L' p s e' o => k σ' F' H' Γ' L' p s (e.trans e') o
structure KS (F : Hp) (E : GEnds) (D : Ends) : Prop where
  nx : KX F E.nx D.nx
  rt : Kn F E.rt D.rt
  bk : KX F E.bk D.bk
  ct : KX F E.ct D.ct
theorem KS.mono {F F1 : Hp} {E : GEnds} {D : Ends} (k : KS F E D) (e : Ext F F1) : KS F1 E D := ⟨k.nx.mono e, k.rt.mono e, k.bk.mono e, k.ct.mono e⟩

def SimE (t : TE) (g : GT) : Prop := ∀ σ F H Γ L post Q, Sl F σ Γ → Ok F H L → g Γ L post → Kn F post Q → t σ H Q
def SimB (t : TT) (g : GB) : Prop := ∀ σ F H Γ L post Q, Sl F σ Γ → Ok F H L → g Γ L post → KB F post Q → t σ H Q
def SimA (t : TA) (g : GA) : Prop := ∀ σ F H Γ L post Q, Sl F σ Γ → Ok F H L → g Γ L post → KA F post Q → t σ H Q
def SimS (t : TS) (g : GS) : Prop := ∀ σ F H Γ L E D, Sl F σ Γ → Ok F H L → g E Γ L → KS F E D → t D σ H
/-- by values -/
def Sim2 (r : R2) (g : D → D → Led → Ps → Prop) : Prop := ∀ x y dx dy F H L post Q, Rp F x dx → Rp F y dy → Ok F H L → g dx dy L post → Kn F post Q → r x y H Q
def Sim1 (r : V → Hp → VK → Prop) (g : D → Led → Ps → Prop) : Prop := ∀ x dx F H L post Q, Rp F x dx → Ok F H L → g dx L post → Kn F post Q → r x H Q
def SimC (r : List V → Hp → VK → Prop) (g : List D → Led → Ps → Prop) : Prop := ∀ xs ds F H L post Q, Rps F xs ds → Ok F H L → g ds L post → Kn F post Q → r xs H Q
def SimM (r : V → List V → Hp → VK → Prop) (g : D → List D → Led → Ps → Prop) : Prop := ∀ x dx xs ds F H L post Q, Rp F x dx → Rps F xs ds → Ok F H L → g dx ds L post → Kn F post Q → r x xs H Q

section
variable {ι : Type}
/-- of a family of contexts: one reading for all of them -/
def GE (X : ι → Cx) (e : Expr) (g : GT) : Prop := ∃ t, (∀ i, PE (X i) e t) ∧ SimE t g
def GEb (X : ι → Cx) (e : Expr) (g : GB) : Prop := ∃ t, (∀ i, PT (X i) e t) ∧ SimB t g
def GWb (X : ι → Cx) (e : Expr) (g : GB) : Prop := ∃ t, (∀ i, PW (X i) e t) ∧ SimB t g
def GEa (X : ι → Cx) (es : List Expr) (g : GA) : Prop := ∃ t, (∀ i, PA (X i) es t) ∧ SimA t g
def GSt (X : ι → Cx) (s : Stmt) (g : GS) : Prop := ∃ t, (∀ i, PS (X i) s t) ∧ SimS t g
def GSs (X : ι → Cx) (s : List Stmt) (g : GS) : Prop := ∃ t, (∀ i, PSs (X i) s t) ∧ SimS t g
end

/-! ### expressions -/
section
variable {ι : Type} {X : ι → Cx} {pos : Pos} {a b c : Expr} {ga gb gc : GT} {es : List Expr} {gs : GA} {gt gu : GB} {rest : List Expr}
def gVar (i : Nat) : GT := fun Γ L post => match lk Γ i with | some d => post d L | none => False
theorem sim_var {i : Nat} : SimE (tVar i) (gVar i) := fun σ F H Γ L post Q hs ok hg k => by
  unfold gVar at hg
  cases e : lk Γ i with
  | none => rw [e] at hg; exact hg.elim
  | some d =>
    rw [e] at hg
    obtain ⟨v, h1, h2⟩ := hs.get e
    exact ⟨v, h1, k v d F H L hg h2 (Ext.refl F) ok⟩
theorem gv (i : Nat) {x : Str} (hN : ∀ q, (X q).N[i]? = some x := by intro _; rfl) (hv : ∀ q, Vis (X q).env.scope x := by first | exact fun _ => Or.inl rfl | exact fun _ => Or.inr (Or.inl rfl) | exact fun _ => Or.inr (Or.inr rfl)) (hd : (x == ("__debug__" : Str)) = false := by decide)
    (hcd : (x == ("__classdict__" : Str)) = false := by decide) : GE X (.Name x pos) (gVar i) := ⟨_, fun q => pv i (hN q) (hv q) hd hcd, sim_var⟩
def gC (d : D) : GT := fun _ L post => post d L
theorem sim_c {v : V} {d : D} (h : ∀ F, Rp F v d) : SimE (tC v) (gC d) := fun _ F H _ L _ _ _ ok hg k => k v d F H L hg (h F) (Ext.refl F) ok
theorem g_int {i j} : GE X (.Constant (.int i) j pos) (gC (.int i)) := ⟨_, fun _ => pe_int, sim_c fun _ => .int i⟩
theorem g_bl {i j} : GE X (.Constant (.bool i) j pos) (gC (.bl i)) := ⟨_, fun _ => pe_bl, sim_c fun _ => .bl i⟩
theorem g_non {j} : GE X (.Constant .none j pos) (gC .non) := ⟨_, fun _ => pe_non, sim_c fun _ => .non⟩
theorem g_str {i j} : GE X (.Constant (.str i) j pos) (gC (.str i)) := ⟨_, fun _ => pe_str, sim_c fun _ => .str i⟩

def g2 (r : D → D → Led → Ps → Prop) (ga gb : GT) : GT := fun Γ L post => ga Γ L fun x L1 => gb Γ L1 fun y L2 => r x y L2 post
theorem sim_2 {r : R2} {g : D → D → Led → Ps → Prop} {ta tb : TE} (hr : Sim2 r g) (ha : SimE ta ga) (hb : SimE tb gb) : SimE (tOp r ta tb) (g2 g ga gb) := fun σ F H Γ L post Q hs ok hg k =>
  ha σ F H Γ L _ _ hs ok hg fun v d F1 H1 L1 hp hrp e ok1 =>
    hb σ F1 H1 Γ L1 _ _ (hs.mono e) ok1 hp fun v2 d2 F2 H2 L2 hp2 hr2 e2 ok2 =>
      hr v v2 d d2 F2 H2 L2 post Q (hrp.mono e2) hr2 ok2 hp2 (k.mono (e.trans e2))
theorem g_op {op : Operator} {r : R2} {g : D → D → Led → Ps → Prop} (ho : ∀ q, OpR (X q) (binaryOp op) r) (hr : Sim2 r g) (ha : GE X a ga) (hb : GE X b gb) : GE X (.BinOp a op b pos) (g2 g ga gb) :=
  let ⟨_, pa, sa⟩ := ha; let ⟨_, pb, sb⟩ := hb; ⟨_, fun q => pe_op (ho q) (pa q) (pb q), sim_2 hr sa sb⟩
theorem g_cmp {op : CmpOp} {r : R2} {g : D → D → Led → Ps → Prop} (ho : ∀ q, OpR (X q) (compareOp op) r) (hr : Sim2 r g) (ha : GE X a ga) (hb : GE X b gb) (hm : behindInMarks op b = false) : GE X (.Compare a [op] [b] pos) (g2 g ga gb) :=
  let ⟨_, pa, sa⟩ := ha; let ⟨_, pb, sb⟩ := hb; ⟨_, fun q => pe_cmpR (ho q) (pa q) (pb q) hm, sim_2 hr sa sb⟩
/-- a value that is a truth value, as a test -/
def gTst (g : GT) : GB := fun Γ L post => g Γ L fun d L1 => match d with | .bl k => post k L1 | _ => False
theorem Rp.bl_inv {F : Hp} {v : V} {b : Bool} (h : Rp F v (.bl b)) : v = .bl b := by cases h; rfl
theorem Rp.int_inv {F : Hp} {v : V} {b : Int} (h : Rp F v (.int b)) : v = .int b := by cases h; rfl
theorem Rp.str_inv {F : Hp} {v : V} {b : Str} (h : Rp F v (.str b)) : v = .str b := by cases h; rfl
theorem Rp.non_inv {F : Hp} {v : V} (h : Rp F v .non) : v = .non := by cases h; rfl
theorem Rp.ptr_inv {F : Hp} {v : V} {a : Addr} (h : Rp F v (.ptr a)) : v = .ref a := by cases h; rfl
theorem sim_tst {t : TE} {g : GT} (h : SimE t g) : SimB (tTest t) (gTst g) := fun σ F H Γ L post Q hs ok hg k =>
  h σ F H Γ L _ _ hs ok hg fun v d F1 H1 L1 hp hr e ok1 => by
    cases d with
    | bl c => exact ⟨c, hr.bl_inv, k c F1 H1 L1 hp e ok1⟩
    | _ => exact hp.elim
theorem sim_tB {t : TE} {g : GT} (h : SimE t g) : SimB (tB t) (gTst g) := sim_tst h
theorem b_cmp {op : CmpOp} {r : R2} {g : D → D → Led → Ps → Prop} (ho : ∀ q, OpR (X q) (compareOp op) r) (hr : Sim2 r g) (ha : GE X a ga) (hb : GE X b gb) (hm : behindInMarks op b = false) : GEb X (.Compare a [op] [b] pos) (gTst (g2 g ga gb)) :=
  let ⟨_, pa, sa⟩ := ha; let ⟨_, pb, sb⟩ := hb; ⟨_, fun q => pt_cmpR (ho q) (pa q) (pb q) hm, sim_tst (sim_2 hr sa sb)⟩
theorem b_val (ha : GE X a ga) (he : ∀ q whole, isTrue a (X q).env whole = (do let v ← whole; standAt a.pos; holding [v] (truthy v)) := by intro _ _; rfl) : GEb X a (gTst ga) :=
  let ⟨_, pa, sa⟩ := ha; ⟨_, fun q => pt_val (pa q) (he q), sim_tB sa⟩

/-! operators on numbers -/
def rN (C : Int → Int → Prop) (f : Int → Int → D) : D → D → Led → Ps → Prop := fun x y L post => match x, y with | .int i, .int j => C i j ∧ post (f i j) L | _, _ => False
def rM (f : Int → Int → D) : D → D → Led → Ps → Prop := fun x y L post => match x, y with | .int i, .int j => post (f i j) L | _, _ => False
theorem sim_N {C : Int → Int → Prop} {f : Int → Int → Int} : Sim2 (rI C fun i j => .int (f i j)) (rN C fun i j => .int (f i j)) := fun x y dx dy F H L post Q rx ry ok hg k => by
  cases dx with
  | int i => cases dy with
    | int j => exact ⟨i, j, rx.int_inv, ry.int_inv, hg.1, k _ _ F H L hg.2 (.int _) (Ext.refl F) ok⟩
    | _ => exact hg.elim
  | _ => exact hg.elim
theorem sim_M {f : Int → Int → Int} : Sim2 (rI0 fun i j => .int (f i j)) (rM fun i j => .int (f i j)) := fun x y dx dy F H L post Q rx ry ok hg k => by
  cases dx with
  | int i => cases dy with
    | int j => exact ⟨i, j, rx.int_inv, ry.int_inv, k _ _ F H L hg (.int _) (Ext.refl F) ok⟩
    | _ => exact hg.elim
  | _ => exact hg.elim
theorem sim_MB {f : Int → Int → Bool} : Sim2 (rI0 fun i j => .bl (f i j)) (rM fun i j => .bl (f i j)) := fun x y dx dy F H L post Q rx ry ok hg k => by
  cases dx with
  | int i => cases dy with
    | int j => exact ⟨i, j, rx.int_inv, ry.int_inv, k _ _ F H L hg (.bl _) (Ext.refl F) ok⟩
    | _ => exact hg.elim
  | _ => exact hg.elim
theorem g_add (ha : GE X a ga) (hb : GE X b gb) : GE X (.BinOp a .Add b pos) (g2 (rM fun i j => .int (i + j)) ga gb) := g_op (fun _ => op_add) sim_M ha hb
theorem g_sub (ha : GE X a ga) (hb : GE X b gb) : GE X (.BinOp a .Sub b pos) (g2 (rM fun i j => .int (i - j)) ga gb) := g_op (fun _ => op_sub) sim_M ha hb
theorem g_mul (ha : GE X a ga) (hb : GE X b gb) : GE X (.BinOp a .Mult b pos) (g2 (rN CMul fun i j => .int (i * j)) ga gb) := g_op (fun _ => op_mul) sim_N ha hb
theorem g_mulW (ha : GE X a ga) (hb : GE X b gb) : GE X (.BinOp a .Mult b pos) (g2 (rN CMulW fun i j => .int (i * j)) ga gb) := g_op (fun _ => op_mulW) sim_N ha hb
theorem g_div (ha : GE X a ga) (hb : GE X b gb) : GE X (.BinOp a .FloorDiv b pos) (g2 (rN CDivW fun i j => .int (i / j)) ga gb) := g_op (fun _ => op_fdivW) sim_N ha hb
theorem g_mod (ha : GE X a ga) (hb : GE X b gb) : GE X (.BinOp a .Mod b pos) (g2 (rN (fun _ j => 0 < j) fun i j => .int (i % j)) ga gb) := g_op (fun _ => op_mod) sim_N ha hb
theorem g_pow (ha : GE X a ga) (hb : GE X b gb) : GE X (.BinOp a .Pow b pos) (g2 (rN CPow fun i j => .int (i ^ j.toNat)) ga gb) := g_op (fun _ => op_pow) sim_N ha hb
theorem g_lt (ha : GE X a ga) (hb : GE X b gb) : GE X (.Compare a [.Lt] [b] pos) (g2 (rM fun i j => .bl (decide (i < j))) ga gb) := g_cmp (fun _ => op_lt) sim_MB ha hb (nomark _)
theorem g_le (ha : GE X a ga) (hb : GE X b gb) : GE X (.Compare a [.LtE] [b] pos) (g2 (rM fun i j => .bl (decide (i ≤ j))) ga gb) := g_cmp (fun _ => op_le) sim_MB ha hb (nomark _)
theorem g_gt (ha : GE X a ga) (hb : GE X b gb) : GE X (.Compare a [.Gt] [b] pos) (g2 (rM fun i j => .bl (decide (j < i))) ga gb) := g_cmp (fun _ => op_gt) sim_MB ha hb (nomark _)
theorem g_ge (ha : GE X a ga) (hb : GE X b gb) : GE X (.Compare a [.GtE] [b] pos) (g2 (rM fun i j => .bl (decide (j ≤ i))) ga gb) := g_cmp (fun _ => op_ge) sim_MB ha hb (nomark _)
theorem b_lt (ha : GE X a ga) (hb : GE X b gb) : GEb X (.Compare a [.Lt] [b] pos) (gTst (g2 (rM fun i j => .bl (decide (i < j))) ga gb)) := b_cmp (fun _ => op_lt) sim_MB ha hb (nomark _)
theorem b_le (ha : GE X a ga) (hb : GE X b gb) : GEb X (.Compare a [.LtE] [b] pos) (gTst (g2 (rM fun i j => .bl (decide (i ≤ j))) ga gb)) := b_cmp (fun _ => op_le) sim_MB ha hb (nomark _)
theorem b_gt (ha : GE X a ga) (hb : GE X b gb) : GEb X (.Compare a [.Gt] [b] pos) (gTst (g2 (rM fun i j => .bl (decide (j < i))) ga gb)) := b_cmp (fun _ => op_gt) sim_MB ha hb (nomark _)
theorem b_ge (ha : GE X a ga) (hb : GE X b gb) : GEb X (.Compare a [.GtE] [b] pos) (gTst (g2 (rM fun i j => .bl (decide (j ≤ i))) ga gb)) := b_cmp (fun _ => op_ge) sim_MB ha hb (nomark _)
/-- == and != of scalars of one kind -/
def rQ (neg : Bool) : D → D → Led → Ps → Prop := fun x y L post => match x, y with
  | .int i, .int j => post (.bl (neg ^^ decide (i = j))) L
  | .str i, .str j => post (.bl (neg ^^ decide (i = j))) L
  | .bl i, .bl j => post (.bl (neg ^^ decide (i = j))) L
  | _, _ => False
theorem sim_eq : Sim2 rEq (rQ false) := fun x y dx dy F H L post Q rx ry ok hg k => by
  cases dx <;> cases dy <;> first
    | exact hg.elim
    | (cases rx; cases ry
       refine ⟨rfl, k _ _ F H L hg ?_ (Ext.refl F) ok⟩
       simp only [V.int.injEq, V.str.injEq, V.bl.injEq, Bool.false_xor]
       exact .bl _)
theorem sim_ne : Sim2 rNe (rQ true) := fun x y dx dy F H L post Q rx ry ok hg k => by
  cases dx <;> cases dy <;> first
    | exact hg.elim
    | (cases rx; cases ry
       refine ⟨rfl, k _ _ F H L hg ?_ (Ext.refl F) ok⟩
       simp only [V.int.injEq, V.str.injEq, V.bl.injEq, Bool.true_xor]
       exact .bl _)
theorem g_eq (ha : GE X a ga) (hb : GE X b gb) : GE X (.Compare a [.Eq] [b] pos) (g2 (rQ false) ga gb) := g_cmp (fun _ => op_eq) sim_eq ha hb (nomark _)
theorem g_ne (ha : GE X a ga) (hb : GE X b gb) : GE X (.Compare a [.NotEq] [b] pos) (g2 (rQ true) ga gb) := g_cmp (fun _ => op_ne) sim_ne ha hb (nomark _)
theorem b_eq (ha : GE X a ga) (hb : GE X b gb) : GEb X (.Compare a [.Eq] [b] pos) (gTst (g2 (rQ false) ga gb)) := b_cmp (fun _ => op_eq) sim_eq ha hb (nomark _)
theorem b_ne (ha : GE X a ga) (hb : GE X b gb) : GEb X (.Compare a [.NotEq] [b] pos) (gTst (g2 (rQ true) ga gb)) := b_cmp (fun _ => op_ne) sim_ne ha hb (nomark _)
/-- is None -/
def isN : D → Bool
  | .non => true
  | _ => false
def rNn (neg : Bool) : D → D → Led → Ps → Prop := fun x y L post => match y with | .non => post (.bl (neg ^^ isN x)) L | _ => False
theorem Rp.isN {F : Hp} {v : V} {d : D} (h : Rp F v d) : decide (v = .non) = isN d := by cases h <;> rfl
theorem sim_is : Sim2 (fun x y H Q => y = .non ∧ Q (.bl (decide (x = .non))) H) (rNn false) := fun x y dx dy F H L post Q rx ry ok hg k => by
  cases dy <;> first
    | exact hg.elim
    | (cases ry
       refine ⟨rfl, k _ _ F H L hg ?_ (Ext.refl F) ok⟩
       rw [rx.isN, Bool.false_xor]
       exact .bl _)
theorem sim_isnt : Sim2 (fun x y H Q => y = .non ∧ Q (.bl (!decide (x = .non))) H) (rNn true) := fun x y dx dy F H L post Q rx ry ok hg k => by
  cases dy <;> first
    | exact hg.elim
    | (cases ry
       refine ⟨rfl, k _ _ F H L hg ?_ (Ext.refl F) ok⟩
       rw [rx.isN, Bool.true_xor]
       exact .bl _)
theorem g_is (ha : GE X a ga) (hb : GE X b gb) : GE X (.Compare a [.Is] [b] pos) (g2 (rNn false) ga gb) := g_cmp (fun _ => op_isN) sim_is ha hb (nomark _)
theorem g_isnt (ha : GE X a ga) (hb : GE X b gb) : GE X (.Compare a [.IsNot] [b] pos) (g2 (rNn true) ga gb) := g_cmp (fun _ => op_notN) sim_isnt ha hb (nomark _)
theorem b_is (ha : GE X a ga) (hb : GE X b gb) : GEb X (.Compare a [.Is] [b] pos) (gTst (g2 (rNn false) ga gb)) := b_cmp (fun _ => op_isN) sim_is ha hb (nomark _)
theorem b_isnt (ha : GE X a ga) (hb : GE X b gb) : GEb X (.Compare a [.IsNot] [b] pos) (gTst (g2 (rNn true) ga gb)) := b_cmp (fun _ => op_notN) sim_isnt ha hb (nomark _)
end
end Gh

/-! ghost layer, part 2: tests, displays, arguments, built-ins, subscripts, dicts -/
namespace Gh
open PySem PySem.Spec L2
variable [KK]

section
variable {ι : Type} {X : ι → Cx} {pos : Pos} {a b c e : Expr} {ga gb gc : GT} {es : List Expr} {gs : GA} {gt gu : GB} {rest : List Expr}

/-! ### tests -/
def gNot (gt : GB) : GB := fun Γ L post => gt Γ L fun k L1 => post (!k) L1
def gAnd (gt gu : GB) : GB := fun Γ L post => gt Γ L fun k L1 => (k = true → gu Γ L1 post) ∧ (k = false → post false L1)
def gOr (gt gu : GB) : GB := fun Γ L post => gt Γ L fun k L1 => (k = true → post true L1) ∧ (k = false → gu Γ L1 post)
theorem b_not (h : GEb X a gt) : GEb X (.UnaryOp .Not a pos) (gNot gt) :=
  let ⟨_, p, s⟩ := h
  ⟨_, fun q => pt_not (p q), fun σ F H Γ L post Q hs ok hg k => s σ F H Γ L _ _ hs ok hg fun b F' H' L' hp e o => k (!b) F' H' L' hp e o⟩
theorem w_and1 (h : GEb X a gt) : GWb X (.BoolOp .And [a] pos) gt := let ⟨_, p, s⟩ := h; ⟨_, fun q => pw_and1 (p q), s⟩
theorem w_or1 (h : GEb X a gt) : GWb X (.BoolOp .Or [a] pos) gt := let ⟨_, p, s⟩ := h; ⟨_, fun q => pw_or1 (p q), s⟩
theorem w_and (h : GEb X a gt) (h2 : GWb X (.BoolOp .And (b :: rest) pos) gu) : GWb X (.BoolOp .And (a :: b :: rest) pos) (gAnd gt gu) :=
  let ⟨_, p, s⟩ := h; let ⟨_, p2, s2⟩ := h2
  ⟨_, fun q => pw_and (p q) (p2 q), fun σ F H Γ L post Q hs ok hg k => s σ F H Γ L _ _ hs ok hg fun b F' H' L' hp e o => by
    cases b with
    | true =>
      rw [if_pos rfl]
      exact s2 σ F' H' Γ L' post Q (hs.mono e) o (hp.1 rfl) (k.mono e)
    | false =>
      rw [if_neg Bool.false_ne_true]
      exact k false F' H' L' (hp.2 rfl) e o⟩
theorem w_or (h : GEb X a gt) (h2 : GWb X (.BoolOp .Or (b :: rest) pos) gu) : GWb X (.BoolOp .Or (a :: b :: rest) pos) (gOr gt gu) :=
  let ⟨_, p, s⟩ := h; let ⟨_, p2, s2⟩ := h2
  ⟨_, fun q => pw_or (p q) (p2 q), fun σ F H Γ L post Q hs ok hg k => s σ F H Γ L _ _ hs ok hg fun b F' H' L' hp e o => by
    cases b with
    | true =>
      rw [if_pos rfl]
      exact k true F' H' L' (hp.1 rfl) e o
    | false =>
      rw [if_neg Bool.false_ne_true]
      exact s2 σ F' H' Γ L' post Q (hs.mono e) o (hp.2 rfl) (k.mono e)⟩
theorem b_w (h : GWb X a gt) : GEb X a gt := let ⟨_, p, s⟩ := h; ⟨_, fun q => (p q).pt, s⟩
/-- .. as values -/
def gAndV (ga gb : GT) : GT := fun Γ L post => ga Γ L fun d L1 => match d with | .bl k => (k = true → gb Γ L1 post) ∧ (k = false → post (.bl false) L1) | _ => False
def gOrV (ga gb : GT) : GT := fun Γ L post => ga Γ L fun d L1 => match d with | .bl k => (k = true → post (.bl true) L1) ∧ (k = false → gb Γ L1 post) | _ => False
def gNotV (ga : GT) : GT := fun Γ L post => ga Γ L fun d L1 => match d with | .bl k => post (.bl (!k)) L1 | _ => False
theorem g_one {op} (h : GE X a ga) : GE X (.BoolOp op [a] pos) ga := let ⟨_, p, s⟩ := h; ⟨_, fun q => pe_one (p q), s⟩
theorem g_and (h : GE X a ga) (h2 : GE X (.BoolOp .And (b :: rest) pos) gb) : GE X (.BoolOp .And (a :: b :: rest) pos) (gAndV ga gb) :=
  let ⟨_, p, s⟩ := h; let ⟨_, p2, s2⟩ := h2
  ⟨_, fun q => pe_and (p q) (p2 q), fun σ F H Γ L post Q hs ok hg k => s σ F H Γ L _ _ hs ok hg fun v d F' H' L' hp hr e o => by
    cases d with
    | bl c =>
      refine ⟨c, hr.bl_inv, ?_⟩
      cases c with
      | true =>
        rw [if_pos rfl]
        exact s2 σ F' H' Γ L' post Q (hs.mono e) o (hp.1 rfl) (k.mono e)
      | false =>
        rw [if_neg Bool.false_ne_true]
        exact k _ _ F' H' L' (hp.2 rfl) (.bl false) e o
    | _ => exact hp.elim⟩
theorem g_or (h : GE X a ga) (h2 : GE X (.BoolOp .Or (b :: rest) pos) gb) : GE X (.BoolOp .Or (a :: b :: rest) pos) (gOrV ga gb) :=
  let ⟨_, p, s⟩ := h; let ⟨_, p2, s2⟩ := h2
  ⟨_, fun q => pe_or (p q) (p2 q), fun σ F H Γ L post Q hs ok hg k => s σ F H Γ L _ _ hs ok hg fun v d F' H' L' hp hr e o => by
    cases d with
    | bl c =>
      refine ⟨c, hr.bl_inv, ?_⟩
      cases c with
      | true =>
        rw [if_pos rfl]
        exact k _ _ F' H' L' (hp.1 rfl) (.bl true) e o
      | false =>
        rw [if_neg Bool.false_ne_true]
        exact s2 σ F' H' Γ L' post Q (hs.mono e) o (hp.2 rfl) (k.mono e)
    | _ => exact hp.elim⟩
theorem g_not (h : GE X a ga) : GE X (.UnaryOp .Not a pos) (gNotV ga) :=
  let ⟨_, p, s⟩ := h
  ⟨_, fun q => pe_not (p q), fun σ F H Γ L post Q hs ok hg k => s σ F H Γ L _ _ hs ok hg fun v d F' H' L' hp hr e o => by
    cases d with
    | bl c => exact ⟨c, hr.bl_inv, k _ _ F' H' L' hp (.bl _) e o⟩
    | _ => exact hp.elim⟩
def gIfE (gt : GB) (ga gb : GT) : GT := fun Γ L post => gt Γ L fun k L1 => (k = true → ga Γ L1 post) ∧ (k = false → gb Γ L1 post)
theorem g_ite (h : GEb X c gt) (ha : GE X a ga) (hb : GE X b gb) : GE X (.IfExp c a b pos) (gIfE gt ga gb) :=
  let ⟨_, p, s⟩ := h; let ⟨_, p1, s1⟩ := ha; let ⟨_, p2, s2⟩ := hb
  ⟨_, fun q => pe_ifExp (p q) (p1 q) (p2 q), fun σ F H Γ L post Q hs ok hg k => s σ F H Γ L _ _ hs ok hg fun b F' H' L' hp e o => by
    cases b with
    | true =>
      rw [if_pos rfl]
      exact s1 σ F' H' Γ L' post Q (hs.mono e) o (hp.1 rfl) (k.mono e)
    | false =>
      rw [if_neg Bool.false_ne_true]
      exact s2 σ F' H' Γ L' post Q (hs.mono e) o (hp.2 rfl) (k.mono e)⟩

/-- -x of a number -/
def gNeg (ga : GT) : GT := fun Γ L post => ga Γ L fun d L1 => match d with | .int i => post (.int (-i)) L1 | _ => False
theorem g_neg (h : GE X a ga) : GE X (.UnaryOp .USub a pos) (gNeg ga) :=
  let ⟨_, p, s⟩ := h
  ⟨_, fun q => pe_un un_neg (p q), fun σ F H Γ L post Q hs ok hg k => s σ F H Γ L _ _ hs ok hg fun v d F' H' L' hp hr e o => by
    cases d with
    | int c => exact ⟨c, hr.int_inv, k _ _ F' H' L' hp (.int _) e o⟩
    | _ => exact hp.elim⟩

/-! ### arguments, displays -/
def gaNil : GA := fun _ L post => post [] L
def gaCons (ga : GT) (gs : GA) : GA := fun Γ L post => ga Γ L fun d L1 => gs Γ L1 fun ds L2 => post (d :: ds) L2
theorem sim_nil : SimA tNil gaNil := fun _ F H _ L _ _ _ ok hg k => k [] [] F H L hg .nil (Ext.refl F) ok
theorem sim_cons {t : TE} {u : TA} (h : SimE t ga) (h2 : SimA u gs) : SimA (tCons t u) (gaCons ga gs) := fun σ F H Γ L post Q hs ok hg k =>
  h σ F H Γ L _ _ hs ok hg fun v d F1 H1 L1 hp hr e o => h2 σ F1 H1 Γ L1 _ _ (hs.mono e) o hp fun vs ds F2 H2 L2 hp2 hr2 e2 o2 =>
    k (v :: vs) (d :: ds) F2 H2 L2 hp2 (.cons (hr.mono e2) hr2) (e.trans e2) o2
theorem a_nil : GEa X [] gaNil := ⟨_, fun _ => pa_nil, sim_nil⟩
theorem a_cons (h : GE X e ga) (h2 : GEa X es gs) (hs : ∀ q, starEach (e :: es) (X q).env = (false, eval e (X q).env) :: starEach es (X q).env := by intro _; rfl) : GEa X (e :: es) (gaCons ga gs) :=
  let ⟨_, p, s⟩ := h; let ⟨_, p2, s2⟩ := h2; ⟨_, fun q => pa_cons (p q) (p2 q) (hs q), sim_cons s s2⟩
def gTupD (gs : GA) : GT := fun Γ L post => gs Γ L fun ds L1 => ds.length ≤ sizeLine ∧ post (.tup ds) L1
def gLstF (gs : GA) : GT := fun Γ L post => gs Γ L fun ds L1 => ds.length ≤ sizeLine ∧ post (.lst ds) L1
def gLstO (gs : GA) : GT := fun Γ L post => gs Γ L fun ds L1 => ds.length ≤ sizeLine ∧ ∀ p, L1 p = none → post (.ptr p) (put L1 p (.lst ds))
/-- a new frozen thing, a new thing of the ledger -/
theorem Kn.froz {F F1 H1 : Hp} {L1 : Led} {post : Ps} {Q : VK} (k : Kn F post Q) (e : Ext F F1) (o : Ok F1 H1 L1) {u : HO} {d : D} (hp : post d L1) (hr : ∀ p, F1 p = none → Rp (upd F1 p u) (.ref p) d) : ∀ p, H1 p = none → Q (.ref p) (upd H1 p u) := fun p hn =>
  k _ d (upd F1 p u) _ L1 hp (hr p (o.ex.free hn)) (e.trans (Ext.new (o.ex.free hn))) (o.froz hn)
theorem Kn.newO {F F1 H1 : Hp} {L1 : Led} {post : Ps} {Q : VK} (k : Kn F post Q) (e : Ext F F1) (o : Ok F1 H1 L1) {u : HO} {ob : O} (hp : ∀ p, L1 p = none → post (.ptr p) (put L1 p ob)) (hr : RpO F1 u ob) : ∀ p, H1 p = none → Q (.ref p) (upd H1 p u) := fun p hn =>
  k _ (.ptr p) F1 _ _ (hp p (o.fresh hn)) (.ptr p) e (o.newO hn hr)
theorem Rps.up {F : Hp} {vs : List V} {ds : List D} (h : Rps F vs ds) {p : Addr} {u : HO} (hn : F p = none) : Rps (upd F p u) vs ds := h.mono (Ext.new hn)
theorem g_tup {x1} (h : GEa X es gs) : GE X (.Tuple es x1 pos) (gTupD gs) :=
  let ⟨_, p, s⟩ := h
  ⟨_, fun q => pe_tup (p q), fun σ F H Γ L post Q hs ok hg k => s σ F H Γ L _ _ hs ok hg fun vs ds F1 H1 L1 hp hr e o =>
    ⟨by rw [hr.length]; exact hp.1, k.froz e o hp.2 fun p hn => .tup (SqT.of upd_same) (hr.up hn)⟩⟩
theorem g_lstF (h : GEa X es gs) : GE X (.List es pos) (gLstF gs) :=
  let ⟨_, p, s⟩ := h
  ⟨_, fun q => pe_lst (p q), fun σ F H Γ L post Q hs ok hg k => s σ F H Γ L _ _ hs ok hg fun vs ds F1 H1 L1 hp hr e o =>
    ⟨by rw [hr.length]; exact hp.1, k.froz e o hp.2 fun p hn => .lst upd_same (hr.up hn)⟩⟩
theorem g_lstO (h : GEa X es gs) : GE X (.List es pos) (gLstO gs) :=
  let ⟨_, p, s⟩ := h
  ⟨_, fun q => pe_lst (p q), fun σ F H Γ L post Q hs ok hg k => s σ F H Γ L _ _ hs ok hg fun vs ds F1 H1 L1 hp hr e o =>
    ⟨by rw [hr.length]; exact hp.1, k.newO e o (ob := .lst ds) hp.2 hr⟩⟩

/-! ### sequences that are read -/
/-- the items of a list (frozen or of the ledger), of a tuple -/
def itL (d : D) (L : Led) (k : List D → Prop) : Prop := match d with
  | .lst ds => k ds
  | .ptr a => ∃ ds, L a = some (.lst ds) ∧ k ds
  | _ => False
def itT (d : D) (k : List D → Prop) : Prop := match d with
  | .tup ds => k ds
  | _ => False
/-- a list that is read alone will do, too -/
def itR (d : D) (L : Led) (k : List D → Prop) : Prop := match d with
  | .lst ds => k ds
  | .scr ds => k ds
  | .ptr a => ∃ ds, L a = some (.lst ds) ∧ k ds
  | _ => False
def itS (d : D) (L : Led) (k : List D → Prop) : Prop := match d with
  | .lst ds => k ds
  | .scr ds => k ds
  | .tup ds => k ds
  | .ptr a => ∃ ds, L a = some (.lst ds) ∧ k ds
  | _ => False
section
variable {F H : Hp} {L : Led} {v : V} {d : D} {k : List D → Prop}
theorem itL.out (h : itL d L k) (r : Rp F v d) (ok : Ok F H L) : ∃ p xs ds, v = .ref p ∧ H p = some (.lst xs) ∧ Rps F xs ds ∧ k ds := by
  cases d with
  | lst ds => cases r with
    | lst h1 h2 => exact ⟨_, _, ds, rfl, ok.ex _ _ h1, h2, h⟩
  | ptr a =>
    obtain ⟨ds, h1, h2⟩ := h
    obtain ⟨_, u, e1, e2⟩ := ok.led a _ h1
    obtain ⟨xs, rfl, e3⟩ := e2.lst_inv
    exact ⟨a, xs, ds, r.ptr_inv, e1, e3, h2⟩
  | _ => exact h.elim
theorem itR.out (h : itR d L k) (r : Rp F v d) (ok : Ok F H L) : ∃ p xs ds, v = .ref p ∧ SqL KK.K H p xs ∧ Rps F xs ds ∧ k ds := by
  cases d with
  | lst ds => cases r with
    | lst h1 h2 => exact ⟨_, _, ds, rfl, SqL.of (ok.ex _ _ h1), h2, h⟩
  | scr ds => cases r with
    | scr h1 h2 => exact ⟨_, _, ds, rfl, ext_l ok.ex h1, h2, h⟩
  | ptr a =>
    obtain ⟨ds, h1, h2⟩ := h
    obtain ⟨_, u, e1, e2⟩ := ok.led a _ h1
    obtain ⟨xs, rfl, e3⟩ := e2.lst_inv
    exact ⟨a, xs, ds, r.ptr_inv, SqL.of e1, e3, h2⟩
  | _ => exact h.elim
theorem itT.out (h : itT d k) (r : Rp F v d) (ok : Ok F H L) : ∃ p xs ds, v = .ref p ∧ SqT KK.K H p xs ∧ Rps F xs ds ∧ k ds := by
  cases d with
  | tup ds => cases r with
    | tup h1 h2 => exact ⟨_, _, ds, rfl, ext_t ok.ex h1, h2, h⟩
  | _ => exact h.elim
theorem itS.out (h : itS d L k) (r : Rp F v d) (ok : Ok F H L) : ∃ p xs ds, v = .ref p ∧ (SqL KK.K H p xs ∨ SqT KK.K H p xs) ∧ Rps F xs ds ∧ k ds := by
  cases d with
  | tup ds =>
    obtain ⟨p, xs, ds, e, e1, e2, e3⟩ := itT.out (d := .tup ds) (k := k) h r ok
    exact ⟨p, xs, ds, e, .inr e1, e2, e3⟩
  | lst ds =>
    obtain ⟨p, xs, ds, e, e1, e2, e3⟩ := itR.out (d := .lst ds) (k := k) h r ok
    exact ⟨p, xs, ds, e, .inl e1, e2, e3⟩
  | scr ds =>
    obtain ⟨p, xs, ds, e, e1, e2, e3⟩ := itR.out (d := .scr ds) (k := k) h r ok
    exact ⟨p, xs, ds, e, .inl e1, e2, e3⟩
  | ptr a =>
    obtain ⟨p, xs, ds, e, e1, e2, e3⟩ := itR.out (d := .ptr a) (k := k) h r ok
    exact ⟨p, xs, ds, e, .inl e1, e2, e3⟩
  | _ => exact h.elim
theorem Rps.at {xs : List V} {ds : List D} {i : Int} (h : Rps F xs ds) (e : atI ds i = some d) : ∃ v, atI xs i = some v ∧ Rp F v d := by
  unfold atI at e ⊢
  rw [h.length]
  cases q : ixN ds.length i with
  | none => rw [q] at e; cases e
  | some j =>
    rw [q] at e
    obtain ⟨v, h1, h2⟩ := h.get (i := j) e
    exact ⟨v, h1, h2⟩
end
/-- o[i], a list or a tuple -/
def rIxD : D → D → Led → Ps → Prop := fun x y L post => match y with
  | .int i => itS x L fun ds => match atI ds i with | some d => post d L | none => False
  | _ => False
theorem sim_ix : Sim2 (rIx KK.K) rIxD := fun x y dx dy F H L post Q rx ry ok hg k => by
  cases dy with
  | int i =>
    obtain ⟨p, xs, ds, e, sq, rs, q⟩ := itS.out hg rx ok
    cases w : atI ds i with
    | none => rw [w] at q; exact q.elim
    | some d =>
      rw [w] at q
      obtain ⟨v, h1, h2⟩ := rs.at w
      rcases sq with sq | sq
      · exact .inl ⟨p, xs, i, v, e, ry.int_inv, sq, h1, k v d F H L q h2 (Ext.refl F) ok⟩
      · exact .inr (.inl ⟨p, xs, i, v, e, ry.int_inv, sq, h1, k v d F H L q h2 (Ext.refl F) ok⟩)
  | _ => exact hg.elim
theorem g_ix (hK : ∀ q, (X q).K = KK.K) (ha : GE X a ga) (hb : GE X b gb) (hs : PlainIx b) : GE X (.Subscript a b pos) (g2 rIxD ga gb) :=
  let ⟨_, pa, sa⟩ := ha; let ⟨_, pb, sb⟩ := hb
  ⟨_, fun q => pe_ix (r := rIx KK.K) (by rw [← hK q]; exact ix_seq) (pa q) (pb q) hs, sim_2 sim_ix sa sb⟩

/-! ### parts -/
def GO (X : ι → Cx) (o : Option Expr) (g : Gm → Led → (Option Int → Led → Prop) → Prop) : Prop := ∃ t, (∀ q, PO (X q) o t) ∧
  ∀ σ F H Γ L post Q, Sl F σ Γ → Ok F H L → g Γ L post → (∀ b F' H' L', post b L' → Ext F F' → Ok F' H' L' → Q b H') → t σ H Q
abbrev GOt := Gm → Led → (Option Int → Led → Prop) → Prop
def gNo : GOt := fun _ L post => post none L
def gPt (g : GT) : GOt := fun Γ L post => g Γ L fun d L1 => match d with | .int i => post (some i) L1 | _ => False
theorem o_none : GO X none gNo := ⟨_, fun _ => po_none, fun σ F H Γ L post Q hs ok hg k => k none F H L hg (Ext.refl F) ok⟩
theorem o_some (h : GE X a ga) : GO X (some a) (gPt ga) :=
  let ⟨_, p, s⟩ := h
  ⟨_, fun q => po_some (p q), fun σ F H Γ L post Q hs ok hg k => s σ F H Γ L _ _ hs ok hg fun v d F1 H1 L1 hp hr e o => by
    cases d with
    | int i => exact ⟨i, hr.int_inv, k (some i) F1 H1 L1 hp e o⟩
    | _ => exact hp.elim⟩
def cutD (xs : List D) (lo hi : Option Int) : List D := (xs.drop (HT.sIx xs.length 0 lo)).take (HT.sIx xs.length xs.length hi - HT.sIx xs.length 0 lo)
theorem Rps.cut {F : Hp} {xs : List V} {ds : List D} (h : Rps F xs ds) (lo hi : Option Int) : Rps F (cutV xs lo hi) (cutD ds lo hi) := by
  unfold cutV cutD
  rw [h.length]
  exact (h.drop _).take _
/-- xs[lo:hi], a list: frozen | of the ledger -/
def gSlF (ga : GT) (gl gh : GOt) : GT := fun Γ L post => ga Γ L fun d L1 => gl Γ L1 fun lo L2 => gh Γ L2 fun hi L3 => itR d L3 fun ds => post (.lst (cutD ds lo hi)) L3
def gSlO (ga : GT) (gl gh : GOt) : GT := fun Γ L post => ga Γ L fun d L1 => gl Γ L1 fun lo L2 => gh Γ L2 fun hi L3 => itR d L3 fun ds => ∀ p, L3 p = none → post (.ptr p) (put L3 p (.lst (cutD ds lo hi)))
theorem g_slF {lo hi : Option Expr} {p2 : Pos} {gl gh : GOt} (hK : ∀ q, (X q).K = KK.K) (ha : GE X a ga) (hl : GO X lo gl) (hh : GO X hi gh) : GE X (.Subscript a (.Slice lo hi none p2) pos) (gSlF ga gl gh) :=
  let ⟨_, pa, sa⟩ := ha; let ⟨_, pl, sl⟩ := hl; let ⟨_, ph, sh⟩ := hh
  ⟨_, fun q => pe_slice (r := rSlL KK.K) (by rw [← hK q]; exact sl_list) (pa q) (pl q) (ph q), fun σ F H Γ L post Q hs ok hg k =>
    sa σ F H Γ L _ _ hs ok hg fun v d F1 H1 L1 hp hr e o => sl σ F1 H1 Γ L1 _ _ (hs.mono e) o hp fun lo F2 H2 L2 hp2 e2 o2 => sh σ F2 H2 Γ L2 _ _ (hs.mono (e.trans e2)) o2 hp2 fun hi F3 H3 L3 hp3 e3 o3 => by
      obtain ⟨p, xs, ds, e1, h1, rs, q⟩ := itR.out hp3 (hr.mono (e2.trans e3)) o3
      exact ⟨p, xs, e1, h1, k.froz (e.trans (e2.trans e3)) o3 q fun p hn => .lst upd_same ((rs.cut _ _).up hn)⟩⟩
theorem g_slO {lo hi : Option Expr} {p2 : Pos} {gl gh : GOt} (hK : ∀ q, (X q).K = KK.K) (ha : GE X a ga) (hl : GO X lo gl) (hh : GO X hi gh) : GE X (.Subscript a (.Slice lo hi none p2) pos) (gSlO ga gl gh) :=
  let ⟨_, pa, sa⟩ := ha; let ⟨_, pl, sl⟩ := hl; let ⟨_, ph, sh⟩ := hh
  ⟨_, fun q => pe_slice (r := rSlL KK.K) (by rw [← hK q]; exact sl_list) (pa q) (pl q) (ph q), fun σ F H Γ L post Q hs ok hg k =>
    sa σ F H Γ L _ _ hs ok hg fun v d F1 H1 L1 hp hr e o => sl σ F1 H1 Γ L1 _ _ (hs.mono e) o hp fun lo F2 H2 L2 hp2 e2 o2 => sh σ F2 H2 Γ L2 _ _ (hs.mono (e.trans e2)) o2 hp2 fun hi F3 H3 L3 hp3 e3 o3 => by
      obtain ⟨p, xs, ds, e1, h1, rs, q⟩ := itR.out hp3 (hr.mono (e2.trans e3)) o3
      exact ⟨p, xs, e1, h1, k.newO (e.trans (e2.trans e3)) o3 q (rs.cut _ _)⟩⟩
/-- xs[lo::-1], a list -/
def pickA {α : Type} (xs : List α) (lo hi st : Option Int) : List α := (fun (q : Int × Int × Int) => (sliceRange q.1 q.2.1 q.2.2).filterMap (xs[·]?)) (sliceBounds lo hi st xs.length)
theorem Rps.pick {F : Hp} {xs : List V} {ds : List D} (h : Rps F xs ds) : ∀ (l : List Nat), Rps F (l.filterMap (xs[·]?)) (l.filterMap (ds[·]?))
  | [] => .nil
  | i :: r => by
    rw [List.filterMap_cons, List.filterMap_cons]
    cases q : ds[i]? with
    | none =>
      have : xs[i]? = none := by
        rw [List.getElem?_eq_none_iff] at q ⊢
        rw [h.length]
        exact q
      rw [this]
      exact Rps.pick h r
    | some d =>
      obtain ⟨v, h1, h2⟩ := h.get q
      rw [h1]
      exact .cons h2 (Rps.pick h r)
theorem Vals.pick {xs : List V} {us : List Value} (h : Vals xs us) : ∀ (l : List Nat), Vals (l.filterMap (xs[·]?)) (l.filterMap (us[·]?))
  | [] => .nil
  | i :: r => by
    rw [List.filterMap_cons, List.filterMap_cons]
    cases q : xs[i]? with
    | none =>
      rw [h.none_of q]
      exact Vals.pick h r
    | some d =>
      obtain ⟨v, h1, h2⟩ := h.get q
      rw [h1]
      exact .cons h2 (Vals.pick h r)
def tRv (K : PySem.W.Frag) (te : TE) (tl : TO) : TE := fun σ H Q => te σ H fun x H1 => tl σ H1 fun l H2 => ∃ a xs, x = .ref a ∧ SqL K H2 a xs ∧ ∀ p, H2 p = none → Q (.ref p) (upd H2 p (.lst (pickA xs l none (some (-1)))))
open PyProof.Rows in
theorem pe_rv {e : Expr} {te : TE} {lo : Option Expr} {tl : TO} {k : Nat} {p1 p2 p3 pos : Pos} {X : Cx} (he : PE X e te) (hl : PO X lo tl)
    (hsz : ∀ (xs : List V) l, xs.length ≤ sizeLine → (pickA xs l none (some (-1))).length ≤ sizeLine) :
    PE X (.Subscript e (.Slice lo none (some (.UnaryOp .USub (.Constant (.int 1) k p1) p2)) p3) pos) (tRv X.K te tl) := by
  refine ⟨fun pins s σ H Q I h => Subscript_ (thn (he.run pins s σ H _ I h) ?_)⟩
  rintro v s1 ⟨x, H1, I1, r1, q1⟩
  have hst : PO X (some (.UnaryOp .USub (.Constant (.int 1) k p1) p2)) (tPart (tUn (rU fun i => .int (-i)) (tC (.int 1)))) := po_some (pe_un un_neg pe_int)
  refine wpAny_Slice (thn (hl.run pins s1 σ H1 _ I1 q1) ?_)
  rintro vl s2 ⟨l, H2, I2, pl, q2⟩
  obtain ⟨a, xs, ex, hx, q⟩ := q2
  subst ex
  cases r1
  refine thn (po_none.run pins s2 σ H2 (fun o H3 => o = none ∧ H3 = H2) I2 ⟨rfl, rfl⟩) ?_
  rintro vu s3 ⟨u, H3, I3, pu, eu, e3⟩
  subst eu e3
  refine thn (hst.run pins s3 σ H3 (fun o H4 => o = some (-1) ∧ H4 = H3) I3 ⟨1, rfl, -1, rfl, rfl, rfl⟩) ?_
  rintro vs s4 ⟨o, H4, I4, ps, eo, e4⟩
  subst eo e4
  have I5 : Inv X pins σ H4 { s4 with heap := s4.heap.push { cls := .type "slice", data := .fields #[vl, vu, vs] } } := I4.kept (t' := s4.toks) fun b ob q => Heap.get?_push_of_some _ q
  obtain ⟨its, r, ht, hz⟩ := I5.list hx
  have hlen := r.length
  show wpAny _ _ (subscriptTail _ _ (.ref a) (.ref s4.heap.objs.size)) _ _ _
  refine PyProof.Rows.tail_any (ops := [.ref a, .ref s4.heap.objs.size]) ht.isList.typeIs (PySem.slot_list_getitem.lookup) ?_ (by with_unfolding_all rfl)
  refine wpAny_getItem_list_slice ht.isList (Heap.IsSliceOf.new _ vl vu vs) pl pu ps (by decide) ?_ (by rw [List.size_toArray]; omega)
  have ep : slicePick its.toArray l none (some (-1)) = (pickA its l none (some (-1))).toArray := by
    unfold slicePick pickA
    rw [List.size_toArray]
    congr 1
    refine congrArg (fun f => List.filterMap f _) (funext fun i => ?_)
    exact List.getElem?_toArray ..
  rw [ep]
  have rp : Vals (pickA xs l none (some (-1))) (pickA its l none (some (-1))) := by
    unfold pickA
    rw [← hlen]
    exact Vals.pick r _
  refine ⟨.ref _, _, I5.laid (t' := s4.toks) (o := .lst (pickA xs l none (some (-1)))) (fun b ob q => Heap.get?_push_of_some _ q) (Nat.le_refl _) ?_, rfl, q _ (I5.hok.fresh (Nat.le_refl _))⟩
  exact ⟨hsz xs l hz, _, 0, rp, Heap.get?_push_size _ rfl⟩
theorem range_pick {α : Type} (xs : List α) : ∀ m, (List.range m).filterMap (xs[·]?) = xs.take m
  | 0 => by simp
  | m + 1 => by
    rw [List.range_succ, List.filterMap_append, range_pick xs m, List.take_succ]
    congr 1
    first | done | (cases h : xs[m]? <;> simp [h])
/-- where a reversed part begins -/
def revAt (n : Nat) (lo : Option Int) : Nat := match lo with
  | none => n
  | some l => (max (-1) (min (if l < 0 then l + n else l) ((n : Int) - 1)) + 1).toNat
theorem pickA_eq {α : Type} (xs : List α) (lo : Option Int) : pickA xs lo none (some (-1)) = (xs.take (revAt xs.length lo)).reverse := by
  have key : ∀ c : Int, -1 ≤ c → (sliceRange c (-1) (-1)).filterMap (xs[·]?) = (xs.take (c + 1).toNat).reverse := fun c hc => by
    have e : sliceRange c (-1) (-1) = (List.range (c + 1).toNat).reverse := by
      rw [← PySem.W.krv_range]
      unfold sliceRange
      have h1 : ¬ ((-1 : Int) > 0) := by decide
      by_cases h : c > -1
      · have e : (c - -1 - -1 - 1) / (- -1) = c + 1 := by
          rw [show (- -1 : Int) = 1 by decide, Int.ediv_one]
          omega
        simp only [h1, if_false, h, if_true, e]
        refine List.map_congr_left fun k hk => ?_
        have := List.mem_range.mp hk
        omega
      · have e : c = -1 := by omega
        subst e
        rfl
    rw [e, List.filterMap_reverse, range_pick]
  unfold pickA
  cases lo with
  | none =>
    show (sliceRange ((xs.length : Int) - 1) (-1) (-1)).filterMap (xs[·]?) = _
    rw [key _ (by omega)]
    congr 2
    show ((xs.length : Int) - 1 + 1).toNat = xs.length
    omega
  | some l =>
    show (sliceRange (max (-1) (min (if l < 0 then l + (xs.length : Int) else l) ((xs.length : Int) - 1))) (-1) (-1)).filterMap (xs[·]?) = _
    exact key _ (by omega)
theorem pickA_len {α : Type} (xs : List α) (lo : Option Int) : (pickA xs lo none (some (-1))).length ≤ xs.length := by
  rw [pickA_eq, List.length_reverse, List.length_take]
  exact Nat.min_le_right _ _
theorem Rps.rv {F : Hp} {xs : List V} {ds : List D} (h : Rps F xs ds) (lo : Option Int) : Rps F (pickA xs lo none (some (-1))) (ds.take (revAt ds.length lo)).reverse := by
  rw [pickA_eq, h.length]
  exact (h.take _).reverse
/-- xs[lo::-1], a new frozen list -/
def gRvF (ga : GT) (gl : GOt) : GT := fun Γ L post => ga Γ L fun d L1 => gl Γ L1 fun lo L2 => itR d L2 fun ds => post (.lst (ds.take (revAt ds.length lo)).reverse) L2
theorem g_rvF {lo : Option Expr} {gl : GOt} {k : Nat} {p1 p2 p3 : Pos} (hK : ∀ q, (X q).K = KK.K) (ha : GE X a ga) (hl : GO X lo gl) :
    GE X (.Subscript a (.Slice lo none (some (.UnaryOp .USub (.Constant (.int 1) k p1) p2)) p3) pos) (gRvF ga gl) :=
  let ⟨_, pa, sa⟩ := ha; let ⟨_, pl, sl⟩ := hl
  ⟨_, fun q => by have z := pe_rv (k := k) (p1 := p1) (p2 := p2) (p3 := p3) (pos := pos) (pa q) (pl q) (fun xs l h => Nat.le_trans (pickA_len xs l) h); rw [hK q] at z; exact z, fun σ F H Γ L post Q hs ok hg kk =>
    sa σ F H Γ L _ _ hs ok hg fun v d F1 H1 L1 hp hr e o => sl σ F1 H1 Γ L1 _ _ (hs.mono e) o hp fun lo F2 H2 L2 hp2 e2 o2 => by
      obtain ⟨p, xs, ds, e1, h1, rs, q⟩ := itR.out hp2 (hr.mono e2) o2
      exact ⟨p, xs, e1, h1, kk.froz (e.trans e2) o2 q fun p hn => .lst upd_same ((rs.rv _).up hn)⟩⟩

/-! ### calls of built-ins -/
def gCB (r : List D → Led → Ps → Prop) (gs : GA) : GT := fun Γ L post => gs Γ L fun ds L1 => r ds L1 post
theorem sim_cb {r : List V → Hp → VK → Prop} {g : List D → Led → Ps → Prop} {t : TA} (hr : SimC r g) (h : SimA t gs) : SimE (tCB r t) (gCB g gs) := fun σ F H Γ L post Q hs ok hg k =>
  h σ F H Γ L _ _ hs ok hg fun vs ds F1 H1 L1 hp hrs e o => hr vs ds F1 H1 L1 post Q hrs o hp (k.mono e)
variable {x : Str} {p : Pos} {id T : String} {r : List V → Hp → VK → Prop} {g : List D → Led → Ps → Prop}
theorem g_callB (hc : ∀ q, CallR (X q) (.builtin id) r) (hr : SimC r g) (hg : ∀ q, Gl (X q) x) (hm : ∀ q, (X q).mg x = none) (hv : bootBuiltins x = some (.builtin id)) (ha : GEa X (e :: es) gs) (hn : x ≠ "__name__" := by decide) (hdb : (x == ("__debug__" : Str)) = false := by decide)
    (he : ∀ q, starEach (e :: es) (X q).env = (false, eval e (X q).env) :: starEach es (X q).env := by intro _; rfl) (hpl : ∀ q, (backTo pos (starEach es (X q).env)).any (·.1) = false := by intro _; rfl) : GE X (.Call (.Name x p) (e :: es) [] pos) (gCB g gs) :=
  let ⟨_, pa, sa⟩ := ha
  ⟨_, fun q => pe_callB (hc q) (hg q) (hm q) hv (pa q) hn hdb (he q) (hpl q), sim_cb hr sa⟩
theorem g_callTy (hc : ∀ q, CallR (X q) (.type T) r) (hr : SimC r g) (hg : ∀ q, Gl (X q) x) (hm : ∀ q, (X q).mg x = none) (hv : bootBuiltins x = some (.type T)) (ha : GEa X (e :: es) gs) (hn : x ≠ "__name__" := by decide) (hdb : (x == ("__debug__" : Str)) = false := by decide)
    (he : ∀ q, starEach (e :: es) (X q).env = (false, eval e (X q).env) :: starEach es (X q).env := by intro _; rfl) (hpl : ∀ q, (backTo pos (starEach es (X q).env)).any (·.1) = false := by intro _; rfl) : GE X (.Call (.Name x p) (e :: es) [] pos) (gCB g gs) :=
  let ⟨_, pa, sa⟩ := ha
  ⟨_, fun q => pe_callTy (hc q) (hg q) (hm q) hv (pa q) hn hdb (he q) (hpl q), sim_cb hr sa⟩
end
/-! what they do -/
def c1 (f : D → Led → Ps → Prop) : List D → Led → Ps → Prop := fun ds L post => match ds with | [d] => f d L post | _ => False
def c2 (f : D → D → Led → Ps → Prop) : List D → Led → Ps → Prop := fun ds L post => match ds with | [d, e] => f d e L post | _ => False
theorem c1.out {f : D → Led → Ps → Prop} {ds : List D} {L : Led} {post : Ps} (h : c1 f ds L post) : ∃ d, ds = [d] ∧ f d L post := by
  match ds, h with
  | [d], h => exact ⟨d, rfl, h⟩
theorem c2.out {f : D → D → Led → Ps → Prop} {ds : List D} {L : Led} {post : Ps} (h : c2 f ds L post) : ∃ d e, ds = [d, e] ∧ f d e L post := by
  match ds, h with
  | [d, e], h => exact ⟨d, e, rfl, h⟩
theorem Rps.one {F : Hp} {xs : List V} {d : D} (h : Rps F xs [d]) : ∃ v, xs = [v] ∧ Rp F v d := by
  cases h with
  | cons a b => cases b; exact ⟨_, rfl, a⟩
theorem Rps.two {F : Hp} {xs : List V} {d e : D} (h : Rps F xs [d, e]) : ∃ v u, xs = [v, u] ∧ Rp F v d ∧ Rp F u e := by
  cases h with
  | cons a b => obtain ⟨u, rfl, hu⟩ := b.one; exact ⟨_, u, rfl, a, hu⟩
def kInt (f : Int → D) : D → Led → Ps → Prop := fun d L post => match d with | .int i => post (f i) L | _ => False
def kInt2 (f : Int → Int → D) : D → D → Led → Ps → Prop := fun d e L post => match d, e with | .int i, .int j => post (f i j) L | _, _ => False
theorem sim_c1I {f : Int → Int} : SimC (fun xs H Q => ∃ i, xs = [.int i] ∧ Q (.int (f i)) H) (c1 (kInt fun i => .int (f i))) := fun xs ds F H L post Q rs ok hg k => by
  obtain ⟨d, rfl, hd⟩ := hg.out
  obtain ⟨v, rfl, r⟩ := rs.one
  cases d with
  | int i =>
    rw [r.int_inv]
    exact ⟨i, rfl, k _ _ F H L hd (.int _) (Ext.refl F) ok⟩
  | _ => exact hd.elim
theorem sim_c2I {f : Int → Int → Int} : SimC (fun xs H Q => ∃ i j, xs = [.int i, .int j] ∧ Q (.int (f i j)) H) (c2 (kInt2 fun i j => .int (f i j))) := fun xs ds F H L post Q rs ok hg k => by
  obtain ⟨d, e, rfl, hd⟩ := hg.out
  obtain ⟨v, u, rfl, r, r'⟩ := rs.two
  cases d with
  | int i => cases e with
    | int j =>
      rw [r.int_inv, r'.int_inv]
      exact ⟨i, j, rfl, k _ _ F H L hd (.int _) (Ext.refl F) ok⟩
    | _ => exact hd.elim
  | _ => exact hd.elim
/-- int(n), int(flag) -/
def kToInt : D → Led → Ps → Prop := fun d L post => match d with | .int i => post (.int i) L | .bl b => post (.int (if b then 1 else 0)) L | _ => False
theorem sim_int : SimC (fun xs H Q => (∃ i, xs = [.int i] ∧ Q (.int i) H) ∨ ∃ k, xs = [.bl k] ∧ Q (.int (if k then 1 else 0)) H) (c1 kToInt) := fun xs ds F H L post Q rs ok hg k => by
  obtain ⟨d, rfl, hd⟩ := hg.out
  obtain ⟨v, rfl, r⟩ := rs.one
  cases d with
  | int i =>
    rw [r.int_inv]
    exact .inl ⟨i, rfl, k _ _ F H L hd (.int _) (Ext.refl F) ok⟩
  | bl i =>
    rw [r.bl_inv]
    exact .inr ⟨i, rfl, k _ _ F H L hd (.int _) (Ext.refl F) ok⟩
  | _ => exact hd.elim
/-- len of a list, a tuple -/
def kLen : D → Led → Ps → Prop := fun d L post => itS d L fun ds => post (.int ds.length) L
theorem sim_len : SimC (fun xs H Q => ∃ p ys, xs = [.ref p] ∧ (SqL KK.K H p ys ∨ SqT KK.K H p ys) ∧ Q (.int ys.length) H) (c1 kLen) := fun xs ds F H L post Q rs ok hg k => by
  obtain ⟨d, rfl, hd⟩ := hg.out
  · obtain ⟨v, rfl, r⟩ := rs.one
    obtain ⟨p, xs, ds, e1, h1, rs, q⟩ := itS.out hd r ok
    rw [e1]
    exact ⟨p, xs, rfl, h1, k _ _ F H L (show post (.int xs.length) L by rw [rs.length]; exact q) (.int _) (Ext.refl F) ok⟩
/-- list(x): frozen | of the ledger -/
def kListF : D → Led → Ps → Prop := fun d L post => itS d L fun ds => post (.lst ds) L
def kListO : D → Led → Ps → Prop := fun d L post => itS d L fun ds => ∀ p, L p = none → post (.ptr p) (put L p (.lst ds))
theorem sim_listF : SimC (fun xs H Q => ∃ p ys, xs = [.ref p] ∧ (SqL KK.K H p ys ∨ SqT KK.K H p ys) ∧ ∀ l, H l = none → Q (.ref l) (upd H l (.lst ys))) (c1 kListF) := fun xs ds F H L post Q rs ok hg k => by
  obtain ⟨d, rfl, hd⟩ := hg.out
  · obtain ⟨v, rfl, r⟩ := rs.one
    obtain ⟨p, xs, ds, e1, h1, rs, q⟩ := itS.out hd r ok
    rw [e1]
    exact ⟨p, xs, rfl, h1, k.froz (Ext.refl F) ok q fun p hn => .lst upd_same (rs.up hn)⟩
theorem sim_listO : SimC (fun xs H Q => ∃ p ys, xs = [.ref p] ∧ (SqL KK.K H p ys ∨ SqT KK.K H p ys) ∧ ∀ l, H l = none → Q (.ref l) (upd H l (.lst ys))) (c1 kListO) := fun xs ds F H L post Q rs ok hg k => by
  obtain ⟨d, rfl, hd⟩ := hg.out
  · obtain ⟨v, rfl, r⟩ := rs.one
    obtain ⟨p, xs, ds, e1, h1, rs, q⟩ := itS.out hd r ok
    rw [e1]
    exact ⟨p, xs, rfl, h1, k.newO (Ext.refl F) ok q rs⟩
/-- sum, min, max of a list of ints -/
def kInts (f : List Int → Led → Ps → Prop) : D → Led → Ps → Prop := fun d L post => itL d L fun ds => ∃ ns : List Int, ds = ns.map D.int ∧ f ns L post
theorem kInts.out {F H : Hp} {L : Led} {post : Ps} {v : V} {d : D} {f : List Int → Led → Ps → Prop} (h : kInts f d L post) (r : Rp F v d) (ok : Ok F H L) : ∃ p ns, v = .ref p ∧ H p = some (.lst (ns.map V.int)) ∧ f ns L post := by
  obtain ⟨p, xs, ds, e1, h1, rs, ns, rfl, q⟩ := itL.out h r ok
  rw [rs.ints] at h1
  exact ⟨p, ns, e1, h1, q⟩
theorem sim_sum {K : PySem.W.Frag} : SimC (rSum K) (c1 (kInts fun ns L post => post (.int ns.sum) L)) := fun xs ds F H L post Q rs ok hg k => by
  obtain ⟨d, rfl, hd⟩ := hg.out
  · obtain ⟨v, rfl, r⟩ := rs.one
    obtain ⟨p, ns, e1, h1, q⟩ := kInts.out hd r ok
    rw [e1]
    exact ⟨p, ns, rfl, SqL.of h1, k _ _ F H L q (.int _) (Ext.refl F) ok⟩
theorem sim_min {K : PySem.W.Frag} : SimC (rMin K) (c1 (kInts fun ns L post => ns ≠ [] ∧ ∀ m, m ∈ ns → (∀ y ∈ ns, m ≤ y) → post (.int m) L)) := fun xs ds F H L post Q rs ok hg k => by
  obtain ⟨d, rfl, hd⟩ := hg.out
  · obtain ⟨v, rfl, r⟩ := rs.one
    obtain ⟨p, ns, e1, h1, q⟩ := kInts.out hd r ok
    rw [e1]
    exact ⟨p, ns, rfl, SqL.of h1, List.length_pos_iff.mpr q.1, fun m h2 h3 => k _ _ F H L (q.2 m h2 h3) (.int _) (Ext.refl F) ok⟩
theorem sim_max {K : PySem.W.Frag} : SimC (rMax K) (c1 (kInts fun ns L post => ns ≠ [] ∧ ∀ m, m ∈ ns → (∀ y ∈ ns, y ≤ m) → post (.int m) L)) := fun xs ds F H L post Q rs ok hg k => by
  obtain ⟨d, rfl, hd⟩ := hg.out
  · obtain ⟨v, rfl, r⟩ := rs.one
    obtain ⟨p, ns, e1, h1, q⟩ := kInts.out hd r ok
    rw [e1]
    exact ⟨p, ns, rfl, SqL.of h1, List.length_pos_iff.mpr q.1, fun m h2 h3 => k _ _ F H L (q.2 m h2 h3) (.int _) (Ext.refl F) ok⟩
def kBools (f : List Bool → Led → Ps → Prop) : D → Led → Ps → Prop := fun d L post => itL d L fun ds => ∃ ns : List Bool, ds = ns.map D.bl ∧ f ns L post
theorem kBools.out {F H : Hp} {L : Led} {post : Ps} {v : V} {d : D} {f : List Bool → Led → Ps → Prop} (h : kBools f d L post) (r : Rp F v d) (ok : Ok F H L) : ∃ p ns, v = .ref p ∧ H p = some (.lst (ns.map V.bl)) ∧ f ns L post := by
  obtain ⟨p, xs, ds, e1, h1, rs, ns, rfl, q⟩ := itL.out h r ok
  rw [rs.bls] at h1
  exact ⟨p, ns, e1, h1, q⟩
theorem sim_any {K : PySem.W.Frag} : SimC (rAny K) (c1 (kBools fun ns L post => post (.bl (ns.any id)) L)) := fun xs ds F H L post Q rs ok hg k => by
  obtain ⟨d, rfl, hd⟩ := hg.out
  · obtain ⟨v, rfl, r⟩ := rs.one
    obtain ⟨p, ns, e1, h1, q⟩ := kBools.out hd r ok
    rw [e1]
    exact ⟨p, ns, rfl, SqL.of h1, k _ _ F H L q (.bl _) (Ext.refl F) ok⟩
theorem sim_all {K : PySem.W.Frag} : SimC (rAll K) (c1 (kBools fun ns L post => post (.bl (ns.all id)) L)) := fun xs ds F H L post Q rs ok hg k => by
  obtain ⟨d, rfl, hd⟩ := hg.out
  · obtain ⟨v, rfl, r⟩ := rs.one
    obtain ⟨p, ns, e1, h1, q⟩ := kBools.out hd r ok
    rw [e1]
    exact ⟨p, ns, rfl, SqL.of h1, k _ _ F H L q (.bl _) (Ext.refl F) ok⟩
end Gh

/-! ghost layer, part 3: methods of lists, dicts, statements, targets, loops, comprehensions -/
namespace Gh
open PySem PySem.Spec L2
variable [KK]

/-! ### methods -/
section
variable {ι : Type} {X : ι → Cx} {a b c e o : Expr} {ga gb gc : GT} {es : List Expr} {gs : GA} {gt gu : GB} {rest : List Expr} {pos apos cpos : Pos}
variable {name : Str} {T id : String} {r : V → List V → Hp → VK → Prop} {g : D → List D → Led → Ps → Prop}
/-- a list that is known -/
def isLs (d : D) (L : Led) : Prop := match d with
  | .lst _ => True
  | .ptr a => ∃ ds, L a = some (.lst ds)
  | _ => False
theorem isLs.ty {F H : Hp} {L : Led} {v : V} {d : D} {K : PySem.W.Frag} (h : isLs d L) (r : Rp F v d) (ok : Ok F H L) : tyV K "list" v H := by
  cases d with
  | lst ds => cases r with
    | lst h1 h2 => exact .inl ⟨rfl, _, SqL.of (ok.ex _ _ h1)⟩
  | ptr a =>
    obtain ⟨ds, h1⟩ := h
    obtain ⟨_, u, e1, e2⟩ := ok.led a _ h1
    obtain ⟨xs, rfl, e3⟩ := e2.lst_inv
    rw [r.ptr_inv]
    exact .inl ⟨rfl, _, SqL.of e1⟩
  | _ => exact h.elim
/-- o.m(e, ..), o a list -/
def gLM (g : D → List D → Led → Ps → Prop) (ga : GT) (gs : GA) : GT := fun Γ L post => ga Γ L fun d L1 => isLs d L1 ∧ gs Γ L1 fun ds L2 => g d ds L2 post
def gLM0 (g : D → List D → Led → Ps → Prop) (ga : GT) : GT := fun Γ L post => ga Γ L fun d L1 => isLs d L1 ∧ g d [] L1 post
theorem g_lm {K : PySem.W.Frag} (hK : ∀ q, (X q).K = K) (slot : Slot "list" name id) (hty : typeOf (.builtin id) = pure (.type "method_descriptor")) (hm : ∀ q, MtR (X q) id r) (hr : SimM r g) (ho : GE X o ga) (ha : GEa X (e :: es) gs)
    (hbase : ∀ q, attributeBase o name (X q).env (eval o (X q).env) = eval o (X q).env := by intro _; rfl)
    (hfew : ∀ q, ((backTo cpos (starEach (e :: es) (X q).env)).all (fun x => !x.1) && (backToKw cpos (keywordEach [] (X q).env)).all (fun x => x.1.isSome)
      && decide ((e :: es).length + ([] : List Keyword).length + (if ([] : List Keyword).isEmpty then 0 else 1) < 30)) = true := by intro _; rfl)
    (hline : (apos.endLine == cpos.line) = true := by rfl) (hs : ∀ q, starEach (e :: es) (X q).env = (false, eval e (X q).env) :: starEach es (X q).env := by intro _; rfl) (hplain : ∀ q, (backTo cpos (starEach es (X q).env)).any (·.1) = false := by intro _; rfl) :
    GE X (.Call (.Attribute o name apos) (e :: es) [] cpos) (gLM g ga gs) :=
  let ⟨_, p, s⟩ := ho; let ⟨_, p2, s2⟩ := ha
  ⟨tBM K "list" r _ _, fun q => by have z := pe_bm PySem.F.plainAttrs_list slot hty (hm q) (p q) (p2 q) (hbase q) (hfew q) hline (hs q) (hplain q); rw [hK q] at z; exact z, fun σ F H Γ L post Q hsl ok hg k =>
    s σ F H Γ L _ _ hsl ok hg fun v d F1 H1 L1 hp hr1 e1 o1 => ⟨hp.1.ty hr1 o1, s2 σ F1 H1 Γ L1 _ _ (hsl.mono e1) o1 hp.2 fun vs ds F2 H2 L2 hp2 hr2 e2 o2 =>
      hr v d vs ds F2 H2 L2 post Q (hr1.mono e2) hr2 o2 hp2 (k.mono (e1.trans e2))⟩⟩
theorem g_lm0 {K : PySem.W.Frag} (hK : ∀ q, (X q).K = K) (slot : Slot "list" name id) (hty : typeOf (.builtin id) = pure (.type "method_descriptor")) (hm : ∀ q, MtR (X q) id r) (hr : SimM r g) (ho : GE X o ga)
    (hbase : ∀ q, attributeBase o name (X q).env (eval o (X q).env) = eval o (X q).env := by intro _; rfl) (hline : (apos.endLine == cpos.line) = true := by rfl) : GE X (.Call (.Attribute o name apos) [] [] cpos) (gLM0 g ga) :=
  let ⟨_, p, s⟩ := ho
  ⟨tBM0 K "list" r _, fun q => by have z := pe_bm0 (cpos := cpos) PySem.F.plainAttrs_list slot hty (hm q) (p q) (hbase q) hline; rw [hK q] at z; exact z, fun σ F H Γ L post Q hsl ok hg k =>
    s σ F H Γ L _ _ hsl ok hg fun v d F1 H1 L1 hp hr1 e1 o1 => ⟨hp.1.ty hr1 o1, hr v d [] [] F1 H1 L1 post Q hr1 .nil o1 hp.2 (k.mono e1)⟩⟩

def mApp1 (a : Addr) : D → Led → Ps → Prop := fun y L post => ∃ ds, L a = some (.lst ds) ∧ ds.length < sizeLine ∧ post .non (put L a (.lst (ds ++ [y])))
def mApp : D → List D → Led → Ps → Prop := fun d vs L post => match d with
  | .ptr a => c1 (mApp1 a) vs L post
  | _ => False
theorem sim_app : SimM rAppend mApp := fun x dx xs ds F H L post Q rx rs ok hg k => by
  cases dx with
  | ptr a =>
    obtain ⟨y, rfl, zs, h1, h2, h3⟩ := c1.out (f := mApp1 a) hg
    obtain ⟨v, rfl, rv⟩ := rs.one
    obtain ⟨h0, u, e1, e2⟩ := ok.led a _ h1
    obtain ⟨xs, rfl, e3⟩ := e2.lst_inv
    exact ⟨a, xs, v, rx.ptr_inv, rfl, e1, by rw [e3.length]; exact h2, k _ _ F _ _ h3 .non (Ext.refl F) (ok.write h1 (u := .lst (xs ++ [v])) (e3.append (.cons rv .nil)))⟩
  | _ => exact hg.elim
def mExt1 (a : Addr) : D → Led → Ps → Prop := fun y L post => ∃ ds, L a = some (.lst ds) ∧ itL y L fun zs => ds.length + zs.length ≤ sizeLine ∧ post .non (put L a (.lst (ds ++ zs)))
def mExt : D → List D → Led → Ps → Prop := fun d vs L post => match d with
  | .ptr a => c1 (mExt1 a) vs L post
  | _ => False
theorem sim_ext : SimM rExtend mExt := fun x dx xs ds F H L post Q rx rs ok hg k => by
  cases dx with
  | ptr a =>
    obtain ⟨y, rfl, zs, h1, h2⟩ := c1.out (f := mExt1 a) hg
    obtain ⟨v, rfl, rv⟩ := rs.one
    obtain ⟨h0, u, e1, e2⟩ := ok.led a _ h1
    obtain ⟨xs, rfl, e3⟩ := e2.lst_inv
    obtain ⟨p, ys, ws, ev, hy, ry, h3, h4⟩ := itL.out h2 rv ok
    rw [ev]
    exact ⟨a, p, xs, ys, rx.ptr_inv, rfl, e1, hy, by rw [e3.length, ry.length]; exact h3, k _ _ F _ _ h4 .non (Ext.refl F) (ok.write h1 (u := .lst (xs ++ ys)) (e3.append ry))⟩
  | _ => exact hg.elim
theorem Rps.dropLast {F : Hp} {xs : List V} {ds : List D} (h : Rps F xs ds) : Rps F xs.dropLast ds.dropLast := by
  rw [List.dropLast_eq_take, List.dropLast_eq_take, h.length]
  exact h.take _
def mPop : D → List D → Led → Ps → Prop := fun d vs L post => match d with
  | .ptr a => vs = [] ∧ ∃ ds y, L a = some (.lst ds) ∧ ds[ds.length - 1]? = some y ∧ post y (put L a (.lst ds.dropLast))
  | _ => False
theorem sim_pop : SimM rPop mPop := fun x dx xs ds F H L post Q rx rs ok hg k => by
  cases dx with
  | ptr a =>
    obtain ⟨rfl, zs, y, h1, h2, h3⟩ := hg
    cases rs
    obtain ⟨h0, u, e1, e2⟩ := ok.led a _ h1
    obtain ⟨xs, rfl, e3⟩ := e2.lst_inv
    obtain ⟨v, q1, q2⟩ := e3.get h2
    exact ⟨a, xs, v, rx.ptr_inv, rfl, e1, by rw [e3.length]; exact q1, k _ _ F _ _ h3 q2 (Ext.refl F) (ok.write h1 (u := .lst xs.dropLast) e3.dropLast)⟩
  | _ => exact hg.elim

theorem g_app {K : PySem.W.Frag} (hK : ∀ q, (X q).K = K) (ho : GE X o ga) (ha : GEa X [e] gs) (hbase : ∀ q, attributeBase o "append" (X q).env (eval o (X q).env) = eval o (X q).env := by intro _; rfl)
    (hs : ∀ q, starEach [e] (X q).env = (false, eval e (X q).env) :: starEach [] (X q).env := by intro _; rfl)
    (hfew : ∀ q, ((backTo cpos (starEach [e] (X q).env)).all (fun x => !x.1) && (backToKw cpos (keywordEach [] (X q).env)).all (fun x => x.1.isSome)
      && decide (([e] : List Expr).length + ([] : List Keyword).length + (if ([] : List Keyword).isEmpty then 0 else 1) < 30)) = true := by intro _; rfl)
    (hline : (apos.endLine == cpos.line) = true := by rfl) : GE X (.Call (.Attribute o "append" apos) [e] [] cpos) (gLM mApp ga gs) :=
  g_lm hK PySem.F.slot_list_append PySem.F.type_list_append (fun _ => mt_append) sim_app ho ha hbase hfew hline hs (by intro _; rfl)
theorem g_ext {K : PySem.W.Frag} (hK : ∀ q, (X q).K = K) (ho : GE X o ga) (ha : GEa X [e] gs) (hbase : ∀ q, attributeBase o "extend" (X q).env (eval o (X q).env) = eval o (X q).env := by intro _; rfl)
    (hs : ∀ q, starEach [e] (X q).env = (false, eval e (X q).env) :: starEach [] (X q).env := by intro _; rfl)
    (hfew : ∀ q, ((backTo cpos (starEach [e] (X q).env)).all (fun x => !x.1) && (backToKw cpos (keywordEach [] (X q).env)).all (fun x => x.1.isSome)
      && decide (([e] : List Expr).length + ([] : List Keyword).length + (if ([] : List Keyword).isEmpty then 0 else 1) < 30)) = true := by intro _; rfl)
    (hline : (apos.endLine == cpos.line) = true := by rfl) : GE X (.Call (.Attribute o "extend" apos) [e] [] cpos) (gLM mExt ga gs) :=
  g_lm hK PySem.F.slot_list_extend PySem.F.type_list_extend (fun _ => mt_extend) sim_ext ho ha hbase hfew hline hs (by intro _; rfl)
theorem g_pop {K : PySem.W.Frag} (hK : ∀ q, (X q).K = K) (ho : GE X o ga) (hbase : ∀ q, attributeBase o "pop" (X q).env (eval o (X q).env) = eval o (X q).env := by intro _; rfl) (hline : (apos.endLine == cpos.line) = true := by rfl) :
    GE X (.Call (.Attribute o "pop" apos) [] [] cpos) (gLM0 mPop ga) :=
  g_lm0 hK PySem.F.slot_list_pop PySem.F.type_list_pop (fun _ => mt_pop) sim_pop ho hbase hline

/-! ### lists put together, repeated -/
def rCatF : D → D → Led → Ps → Prop := fun x y L post => itL x L fun ds => itL y L fun es => ds.length + es.length ≤ sizeLine ∧ post (.lst (ds ++ es)) L
def rCatO : D → D → Led → Ps → Prop := fun x y L post => itL x L fun ds => itL y L fun es => ds.length + es.length ≤ sizeLine ∧ ∀ p, L p = none → post (.ptr p) (put L p (.lst (ds ++ es)))
theorem sim_catF : Sim2 rCat rCatF := fun x y dx dy F H L post Q rx ry ok hg k => by
  obtain ⟨p, xs, ds, e1, h1, r1, hg⟩ := itL.out hg rx ok
  obtain ⟨q, ys, es, e2, h2, r2, h3, h4⟩ := itL.out hg ry ok
  exact ⟨p, q, xs, ys, e1, e2, h1, h2, by rw [r1.length, r2.length]; exact h3, k.froz (Ext.refl F) ok h4 fun p hn => .lst upd_same ((r1.append r2).up hn)⟩
theorem sim_catO : Sim2 rCat rCatO := fun x y dx dy F H L post Q rx ry ok hg k => by
  obtain ⟨p, xs, ds, e1, h1, r1, hg⟩ := itL.out hg rx ok
  obtain ⟨q, ys, es, e2, h2, r2, h3, h4⟩ := itL.out hg ry ok
  exact ⟨p, q, xs, ys, e1, e2, h1, h2, by rw [r1.length, r2.length]; exact h3, k.newO (Ext.refl F) ok h4 (r1.append r2)⟩
theorem g_catF (ha : GE X a ga) (hb : GE X b gb) : GE X (.BinOp a .Add b pos) (g2 rCatF ga gb) := g_op (fun _ => op_cat) sim_catF ha hb
theorem g_catO (ha : GE X a ga) (hb : GE X b gb) : GE X (.BinOp a .Add b pos) (g2 rCatO ga gb) := g_op (fun _ => op_cat) sim_catO ha hb
def repD (k : Int) (ds : List D) : List D := (List.replicate k.toNat ds).flatten
theorem Rps.rep {F : Hp} {xs : List V} {ds : List D} (h : Rps F xs ds) : ∀ n : Nat, Rps F (List.replicate n xs).flatten (List.replicate n ds).flatten
  | 0 => by simp; exact .nil
  | n + 1 => by
    rw [List.replicate_succ, List.replicate_succ, List.flatten_cons, List.flatten_cons]
    exact h.append (h.rep n)
def rRepF : D → D → Led → Ps → Prop := fun x y L post => match y with
  | .int k => itL x L fun ds => (-(2 ^ 63) ≤ k ∧ k < 2 ^ 63 ∧ ds.length * k.toNat ≤ sizeLine) ∧ post (.lst (repD k ds)) L
  | _ => False
theorem sim_repF : Sim2 rRep rRepF := fun x y dx dy F H L post Q rx ry ok hg k => by
  cases dy with
  | int n =>
    obtain ⟨p, xs, ds, e1, h1, r1, ⟨h2, h3, h4⟩, h5⟩ := itL.out hg rx ok
    exact ⟨p, n, xs, e1, ry.int_inv, h1, h2, h3, by rw [r1.length]; exact h4, k.froz (Ext.refl F) ok h5 fun p hn => .lst upd_same ((r1.rep _).up hn)⟩
  | _ => exact hg.elim
theorem g_repF (ha : GE X a ga) (hb : GE X b gb) : GE X (.BinOp a .Mult b pos) (g2 rRepF ga gb) := g_op (fun _ => op_rep) sim_repF ha hb
end

/-! ### dicts with int and text keys -/
section
variable {ι : Type} {X : ι → Cx} {a b c e o i : Expr} {ga gb gc gd gk gv : GT} {es : List Expr} {gs : GA} {pos pos' tpos : Pos}
/-- a key that is told -/
def keyD : D → Option Key
  | .int i => some (.inl i)
  | .str s => some (.inr s)
  | _ => none
theorem Rp.key {F : Hp} {v : V} {d : D} {k : Key} (h : Rp F v d) (e : keyD d = some k) : v = kV k := by
  cases d with
  | int i => rw [h.int_inv]; cases e; rfl
  | str s => rw [h.str_inv]; cases e; rfl
  | _ => cases e
def findD (kvs : List (Key × D)) (k : Key) : Option D := (kvs.find? fun kv => decide (kv.1 = k)).map (·.2)
def putD (kvs : List (Key × D)) (k : Key) (v : D) : List (Key × D) := if (kvs.any fun kv => decide (kv.1 = k)) = true then kvs.map (fun kv => if kv.1 = k then (kv.1, v) else kv) else kvs ++ [(k, v)]
theorem RpK.find {F : Hp} {k : Key} : ∀ {xs : List (Key × V)} {ds : List (Key × D)}, RpK F xs ds → (findD ds k = none ∧ valV xs k = none) ∨ ∃ v d, findD ds k = some d ∧ valV xs k = some v ∧ Rp F v d
  | _, _, .nil => .inl ⟨rfl, rfl⟩
  | _, _, .cons (k := j) (v := v) (d := d) (vs := vs) (ds := ds) h r => by
    by_cases q : j = k
    · refine .inr ⟨v, d, ?_, valV_pos q, h⟩
      unfold findD
      rw [List.find?_cons, decide_eq_true q]
      rfl
    · have e1 : findD ((j, d) :: ds) k = findD ds k := by
        unfold findD
        rw [List.find?_cons, decide_eq_false q]
      rw [e1, valV_neg q]
      exact r.find
theorem RpK.any {F : Hp} {k : Key} : ∀ {xs : List (Key × V)} {ds : List (Key × D)}, RpK F xs ds → (xs.any fun kv => decide (kv.1 = k)) = ds.any fun kv => decide (kv.1 = k)
  | _, _, .nil => rfl
  | _, _, .cons h r => by rw [List.any_cons, List.any_cons, r.any]
theorem RpK.repl {F : Hp} {k : Key} {v : V} {d : D} (hv : Rp F v d) : ∀ {xs : List (Key × V)} {ds : List (Key × D)}, RpK F xs ds → RpK F (xs.map fun kv => if kv.1 = k then (kv.1, v) else kv) (ds.map fun kv => if kv.1 = k then (kv.1, d) else kv)
  | _, _, .nil => .nil
  | _, _, .cons (k := j) h r => by
    rw [List.map_cons, List.map_cons]
    by_cases q : j = k
    · simp only [q, if_true]
      exact .cons hv (r.repl hv)
    · simp only [q, if_false]
      exact .cons h (r.repl hv)
theorem RpK.append {F : Hp} : ∀ {xs ys : List (Key × V)} {ds es : List (Key × D)}, RpK F xs ds → RpK F ys es → RpK F (xs ++ ys) (ds ++ es)
  | _, _, _, _, .nil, s => s
  | _, _, _, _, .cons h r, s => .cons h (r.append s)
theorem RpK.length {F : Hp} : ∀ {xs : List (Key × V)} {ds : List (Key × D)}, RpK F xs ds → xs.length = ds.length
  | _, _, .nil => rfl
  | _, _, .cons _ r => by rw [List.length_cons, List.length_cons, r.length]
theorem RpK.keys {F : Hp} : ∀ {xs : List (Key × V)} {ds : List (Key × D)}, RpK F xs ds → xs.map (·.1) = ds.map (·.1)
  | _, _, .nil => rfl
  | _, _, .cons _ r => by rw [List.map_cons, List.map_cons, r.keys]
theorem RpK.put {F : Hp} {k : Key} {v : V} {d : D} {xs : List (Key × V)} {ds : List (Key × D)} (h : RpK F xs ds) (hv : Rp F v d) : RpK F (putK xs k v) (putD ds k d) := by
  unfold putK putD
  rw [h.any]
  by_cases q : (ds.any fun kv => decide (kv.1 = k)) = true
  · rw [if_pos q, if_pos q]
    exact h.repl hv
  · rw [if_neg q, if_neg q]
    exact h.append (.cons hv .nil)
/-- a dict that is known -/
def itK (d : D) (L : Led) (k : List (Key × D) → Prop) : Prop := match d with
  | .dic ds => k ds
  | .ptr a => ∃ ds, L a = some (.dic ds) ∧ k ds
  | _ => False
theorem itK.out {F H : Hp} {L : Led} {v : V} {d : D} {k : List (Key × D) → Prop} (h : itK d L k) (r : Rp F v d) (ok : Ok F H L) : ∃ p xs ds, v = .ref p ∧ H p = some (.dK xs) ∧ RpK F xs ds ∧ k ds := by
  cases d with
  | dic ds => cases r with
    | dic h1 h2 => exact ⟨_, _, ds, rfl, ok.ex _ _ h1, h2, h⟩
  | ptr a =>
    obtain ⟨ds, h1, h2⟩ := h
    obtain ⟨_, u, e1, e2⟩ := ok.led a _ h1
    obtain ⟨xs, rfl, e3⟩ := e2.dic_inv
    exact ⟨a, xs, ds, r.ptr_inv, e1, e3, h2⟩
  | _ => exact h.elim
/-- d[k] -/
def gDGet (gd gk : GT) : GT := fun Γ L post => gd Γ L fun d L1 => gk Γ L1 fun y L2 => ∃ k, keyD y = some k ∧ itK d L2 fun kvs => match findD kvs k with | some v => post v L2 | none => False
theorem g_dget (hu : ∀ q, (X q).A.units + 1 < cLine) (ho : GE X o gd) (hi : GE X i gk) (hs : NoSl i) : GE X (.Subscript o i pos) (gDGet gd gk) :=
  let ⟨_, p, s⟩ := ho; let ⟨_, p2, s2⟩ := hi
  ⟨_, fun q => pe_dget (hu q) (p q) (p2 q) hs, fun σ F H Γ L post Q hsl ok hg k => s σ F H Γ L _ _ hsl ok hg fun v d F1 H1 L1 hp hr e1 o1 => s2 σ F1 H1 Γ L1 _ _ (hsl.mono e1) o1 hp fun v2 d2 F2 H2 L2 hp2 hr2 e2 o2 => by
    obtain ⟨j, hj, h⟩ := hp2
    obtain ⟨a, xs, ds, ea, h1, r1, h⟩ := itK.out h (hr.mono e2) o2
    rcases r1.find (k := j) with ⟨z, _⟩ | ⟨w, dw, z1, z2, z3⟩
    · rw [z] at h; exact h.elim
    · rw [z1] at h
      refine ⟨a, w, ea, ?_, k w dw F2 H2 L2 h z3 (e1.trans e2) o2⟩
      rw [hr2.key hj, ← z2]
      exact DGet.k h1⟩
/-- k in d, k not in d -/
def gDIn (neg : Bool) (gk gd : GT) : GT := fun Γ L post => gk Γ L fun y L1 => gd Γ L1 fun d L2 => ∃ k, keyD y = some k ∧ itK d L2 fun kvs => post (.bl (neg ^^ (findD kvs k).isSome)) L2
theorem g_din (hu : ∀ q, (X q).A.units + 1 < cLine) (hi : GE X i gk) (ho : GE X o gd) (hm : ∀ (_ : ι), behindInMarks .In o = false := by intro _; rfl) : (∃ t, (∀ q, PC (X q) .In i o t) ∧ SimE t (gDIn false gk gd)) :=
  let ⟨_, p, s⟩ := ho; let ⟨_, p2, s2⟩ := hi
  ⟨_, fun q => pc_din (hu q) (p2 q) (p q), fun σ F H Γ L post Q hsl ok hg k => s2 σ F H Γ L _ _ hsl ok hg fun v d F1 H1 L1 hp hr e1 o1 => s σ F1 H1 Γ L1 _ _ (hsl.mono e1) o1 hp fun v2 d2 F2 H2 L2 hp2 hr2 e2 o2 => by
    obtain ⟨j, hj, h⟩ := hp2
    obtain ⟨a, xs, ds, ea, h1, r1, h⟩ := itK.out h hr2 o2
    refine ⟨a, valV xs j, ea, by rw [(hr.mono e2).key hj]; exact DGet.k h1, k _ _ F2 H2 L2 h ?_ (e1.trans e2) o2⟩
    rw [Bool.false_xor]
    rcases r1.find (k := j) with ⟨z, z'⟩ | ⟨w, dw, z1, z2, z3⟩
    · rw [z, z']; exact .bl _
    · rw [z1, z2]; exact .bl _⟩
theorem g_dnin (hu : ∀ q, (X q).A.units + 1 < cLine) (hi : GE X i gk) (ho : GE X o gd) : (∃ t, (∀ q, PC (X q) .NotIn i o t) ∧ SimE t (gDIn true gk gd)) :=
  let ⟨_, p, s⟩ := ho; let ⟨_, p2, s2⟩ := hi
  ⟨_, fun q => pc_dnotin (hu q) (p2 q) (p q), fun σ F H Γ L post Q hsl ok hg k => s2 σ F H Γ L _ _ hsl ok hg fun v d F1 H1 L1 hp hr e1 o1 => s σ F1 H1 Γ L1 _ _ (hsl.mono e1) o1 hp fun v2 d2 F2 H2 L2 hp2 hr2 e2 o2 => by
    obtain ⟨j, hj, h⟩ := hp2
    obtain ⟨a, xs, ds, ea, h1, r1, h⟩ := itK.out h hr2 o2
    refine ⟨a, valV xs j, ea, by rw [(hr.mono e2).key hj]; exact DGet.k h1, k _ _ F2 H2 L2 h ?_ (e1.trans e2) o2⟩
    rw [Bool.true_xor]
    rcases r1.find (k := j) with ⟨z, z'⟩ | ⟨w, dw, z1, z2, z3⟩
    · rw [z, z']; exact .bl _
    · rw [z1, z2]; exact .bl _⟩
theorem b_din (hu : ∀ q, (X q).A.units + 1 < cLine) (hi : GE X i gk) (ho : GE X o gd) (hm : behindInMarks .In o = false := by rfl) : GEb X (.Compare i [.In] [o] pos) (gTst (gDIn false gk gd)) :=
  let ⟨_, p, s⟩ := g_din hu hi ho (fun _ => hm); ⟨_, fun q => pt_cmp (p q) hm, sim_tB s⟩
theorem b_dnin (hu : ∀ q, (X q).A.units + 1 < cLine) (hi : GE X i gk) (ho : GE X o gd) (hm : behindInMarks .NotIn o = false := by rfl) : GEb X (.Compare i [.NotIn] [o] pos) (gTst (gDIn true gk gd)) :=
  let ⟨_, p, s⟩ := g_dnin hu hi ho; ⟨_, fun q => pt_cmp (p q) hm, sim_tB s⟩
/-- {} -/
def gNewK : GT := fun _ L post => ∀ p, L p = none → post (.ptr p) (put L p (.dic []))
theorem g_newK : GE X (.Dict [] [] pos) gNewK := ⟨_, fun _ => pe_dnewK, fun σ F H Γ L post Q hs ok hg k => Kn.newO k (Ext.refl F) ok hg RpK.nil⟩
end
end Gh

/-! ghost layer, part 4: targets, statements, loops, comprehensions -/
namespace Gh
open PySem PySem.Spec L2
variable [KK]

/-! ### targets -/
abbrev GTg := D → Gm → Led → (Gm → Led → Prop) → Prop
abbrev GTs := List D → Gm → Led → (Gm → Led → Prop) → Prop
def SimG (t : TG) (g : GTg) : Prop := ∀ v d σ F H Γ L P Q, Rp F v d → Sl F σ Γ → Ok F H L → g d Γ L P → KX F P Q → t v σ H Q
def SimGs (t : TGs) (g : GTs) : Prop := ∀ v d σ F H Γ L P Q, Rps F v d → Sl F σ Γ → Ok F H L → g d Γ L P → KX F P Q → t v σ H Q
/-- a target stores to the slots of vs alone -/
def TgW (t : TG) (vs : List Nat) : Prop := ∀ v (ρ : L2.St) σ H Q, wipe σ vs = ρ → t v σ H Q → t v σ H fun σ2 H2 => wipe σ2 vs = ρ ∧ Q σ2 H2
def TgsW (t : TGs) (vs : List Nat) : Prop := ∀ v (ρ : L2.St) σ H Q, wipe σ vs = ρ → t v σ H Q → t v σ H fun σ2 H2 => wipe σ2 vs = ρ ∧ Q σ2 H2
section
variable {ι : Type} {X : ι → Cx} {tg e : Expr} {ts : List Expr} {pos : Pos} {g : GTg} {gs : GTs} {x : Str} {i : Nat} {vs : List Nat}
def GG (X : ι → Cx) (e : Expr) (g : GTg) : Prop := ∃ t, (∀ q, PG (X q) e t) ∧ SimG t g
def GGs (X : ι → Cx) (e : List Expr) (g : GTs) : Prop := ∃ t, (∀ q, PGs (X q) e t) ∧ SimGs t g
def GGw (X : ι → Cx) (vs : List Nat) (e : Expr) (g : GTg) : Prop := ∃ t, (∀ q, PG (X q) e t) ∧ SimG t g ∧ TgW t vs
def GGsw (X : ι → Cx) (vs : List Nat) (e : List Expr) (g : GTs) : Prop := ∃ t, (∀ q, PGs (X q) e t) ∧ SimGs t g ∧ TgsW t vs
def gNm (i : Nat) : GTg := fun d Γ L P => P (stt Γ i d) L
theorem sim_nm : SimG (gName i) (gNm i) := fun v d σ F H Γ L P Q hr hs ok hg k => k _ F H _ L hg (hs.set hr i) (Ext.refl F) ok
def gTp (n : Nat) (gs : GTs) : GTg := fun d Γ L P => match d with | .tup ds => ds.length = n ∧ gs ds Γ L P | _ => False
theorem sim_tp {n : Nat} {t : TGs} (h : SimGs t gs) : SimG (gTup KK.K n t) (gTp n gs) := fun v d σ F H Γ L P Q hr hs ok hg k => by
  cases d with
  | tup ds =>
    obtain ⟨a, xs, ds', e, h1, rs, h2, h3⟩ := itT.out (k := fun ds => ds.length = n ∧ gs ds Γ L P) (d := .tup ds) hg hr ok
    exact ⟨a, xs, e, h1, by rw [rs.length]; exact h2, h xs ds' σ F H Γ L P Q rs hs ok h3 k⟩
  | _ => exact hg.elim
def gGn : GTs := fun ds Γ L P => match ds with | [] => P Γ L | _ => False
def gGc (g : GTg) (gs : GTs) : GTs := fun ds Γ L P => match ds with | d :: r => g d Γ L fun Γ' L' => gs r Γ' L' P | [] => False
theorem sim_gn : SimGs gNil gGn := fun v d σ F H Γ L P Q hr hs ok hg k => by
  cases hr with
  | nil => exact ⟨rfl, k σ F H Γ L hg hs (Ext.refl F) ok⟩
  | cons _ _ => exact hg.elim
theorem sim_gc {t : TG} {u : TGs} (h : SimG t g) (h2 : SimGs u gs) : SimGs (gCons t u) (gGc g gs) := fun v d σ F H Γ L P Q hr hs ok hg k => by
  cases hr with
  | nil => exact hg.elim
  | cons r1 r2 =>
    exact ⟨_, _, rfl, h _ _ σ F H Γ L _ _ r1 hs ok hg fun σ' F' H' Γ' L' hp hs' e' o' => h2 _ _ σ' F' H' Γ' L' P Q (r2.mono e') hs' o' hp (k.mono e')⟩
theorem t_nm (hN : ∀ q, (X q).N.Nodup) (hi : ∀ q, (X q).N[i]? = some x) (hx : ∀ q, Loc (X q).env.scope x) (hf : ∀ q, (X q).fn x = true ∨ (X q).env.scope.names.lookup x = some .local := by first | exact fun _ => .inl rfl | exact fun _ => .inr rfl | assumption) :
    GG X (.Name x pos) (gNm i) := ⟨_, fun q => pg_name (hN q) (hi q) (hx q) (hf q), sim_nm⟩
theorem t_tp {k : Nat} {n : Nat} (hc : ∀ q, (X q).calm = true) (hK : ∀ q, (X q).K = KK.K) (h : GGs X ts gs) (hn : ∀ q, (assignEach ts (X q).env).length = n := by intro _; rfl) (hst : ∀ q, (assignEach ts (X q).env).findIdx? (·.1) = none := by intro _; rfl) :
    GG X (.Tuple ts k pos) (gTp n gs) :=
  let ⟨_, p, s⟩ := h
  ⟨gTup KK.K n _, fun q => by rw [← hK q]; exact pg_tup (hc q) (p q) (hn q) (hst q), sim_tp s⟩
theorem ts_nil : GGs X [] gGn := ⟨_, fun _ => pgs_nil, sim_gn⟩
theorem ts_cons (h : GG X e g) (h2 : GGs X ts gs) (hs : ∀ q, (assignEach (e :: ts) (X q).env).map (·.2) = assign e (X q).env :: (assignEach ts (X q).env).map (·.2) := by intro _; rfl) : GGs X (e :: ts) (gGc g gs) :=
  let ⟨_, p, s⟩ := h; let ⟨_, p2, s2⟩ := h2; ⟨_, fun q => pgs_cons (p q) (p2 q) (hs q), sim_gc s s2⟩
/-! within a comprehension -/
theorem wipe_set {x : Option V} : ∀ {vs : List Nat} {σ : L2.St}, i ∈ vs → wipe (σ.set i x) vs = wipe σ vs
  | [], _, h => by cases h
  | j :: vs, σ, h => by
    show (wipe (σ.set i x) vs).set j none = (wipe σ vs).set j none
    by_cases e : i ∈ vs
    · rw [wipe_set e]
    · have ej : i = j := by
        rcases List.mem_cons.mp h with h | h
        · exact h
        · exact absurd h e
      subst ej
      have out : ∀ (vs : List Nat) (σ : L2.St), i ∉ vs → wipe (σ.set i x) vs = (wipe σ vs).set i x := by
        intro vs
        induction vs with
        | nil => intro σ _; rfl
        | cons k vs ih =>
          intro σ h
          have h1 : i ≠ k := fun z => h (by rw [z]; exact List.mem_cons_self ..)
          have h2 : i ∉ vs := fun z => h (List.mem_cons_of_mem _ z)
          show (wipe (σ.set i x) vs).set k none = ((wipe σ vs).set k none).set i x
          rw [ih σ h2, List.set_comm _ _ h1]
      rw [out vs σ e, List.set_set]
theorem tw_nm (hi : i ∈ vs) : TgW (gName i) vs := fun v ρ σ H Q h q => ⟨by rw [wipe_set hi]; exact h, q⟩
theorem tw_tp {K : PySem.W.Frag} {n : Nat} {t : TGs} (h : TgsW t vs) : TgW (gTup K n t) vs := fun v ρ σ H Q e q => by
  obtain ⟨a, xs, e1, e2, e3, q⟩ := q
  exact ⟨a, xs, e1, e2, e3, h xs ρ σ H Q e q⟩
theorem tw_gn : TgsW gNil vs := fun v ρ σ H Q e q => ⟨q.1, e, q.2⟩
end
/-- a target's reading is monotone -/
def TgM (t : TG) : Prop := ∀ v σ H (Q Q' : L2.St → Hp → Prop), (∀ σ' H', Q σ' H' → Q' σ' H') → t v σ H Q → t v σ H Q'
def TgsM (t : TGs) : Prop := ∀ v σ H (Q Q' : L2.St → Hp → Prop), (∀ σ' H', Q σ' H' → Q' σ' H') → t v σ H Q → t v σ H Q'
theorem tm_nm {i : Nat} : TgM (gName i) := fun v σ H Q Q' h q => h _ _ q
theorem tm_gn : TgsM gNil := fun v σ H Q Q' h q => ⟨q.1, h _ _ q.2⟩
theorem tm_gc {t : TG} {u : TGs} (h : TgM t) (h2 : TgsM u) : TgsM (gCons t u) := fun v σ H Q Q' f q => by
  obtain ⟨a, r, e, q⟩ := q
  exact ⟨a, r, e, h _ _ _ _ _ (fun σ' H' z => h2 _ _ _ _ _ f z) q⟩
theorem tm_tp {K : PySem.W.Frag} {n : Nat} {t : TGs} (h : TgsM t) : TgM (gTup K n t) := fun v σ H Q Q' f q => by
  obtain ⟨a, xs, e1, e2, e3, q⟩ := q
  exact ⟨a, xs, e1, e2, e3, h _ _ _ _ _ f q⟩
theorem tw_gc {t : TG} {u : TGs} {vs : List Nat} (h : TgW t vs) (hm : TgM t) (h2 : TgsW u vs) : TgsW (gCons t u) vs := fun v ρ σ H Q e q => by
  obtain ⟨a, r, e1, q⟩ := q
  exact ⟨a, r, e1, hm _ _ _ _ _ (fun σ' H' z => h2 _ _ _ _ _ z.1 z.2) (h _ ρ σ H _ e q)⟩
section
variable {ι : Type} {X : ι → Cx} {tg e : Expr} {ts : List Expr} {pos : Pos} {g : GTg} {gs : GTs} {x : Str} {i : Nat} {vs : List Nat}
def GGx (X : ι → Cx) (vs : List Nat) (e : Expr) (g : GTg) : Prop := ∃ t, (∀ q, PG (X q) e t) ∧ SimG t g ∧ TgW t vs ∧ TgM t
def GGsx (X : ι → Cx) (vs : List Nat) (e : List Expr) (g : GTs) : Prop := ∃ t, (∀ q, PGs (X q) e t) ∧ SimGs t g ∧ TgsW t vs ∧ TgsM t
theorem x_nm (hN : ∀ q, (X q).N.Nodup) (hi : ∀ q, (X q).N[i]? = some x) (hx : ∀ q, Loc (X q).env.scope x) (hf : ∀ q, (X q).fn x = true ∨ (X q).env.scope.names.lookup x = some .local) (hv : i ∈ vs) :
    GGx X vs (.Name x pos) (gNm i) := ⟨_, fun q => pg_name (hN q) (hi q) (hx q) (hf q), sim_nm, tw_nm hv, tm_nm⟩
theorem x_tp {k : Nat} {n : Nat} (hc : ∀ q, (X q).calm = true) (hK : ∀ q, (X q).K = KK.K) (h : GGsx X vs ts gs) (hn : ∀ q, (assignEach ts (X q).env).length = n := by intro _; rfl) (hst : ∀ q, (assignEach ts (X q).env).findIdx? (·.1) = none := by intro _; rfl) :
    GGx X vs (.Tuple ts k pos) (gTp n gs) :=
  let ⟨_, p, s, w, m⟩ := h
  ⟨gTup KK.K n _, fun q => by rw [← hK q]; exact pg_tup (hc q) (p q) (hn q) (hst q), sim_tp s, tw_tp w, tm_tp m⟩
theorem xs_nil : GGsx X vs [] gGn := ⟨_, fun _ => pgs_nil, sim_gn, tw_gn, tm_gn⟩
theorem xs_cons (h : GGx X vs e g) (h2 : GGsx X vs ts gs) (hs : ∀ q, (assignEach (e :: ts) (X q).env).map (·.2) = assign e (X q).env :: (assignEach ts (X q).env).map (·.2) := by intro _; rfl) : GGsx X vs (e :: ts) (gGc g gs) :=
  let ⟨_, p, s, w, m⟩ := h; let ⟨_, p2, s2, w2, m2⟩ := h2; ⟨_, fun q => pgs_cons (p q) (p2 q) (hs q), sim_gc s s2, tw_gc w m w2, tm_gc m m2⟩
end

/-! ### statements -/
section
variable {ι : Type} {X : ι → Cx} {st : Stmt} {sts as bs : List Stmt} {e o i c tg : Expr} {ge gd gk gv : GT} {gt : GB} {ga : GA} {g u : GS} {gg : GTg} {pos pos' : Pos} {x y : Str} {n m : Nat}
def gNext : GS := fun E Γ L => E.nx Γ L
def gSq (a b : GS) : GS := fun E Γ L => a { E with nx := b E } Γ L
theorem s_nil : GSs X [] gNext := ⟨_, fun _ => pss_nil, fun σ F H Γ L E D hs ok hg k => k.nx σ F H Γ L hg hs (Ext.refl F) ok⟩
theorem sim_sq {t t' : TS} (h : SimS t g) (h2 : SimS t' u) : SimS (tSeq t t') (gSq g u) := fun σ F H Γ L E D hs ok hg k =>
  h σ F H Γ L { E with nx := u E } { D with nx := t' D } hs ok hg ⟨fun σ' F' H' Γ' L' hp hs' e' o' => h2 σ' F' H' Γ' L' E D hs' o' hp (k.mono e'), k.rt, k.bk, k.ct⟩
theorem s_cons (h : GSt X st g) (h2 : GSs X sts u) : GSs X (st :: sts) (gSq g u) := let ⟨_, p, s⟩ := h; let ⟨_, p2, s2⟩ := h2; ⟨_, fun q => pss_cons (p q) (p2 q), sim_sq s s2⟩
theorem s_one (h : GSt X st g) : GSs X [st] g := let ⟨_, p, s⟩ := h; ⟨_, fun q => pss_one (p q), s⟩
def gBreak : GS := fun E Γ L => E.bk Γ L
def gCont : GS := fun E Γ L => E.ct Γ L
theorem s_pass : GSt X (.Pass pos) gNext := ⟨_, fun _ => ps_pass, fun σ F H Γ L E D hs ok hg k => k.nx σ F H Γ L hg hs (Ext.refl F) ok⟩
theorem s_break : GSt X (.Break pos) gBreak := ⟨_, fun _ => ps_break, fun σ F H Γ L E D hs ok hg k => k.bk σ F H Γ L hg hs (Ext.refl F) ok⟩
theorem s_continue : GSt X (.Continue pos) gCont := ⟨_, fun _ => ps_continue, fun σ F H Γ L E D hs ok hg k => k.ct σ F H Γ L hg hs (Ext.refl F) ok⟩
def gDrop (ge : GT) : GS := fun E Γ L => ge Γ L fun _ L1 => E.nx Γ L1
theorem s_expr (h : GE X e ge) (hs : ∀ q, swapsWith e none pos.line (X q).env = pure false := by intro _; rfl) : GSt X (.Expr e pos) (gDrop ge) :=
  let ⟨_, p, s⟩ := h
  ⟨_, fun q => ps_expr (p q) (hs q), fun σ F H Γ L E D hs ok hg k => s σ F H Γ L _ _ hs ok hg fun v d F' H' L' hp hr e' o' => k.nx σ F' H' Γ L' hp (hs.mono e') e' o'⟩
def gRet (ge : GT) : GS := fun E Γ L => ge Γ L E.rt
theorem s_ret (h : GE X e ge) : GSt X (.Return (some e) pos) (gRet ge) :=
  let ⟨_, p, s⟩ := h
  ⟨_, fun q => ps_ret (p q), fun σ F H Γ L E D hs ok hg k => s σ F H Γ L _ _ hs ok hg k.rt⟩
def gRetN : GS := fun E _ L => E.rt .non L
theorem s_retN : GSt X (.Return none pos) gRetN := ⟨_, fun _ => ps_retN, fun σ F H Γ L E D hs ok hg k => k.rt _ _ F H L hg .non (Ext.refl F) ok⟩
def gIfS (gt : GB) (g u : GS) : GS := fun E Γ L => gt Γ L fun b L1 => (b = true → g E Γ L1) ∧ (b = false → u E Γ L1)
theorem s_if (h : GEb X c gt) (h1 : GSs X as g) (h2 : GSs X bs u) : GSt X (.If c as bs pos) (gIfS gt g u) :=
  let ⟨_, p, s⟩ := h; let ⟨_, p1, s1⟩ := h1; let ⟨_, p2, s2⟩ := h2
  ⟨_, fun q => ps_if (p q) (p1 q) (p2 q), fun σ F H Γ L E D hs ok hg k => s σ F H Γ L _ _ hs ok hg fun b F' H' L' hp e' o' => by
    cases b with
    | true =>
      rw [if_pos rfl]
      exact s1 σ F' H' Γ L' E D (hs.mono e') o' (hp.1 rfl) (k.mono e')
    | false =>
      rw [if_neg Bool.false_ne_true]
      exact s2 σ F' H' Γ L' E D (hs.mono e') o' (hp.2 rfl) (k.mono e')⟩
def gAsg (ge : GT) (gg : GTg) : GS := fun E Γ L => ge Γ L fun d L1 => gg d Γ L1 E.nx
theorem sim_asg {t : TE} {tt : TG} (s : SimE t ge) (s2 : SimG tt gg) : SimS (tAsg t tt) (gAsg ge gg) := fun σ F H Γ L E D hs ok hg k =>
  s σ F H Γ L _ _ hs ok hg fun v d F' H' L' hp hr e' o' => s2 v d σ F' H' Γ L' _ _ hr (hs.mono e') o' hp (k.nx.mono e')
theorem s_asg (h : GE X e ge) (h2 : GG X tg gg) (hs : ∀ q, swapsWithSole [tg] e pos.line (X q).env = pure false := by intro _; rfl) (hw : ∀ q, swappedStores [tg] e (X q).env = pure none := by intro _; rfl)
    (h1 : ∀ q, (assignEach [tg] (X q).env).map (·.2) = [assign tg (X q).env] := by intro _; rfl) : GSt X (.Assign [tg] e pos) (gAsg ge gg) :=
  let ⟨_, p, s⟩ := h; let ⟨_, p2, s2⟩ := h2; ⟨_, fun q => ps_asg (p q) (p2 q) (hs q) (hw q) (h1 q), sim_asg s s2⟩
theorem s_set (hN : ∀ q, (X q).N.Nodup) (hi : ∀ q, (X q).N[n]? = some x) (hx : ∀ q, Loc (X q).env.scope x) (h : GE X e ge) (hs : ∀ q, swapsWith e (some (.Name x pos')) pos.line (X q).env = pure false := by intro _; rfl)
    (hf : ∀ q, (X q).fn x = true ∨ (X q).env.scope.names.lookup x = some .local := by first | exact fun _ => .inl rfl | exact fun _ => .inr rfl | assumption) : GSt X (.Assign [.Name x pos'] e pos) (gAsg ge (gNm n)) :=
  let ⟨_, p, s⟩ := h; ⟨_, fun q => ps_set (hN q) (hi q) (hx q) (p q) (hs q) (hf q), sim_asg s sim_nm⟩
def gPar (i j : Nat) (ga : GA) : GS := fun E Γ L => ga Γ L fun ds L1 => match ds with | [d, e] => E.nx (stt (stt Γ i d) j e) L1 | _ => False
theorem s_par {a b : Expr} {px py pt : Pos} {kt k2 : Nat} {pt2 : Pos} (hc : ∀ q, (X q).calm = true) (hN : ∀ q, (X q).N.Nodup) (hi : ∀ q, (X q).N[n]? = some x) (hj : ∀ q, (X q).N[m]? = some y) (hij : n ≠ m)
    (hx : ∀ q, (X q).env.scope.names.lookup x = some .local) (hy : ∀ q, (X q).env.scope.names.lookup y = some .local) (ha : GEa X [a, b] ga)
    (hw : ∀ q, swappedStores [.Tuple [.Name x px, .Name y py] kt pt] (.Tuple [a, b] k2 pt2) (X q).env = pure (some [x, y]) := by intro _; rfl)
    (hs : ∀ q, swapsWithSole [.Tuple [.Name x px, .Name y py] kt pt] (.Tuple [a, b] k2 pt2) pos.line (X q).env = pure false := by intro _; rfl) :
    GSt X (.Assign [.Tuple [.Name x px, .Name y py] kt pt] (.Tuple [a, b] k2 pt2) pos) (gPar n m ga) :=
  let ⟨_, p, s⟩ := ha
  ⟨_, fun q => ps_par (hc q) (hN q) (hi q) (hj q) hij (hx q) (hy q) (p q) (hw q) (hs q), fun σ F H Γ L E D hs ok hg k => s σ F H Γ L _ _ hs ok hg fun vs ds F' H' L' hp hr e' o' => by
    match ds, hp, hr with
    | [d, e], hp, .cons r1 (.cons r2 .nil) => exact ⟨_, _, rfl, k.nx _ F' H' _ L' hp (((hs.mono e').set r1 n).set r2 m) e' o'⟩⟩
def gPar3 (i j l : Nat) (ga : GA) : GS := fun E Γ L => ga Γ L fun ds L1 => match ds with | [d, e, f] => E.nx (stt (stt (stt Γ i d) j e) l f) L1 | _ => False
theorem s_par3 {l : Nat} {z : Str} {a b c : Expr} {px py pz pt : Pos} {kt k2 : Nat} {pt2 : Pos} (hc : ∀ q, (X q).calm = true) (hN : ∀ q, (X q).N.Nodup) (hi : ∀ q, (X q).N[n]? = some x) (hj : ∀ q, (X q).N[m]? = some y) (hl : ∀ q, (X q).N[l]? = some z) (hij : n ≠ m) (hil : n ≠ l) (hjl : m ≠ l)
    (hx : ∀ q, (X q).env.scope.names.lookup x = some .local) (hy : ∀ q, (X q).env.scope.names.lookup y = some .local) (hz : ∀ q, (X q).env.scope.names.lookup z = some .local) (ha : GEa X [a, b, c] ga)
    (hw : ∀ q, swappedStores [.Tuple [.Name x px, .Name y py, .Name z pz] kt pt] (.Tuple [a, b, c] k2 pt2) (X q).env = pure (some [x, y, z]) := by intro _; rfl)
    (hs : ∀ q, swapsWithSole [.Tuple [.Name x px, .Name y py, .Name z pz] kt pt] (.Tuple [a, b, c] k2 pt2) pos.line (X q).env = pure false := by intro _; rfl) :
    GSt X (.Assign [.Tuple [.Name x px, .Name y py, .Name z pz] kt pt] (.Tuple [a, b, c] k2 pt2) pos) (gPar3 n m l ga) :=
  let ⟨_, p, s⟩ := ha
  ⟨_, fun q => ps_par3 (hc q) (hN q) (hi q) (hj q) (hl q) hij hil hjl (hx q) (hy q) (hz q) (p q) (hw q) (hs q), fun σ F H Γ L E D hs ok hg k => s σ F H Γ L _ _ hs ok hg fun vs ds F' H' L' hp hr e' o' => by
    match ds, hp, hr with
    | [d, e, f], hp, .cons r1 (.cons r2 (.cons r3 .nil)) => exact ⟨_, _, _, rfl, k.nx _ F' H' _ L' hp ((((hs.mono e').set r1 n).set r2 m).set r3 l) e' o'⟩⟩
/-- d[k] = v -/
def gDPut (gd gk gv : GT) : GS := fun E Γ L => gv Γ L fun v L1 => gd Γ L1 fun d L2 => gk Γ L2 fun y L3 => ∃ a k kvs, d = .ptr a ∧ keyD y = some k ∧ L3 a = some (.dic kvs) ∧ kvs.length < sizeLine ∧ E.nx Γ (put L3 a (.dic (putD kvs k v)))
theorem s_dput (hu : ∀ q, (X q).A.units + 1 < cLine) (ho : GE X o gd) (hi : GE X i gk) (hv : GE X e gv) (hs : ∀ q, swapsWith e (some (.Subscript o i pos')) pos.line (X q).env = pure false := by intro _; rfl) :
    GSt X (.Assign [.Subscript o i pos'] e pos) (gDPut gd gk gv) :=
  let ⟨_, p1, s1⟩ := ho; let ⟨_, p2, s2⟩ := hi; let ⟨_, p3, s3⟩ := hv
  ⟨_, fun q => ps_dput (hu q) (p1 q) (p2 q) (p3 q) (hs q), fun σ F H Γ L E D hs ok hg k => s3 σ F H Γ L _ _ hs ok hg fun v dv F1 H1 L1 hp hr e1 o1 => s1 σ F1 H1 Γ L1 _ _ (hs.mono e1) o1 hp fun vd dd F2 H2 L2 hp2 hr2 e2 o2 =>
    s2 σ F2 H2 Γ L2 _ _ (hs.mono (e1.trans e2)) o2 hp2 fun vk dk F3 H3 L3 hp3 hr3 e3 o3 => by
      obtain ⟨a, j, kvs, rfl, hj, h1, h2, h3⟩ := hp3
      obtain ⟨h0, u, w1, w2⟩ := o3.led a _ h1
      obtain ⟨xs, rfl, w3⟩ := w2.dic_inv
      refine ⟨a, upd H3 a (.dK (putK xs j v)), hr2.ptr_inv, ?_, k.nx σ F3 _ Γ _ h3 (hs.mono (e1.trans (e2.trans e3))) (e1.trans (e2.trans e3)) (o3.write h1 (u := .dK (putK xs j v)) (w3.put (hr.mono (e2.trans e3))))⟩
      rw [hr3.key hj]
      exact DPut.k w1 (by rw [w3.length]; exact h2)⟩
/-- .. as a target -/
def rSetD : TSet := fun o i v H Q => ∃ a H', o = .ref a ∧ DPut H a i v H' ∧ Q H'
theorem set_D {X : Cx} (hu : X.A.units + 1 < cLine) : PSet X rSetD := by
  intro pins s σ H o i v ov iv w Q I ro ri rv h
  obtain ⟨a, H', rfl, hp, q⟩ := h
  cases ro
  exact d_setItem hu I hp ri rv fun s' I' => ⟨H', I', q⟩
def gSubD (gd gk : GT) : GTg := fun v Γ L P => gd Γ L fun d L2 => gk Γ L2 fun y L3 => ∃ a k kvs, d = .ptr a ∧ keyD y = some k ∧ L3 a = some (.dic kvs) ∧ kvs.length < sizeLine ∧ P Γ (put L3 a (.dic (putD kvs k v)))
theorem t_subD (hu : ∀ q, (X q).A.units + 1 < cLine) (ho : GE X o gd) (hi : GE X i gk) (ha : ∀ q v, assign (.Subscript o i pos) (X q).env v = (do
      let ov ← holding [v] (eval o (X q).env)
      let iv ← holding [v, ov] (eval i (X q).env)
      standAt pos
      holding [v, ov, iv] (setItem ov iv v)
      release [v, ov, iv] []) := by intro _ _; rfl) : GG X (.Subscript o i pos) (gSubD gd gk) :=
  let ⟨_, p1, s1⟩ := ho; let ⟨_, p2, s2⟩ := hi
  ⟨_, fun q => pg_sub (p1 q) (p2 q) (set_D (hu q)) (ha q), fun v d σ F H Γ L P Q hr hs ok hg k => s1 σ F H Γ L _ _ hs ok hg fun vd dd F2 H2 L2 hp2 hr2 e2 o2 =>
    s2 σ F2 H2 Γ L2 _ _ (hs.mono e2) o2 hp2 fun vk dk F3 H3 L3 hp3 hr3 e3 o3 => by
      obtain ⟨a, j, kvs, rfl, hj, h1, h2, h3⟩ := hp3
      obtain ⟨h0, u, w1, w2⟩ := o3.led a _ h1
      obtain ⟨xs, rfl, w3⟩ := w2.dic_inv
      refine ⟨a, upd H3 a (.dK (putK xs j v)), hr2.ptr_inv, ?_, k σ F3 _ Γ _ h3 (hs.mono (e2.trans e3)) (e2.trans e3) (o3.write h1 (u := .dK (putK xs j v)) (w3.put (hr.mono (e2.trans e3))))⟩
      rw [hr3.key hj]
      exact DPut.k w1 (by rw [w3.length]; exact h2)⟩
/-- xs[i] = v -/
def gSubL (gd gk : GT) : GTg := fun v Γ L P => gd Γ L fun d L2 => gk Γ L2 fun y L3 => ∃ a k j ds, d = .ptr a ∧ y = .int k ∧ L3 a = some (.lst ds) ∧ ixN ds.length k = some j ∧ P Γ (put L3 a (.lst (ds.set j v)))
theorem t_subL (ho : GE X o gd) (hi : GE X i gk) (ha : ∀ q v, assign (.Subscript o i pos) (X q).env v = (do
      let ov ← holding [v] (eval o (X q).env)
      let iv ← holding [v, ov] (eval i (X q).env)
      standAt pos
      holding [v, ov, iv] (setItem ov iv v)
      release [v, ov, iv] []) := by intro _ _; rfl) : GG X (.Subscript o i pos) (gSubL gd gk) :=
  let ⟨_, p1, s1⟩ := ho; let ⟨_, p2, s2⟩ := hi
  ⟨_, fun q => pg_sub (p1 q) (p2 q) set_list (ha q), fun v d σ F H Γ L P Q hr hs ok hg k => s1 σ F H Γ L _ _ hs ok hg fun vd dd F2 H2 L2 hp2 hr2 e2 o2 =>
    s2 σ F2 H2 Γ L2 _ _ (hs.mono e2) o2 hp2 fun vk dk F3 H3 L3 hp3 hr3 e3 o3 => by
      obtain ⟨a, n, j, ds, rfl, rfl, h1, h2, h3⟩ := hp3
      obtain ⟨h0, u, w1, w2⟩ := o3.led a _ h1
      obtain ⟨xs, rfl, w3⟩ := w2.lst_inv
      exact ⟨a, xs, n, j, hr2.ptr_inv, hr3.int_inv, w1, by rw [w3.length]; exact h2, k σ F3 _ Γ _ h3 (hs.mono (e2.trans e3)) (e2.trans e3) (o3.write h1 (u := .lst (xs.set j v)) (Rps.set (hr.mono (e2.trans e3)) j w3))⟩⟩
/-- name op= e, ints -/
def dInt (d : D) (k : Int → Prop) : Prop := match d with | .int i => k i | _ => False
def gAug (i : Nat) (f : Int → Int → Int) (ge : GT) : GS := fun E Γ L => ∃ a, lk Γ i = some (.int a) ∧ ge Γ L fun d L1 => dInt d fun b => E.nx (stt Γ i (.int (f a b))) L1
theorem s_aug {op : Operator} {f : Int → Int → Int} (hN : ∀ q, (X q).N.Nodup) (hi : ∀ q, (X q).N[n]? = some x) (hx : ∀ q, Loc (X q).env.scope x) (h : GE X e ge) (ho : ∀ q, PIp (X q) op (ipI f))
    (hf : ∀ q, (X q).fn x = true ∨ (X q).env.scope.names.lookup x = some .local := by first | exact fun _ => .inl rfl | exact fun _ => .inr rfl | assumption) : GSt X (.AugAssign (.Name x pos') op e pos) (gAug n f ge) :=
  let ⟨_, p, s⟩ := h
  ⟨_, fun q => ps_aug (hN q) (hi q) (hx q) (p q) (ho q) (hf q), fun σ F H Γ L E D hs ok hg k => by
    obtain ⟨a, w, hg⟩ := hg
    obtain ⟨v, h1, h2⟩ := hs.get w
    refine ⟨v, h1, s σ F H Γ L _ _ hs ok hg fun v2 d2 F1 H1 L1 hp hr e1 o1 => ?_⟩
    cases d2 with
    | int b => exact ⟨a, b, h2.int_inv, hr.int_inv, k.nx _ F1 H1 _ L1 hp ((hs.mono e1).set (.int _) n) e1 o1⟩
    | _ => exact False.elim hp⟩
/-- a list of the ledger is frozen, by its slot -/
def rm (L : Led) (a : Addr) : Led := fun b => if b = a then none else L b
def gFz (i : Nat) (g : GS) : GS := fun E Γ L => ∃ a ds, lk Γ i = some (.ptr a) ∧ L a = some (.lst ds) ∧ g E (stt Γ i (.lst ds)) (rm L a)
theorem Ok.fz {F H : Hp} {L : Led} {a : Addr} {ds : List D} (k : Ok F H L) (h : L a = some (.lst ds)) : ∃ F', Ext F F' ∧ Ok F' H (rm L a) ∧ Rp F' (.ref a) (.lst ds) := by
  obtain ⟨h0, u, w1, w2⟩ := k.led a _ h
  obtain ⟨xs, rfl, w3⟩ := w2.lst_inv
  refine ⟨upd F a (.lst xs), Ext.new h0, ⟨fun b o e => ?_, fun b o e => ?_⟩, .lst upd_same (w3.up h0)⟩
  · by_cases q : b = a
    · subst q; rw [upd_same] at e; cases e; exact w1
    · rw [upd_ne q] at e; exact k.ex b o e
  · unfold rm at e
    by_cases q : b = a
    · rw [if_pos q] at e; cases e
    · rw [if_neg q] at e
      obtain ⟨z0, v, z1, z2⟩ := k.led b o e
      exact ⟨by rw [upd_ne q]; exact z0, v, z1, z2.mono (Ext.new h0)⟩
theorem set_same {F : Hp} {v : V} {d : D} : ∀ {σ : L2.St} {Γ : Gm} {i : Nat}, Sl F σ Γ → σ[i]? = some (some v) → Rp F v d → Sl F σ (stt Γ i d)
  | _, _, _, .nil, _, _ => .nil
  | _, _, 0, .cons _ r, e, h => .cons (fun e' q => by cases q; exact ⟨v, by simpa using e, h⟩) r
  | _, _, i + 1, .cons q r, e, h => .cons q (set_same r (by simpa using e) h)
theorem s_fz (j : Nat) (h : GSs X sts g) : GSs X sts (gFz j g) :=
  let ⟨_, p, s⟩ := h
  ⟨_, p, fun σ F H Γ L E D hs ok hg k => by
    obtain ⟨a, ds, h1, h2, h3⟩ := hg
    obtain ⟨F', e', o', r⟩ := ok.fz h2
    obtain ⟨v, w1, w2⟩ := hs.get h1
    rw [w2.ptr_inv] at w1
    exact s σ F' H (stt Γ j (.lst ds)) (rm L a) E D (set_same (hs.mono e') w1 r) o' h3 (k.mono e')⟩
/-- the value of an expression is frozen -/
def gFzE (g : GT) : GT := fun Γ L post => g Γ L fun d L1 => ∃ a ds, d = .ptr a ∧ L1 a = some (.lst ds) ∧ post (.lst ds) (rm L1 a)
theorem g_fz (h : GE X e ge) : GE X e (gFzE ge) :=
  let ⟨_, p, s⟩ := h
  ⟨_, p, fun σ F H Γ L post Q hs ok hg k => s σ F H Γ L _ _ hs ok hg fun v d F1 H1 L1 hp hr e1 o1 => by
    obtain ⟨a, ds, rfl, h2, h3⟩ := hp
    obtain ⟨F', e', o', r⟩ := o1.fz h2
    rw [hr.ptr_inv]
    exact k _ _ F' H1 _ h3 r (e1.trans e') o'⟩
end
end Gh

/-! ghost layer, part 5: loops, comprehensions, defs and their calls -/
namespace Gh
open PySem PySem.Spec L2
variable [KK]

/-! ### what is walked -/
/-- J walks the trees ds, while the ledger keeps what it leans on -/
def Wlk (J : It) (ds : List D) (keep : Led → Prop) (F0 : Hp) : Prop := ∀ i F H L, Ext F0 F → Ok F H L → keep L →
  (i < ds.length → J.go i H ∧ ∀ x H', J.yld i H x H' → ∃ F' d, ds[i]? = some d ∧ Rp F' x d ∧ Ext F F' ∧ Ok F' H' L) ∧ (i = ds.length → J.stop i H)
abbrev GTi := Gm → Led → (List D → (Led → Prop) → Led → Prop) → Prop
def SimI (w : TI) (g : GTi) : Prop := ∀ σ F H Γ L P R, Sl F σ Γ → Ok F H L → g Γ L P → (∀ J F' H' L' ds keep, P ds keep L' → Wlk J ds keep F' → Ext F F' → Ok F' H' L' → R J H') → w σ H R
section
variable {ι : Type} {X : ι → Cx} {tg e a b c : Expr} {es : List Expr} {ga gb ge : GT} {gs : GA} {gi : GTi} {pos p : Pos}
def GI (X : ι → Cx) (tg e : Expr) (g : GTi) : Prop := ∃ w, (∀ q, PI (X q) tg e w) ∧ SimI w g
def giL (ga : GT) : GTi := fun Γ L P => ga Γ L fun d L1 => match d with
  | .lst ds => P ds (fun _ => True) L1
  | .scr ds => P ds (fun _ => True) L1
  | .ptr a => ∃ ds, L1 a = some (.lst ds) ∧ P ds (fun L' => L' a = some (.lst ds)) L1
  | _ => False
def giT (ga : GT) : GTi := fun Γ L P => ga Γ L fun d L1 => match d with
  | .tup ds => P ds (fun _ => True) L1
  | _ => False
theorem wlk_l {K : PySem.W.Frag} {F : Hp} {a : Addr} {xs : List V} {ds : List D} (h1 : SqL K F a xs) (h2 : Rps F xs ds) : Wlk (Itl K a) ds (fun _ => True) F := fun i F' H L e ok _ => by
  have hH : SqL K H a xs := ext_l ok.ex (ext_l e h1)
  have r := h2.mono e
  refine ⟨fun hi => ?_, fun hi => ⟨xs, hH, by rw [r.length, hi]; exact Nat.le_refl _⟩⟩
  have hx : i < xs.length := by rw [r.length]; exact hi
  refine ⟨⟨xs, xs[i], hH, by simp [hx]⟩, fun x H' y => ?_⟩
  obtain ⟨rfl, y⟩ := y
  obtain ⟨d, q1, q2⟩ := r.gev (y xs hH)
  exact ⟨F', d, q1, q2, Ext.refl _, ok⟩
theorem wlk_p {K : PySem.W.Frag} {F : Hp} {a : Addr} {ds : List D} : Wlk (Itl K a) ds (fun L => L a = some (.lst ds)) F := fun i F' H L e ok hk => by
  obtain ⟨h0, u, w1, w2⟩ := ok.led a _ hk
  obtain ⟨xs, rfl, r⟩ := w2.lst_inv
  refine ⟨fun hi => ?_, fun hi => ⟨xs, SqL.of w1, by rw [r.length, hi]; exact Nat.le_refl _⟩⟩
  have hx : i < xs.length := by rw [r.length]; exact hi
  refine ⟨⟨xs, xs[i], SqL.of w1, by simp [hx]⟩, fun x H' y => ?_⟩
  obtain ⟨rfl, y⟩ := y
  obtain ⟨d, q1, q2⟩ := r.gev (y xs (SqL.of w1))
  exact ⟨F', d, q1, q2, Ext.refl _, ok⟩
theorem wlk_t {K : PySem.W.Frag} {F : Hp} {a : Addr} {xs : List V} {ds : List D} (h1 : SqT K F a xs) (h2 : Rps F xs ds) : Wlk (Itt K a) ds (fun _ => True) F := fun i F' H L e ok _ => by
  have hH : SqT K H a xs := ext_t ok.ex (ext_t e h1)
  have r := h2.mono e
  refine ⟨fun hi => ?_, fun hi => ⟨xs, hH, by rw [r.length, hi]; exact Nat.le_refl _⟩⟩
  have hx : i < xs.length := by rw [r.length]; exact hi
  refine ⟨⟨xs, xs[i], hH, by simp [hx]⟩, fun x H' y => ?_⟩
  obtain ⟨rfl, y⟩ := y
  obtain ⟨d, q1, q2⟩ := r.gev (y xs (hH))
  exact ⟨F', d, q1, q2, Ext.refl _, ok⟩
theorem i_lst (hK : ∀ q, (X q).K = KK.K) (h : GE X a ga) : GI X tg a (giL ga) :=
  let ⟨_, p, s⟩ := h
  ⟨iList KK.K _, fun q => by rw [← hK q]; exact pi_list (p q), fun σ F H Γ L P R hs ok hg k => s σ F H Γ L _ _ hs ok hg fun v d F1 H1 L1 hp hr e1 o1 => by
    cases d with
    | lst ds => cases hr with
      | lst h1 h2 => exact ⟨_, rfl, ⟨_, SqL.of (o1.ex _ _ h1)⟩, k _ F1 H1 L1 ds _ hp (wlk_l (SqL.of h1) h2) e1 o1⟩
    | scr ds => cases hr with
      | scr h1 h2 => exact ⟨_, rfl, ⟨_, ext_l o1.ex h1⟩, k _ F1 H1 L1 ds _ hp (wlk_l h1 h2) e1 o1⟩
    | ptr a =>
      obtain ⟨ds, h1, h2⟩ := hp
      obtain ⟨h0, u, w1, w2⟩ := o1.led a _ h1
      obtain ⟨xs, rfl, r⟩ := w2.lst_inv
      exact ⟨a, hr.ptr_inv, ⟨xs, SqL.of w1⟩, k _ F1 H1 L1 ds _ h2 wlk_p e1 o1⟩
    | _ => exact hp.elim⟩
theorem i_tup (hK : ∀ q, (X q).K = KK.K) (h : GE X a ga) : GI X tg a (giT ga) :=
  let ⟨_, p, s⟩ := h
  ⟨iTup KK.K _, fun q => by rw [← hK q]; exact pi_tup (p q), fun σ F H Γ L P R hs ok hg k => s σ F H Γ L _ _ hs ok hg fun v d F1 H1 L1 hp hr e1 o1 => by
    cases d with
    | tup ds => cases hr with
      | tup h1 h2 => exact ⟨_, rfl, ⟨_, ext_t o1.ex h1⟩, k _ F1 H1 L1 ds _ hp (wlk_t h1 h2) e1 o1⟩
    | _ => exact hp.elim⟩
def rngD (lo : Int) (n : Nat) : List D := (List.range n).map fun (i : Nat) => D.int (lo + i)
theorem rngD_len (lo : Int) (n : Nat) : (rngD lo n).length = n := by unfold rngD; simp
theorem rngD_get {lo : Int} {n i : Nat} {d : D} (h : (rngD lo n)[i]? = some d) : i < n ∧ d = .int (lo + i) := by
  unfold rngD at h
  rw [List.getElem?_map] at h
  by_cases q : i < n
  · rw [List.getElem?_range q] at h
    exact ⟨q, (Option.some.inj h).symm⟩
  · rw [List.getElem?_eq_none (by simpa using q)] at h
    cases h
theorem wlk_r {F : Hp} {lo : Int} {n : Nat} : Wlk (Itr lo n) (rngD lo n) (fun _ => True) F := fun i F' H L e ok _ => by
  rw [rngD_len]
  refine ⟨fun hi => ⟨hi, fun x H' y => ?_⟩, fun hi => by rw [hi]; exact Nat.le_refl n⟩
  obtain ⟨rfl, rfl⟩ := y
  refine ⟨F', .int (lo + i), ?_, .int _, Ext.refl _, ok⟩
  unfold rngD
  rw [List.getElem?_map, List.getElem?_range hi]
  rfl
def giR1 (gs : GA) : GTi := fun Γ L P => gs Γ L fun ds L1 => match ds with | [d] => dInt d fun n => (-(2 ^ 62) ≤ n ∧ n < 2 ^ 62) ∧ P (rngD 0 n.toNat) (fun _ => True) L1 | _ => False
def giR2 (gs : GA) : GTi := fun Γ L P => gs Γ L fun ds L1 => match ds with | [d, e] => dInt d fun m => dInt e fun n => (-(2 ^ 62) ≤ m ∧ m < 2 ^ 62 ∧ -(2 ^ 62) ≤ n ∧ n < 2 ^ 62) ∧ P (rngD m (n - m).toNat) (fun _ => True) L1 | _ => False
theorem dInt.out {d : D} {k : Int → Prop} (h : dInt d k) : ∃ i, d = .int i ∧ k i := by
  cases d <;> first | exact h.elim | exact ⟨_, rfl, h⟩
theorem i_rng1 (hg : ∀ q, Gl (X q) "range") (hm : ∀ q, (X q).mg "range" = none) (h : GEa X [a] gs) (hs : ∀ q, starEach [a] (X q).env = [(false, eval a (X q).env)] := by intro _; rfl) : GI X tg (.Call (.Name "range" p) [a] [] pos) (giR1 gs) :=
  let ⟨_, pp, s⟩ := h
  ⟨_, fun q => pi_range1 (hg q) (hm q) (pp q) (hs q), fun σ F H Γ L P R hsl ok hgi k => s σ F H Γ L _ _ hsl ok hgi fun vs ds F1 H1 L1 hp hr e1 o1 => by
    match ds, hp, hr with
    | [d], hp, .cons r1 .nil =>
      obtain ⟨n, rfl, h1, h2⟩ := dInt.out hp
      rw [r1.int_inv]
      exact ⟨n, rfl, h1.1, h1.2, k _ F1 H1 L1 _ _ h2 wlk_r e1 o1⟩⟩
theorem i_rng2 (hg : ∀ q, Gl (X q) "range") (hm : ∀ q, (X q).mg "range" = none) (h : GEa X [a, b] gs) (hs : ∀ q, starEach [a, b] (X q).env = [(false, eval a (X q).env), (false, eval b (X q).env)] := by intro _; rfl) (hs2 : ∀ q, starEach [b] (X q).env = [(false, eval b (X q).env)] := by intro _; rfl) :
    GI X tg (.Call (.Name "range" p) [a, b] [] pos) (giR2 gs) :=
  let ⟨_, pp, s⟩ := h
  ⟨_, fun q => pi_range2 (hg q) (hm q) (pp q) (hs q) (hs2 q), fun σ F H Γ L P R hsl ok hgi k => s σ F H Γ L _ _ hsl ok hgi fun vs ds F1 H1 L1 hp hr e1 o1 => by
    match ds, hp, hr with
    | [d, e], hp, .cons r1 (.cons r2 .nil) =>
      obtain ⟨m, rfl, h0⟩ := dInt.out hp
      obtain ⟨n, rfl, h1, h2⟩ := dInt.out h0
      rw [r1.int_inv, r2.int_inv]
      exact ⟨m, n, rfl, h1, k _ F1 H1 L1 _ _ h2 wlk_r e1 o1⟩⟩
end

/-! ### loops -/
section
variable {ι : Type} {X : ι → Cx} {tg it c e elt : Expr} {body : List Stmt} {gi : GTi} {gg : GTg} {gb : GS} {gt : GB} {ge : GT} {pos : Pos}
def gFor (gi : GTi) (gg : GTg) (gb : GS) : GS := fun E Γ L => gi Γ L fun ds keep L1 => ∃ I : Nat → Gm → Led → Prop, I 0 Γ L1 ∧ (∀ i Γ' L', I i Γ' L' → keep L') ∧
  (∀ i d Γ' L', ds[i]? = some d → I i Γ' L' → gg d Γ' L' fun Γ2 L2 => gb { E with nx := I (i + 1), ct := I (i + 1), bk := E.nx } Γ2 L2) ∧ ∀ Γ' L', I ds.length Γ' L' → E.nx Γ' L'
theorem sim_for {w : TI} {t : TG} {tb : TS} (hi : SimI w gi) (hg : SimG t gg) (hb : SimS tb gb) : SimS (tFor w t tb) (gFor gi gg gb) := fun σ F H Γ L E D hs ok h k =>
  hi σ F H Γ L _ _ hs ok h fun J F1 H1 L1 ds keep hp W e1 o1 => by
    obtain ⟨I, i0, ik, turn, done⟩ := hp
    refine ⟨fun i m σ' H' => m = ds.length - i ∧ i ≤ ds.length ∧ ∃ F' Γ' L', Ext F1 F' ∧ Sl F' σ' Γ' ∧ Ok F' H' L' ∧ I i Γ' L', ⟨ds.length, rfl, Nat.zero_le _, F1, Γ, L1, Ext.refl _, hs.mono e1, o1, i0⟩, ?_⟩
    rintro i m σ' H' ⟨rfl, hle, F', Γ', L', e', s', o', hI⟩
    obtain ⟨w1, w2⟩ := W i F' H' L' e' o' (ik i Γ' L' hI)
    by_cases hlt : i < ds.length
    · obtain ⟨go, yl⟩ := w1 hlt
      refine .inr ⟨go, fun σ2 H2 => i + 1 ≤ ds.length ∧ ∃ F2 Γ2 L2, Ext F1 F2 ∧ Sl F2 σ2 Γ2 ∧ Ok F2 H2 L2 ∧ I (i + 1) Γ2 L2, fun σ2 H2 hn => ⟨ds.length - (i + 1), by omega, rfl, hn⟩, fun x H2 y => ?_⟩
      obtain ⟨F2, d, hd, rx, e2, o2⟩ := yl x H2 y
      refine hg x d σ' F2 H2 Γ' L' _ _ rx (s'.mono e2) o2 (turn i d Γ' L' hd hI) fun σ3 F3 H3 Γ3 L3 hp3 s3 e3 o3 => ?_
      have ee : Ext F F3 := e1.trans (e'.trans (e2.trans e3))
      refine hb σ3 F3 H3 Γ3 L3 _ _ s3 o3 hp3 ⟨fun σ4 F4 H4 Γ4 L4 hp4 s4 e4 o4 => ⟨hlt, F4, Γ4, L4, e'.trans (e2.trans (e3.trans e4)), s4, o4, hp4⟩, k.rt.mono ee, k.nx.mono ee, fun σ4 F4 H4 Γ4 L4 hp4 s4 e4 o4 => ⟨hlt, F4, Γ4, L4, e'.trans (e2.trans (e3.trans e4)), s4, o4, hp4⟩⟩
    · have e : i = ds.length := by omega
      subst e
      exact .inl ⟨w2 rfl, k.nx σ' F' H' Γ' L' (done Γ' L' hI) s' (e1.trans e') o'⟩
theorem s_for (hp : ∀ q, PassesOwn (model (X q).prog (X q).w) (X q).A (X q).env (X q).xe) (hc : ∀ q, (X q).calm = true) (hi : GI X tg it gi) (hg : GG X tg gg) (hb : GSs X body gb)
    (hs : ∀ q x, foldedSetIterable it (X q).env x = pure x := by intro _ _; rfl) : GSt X (.For tg it body [] pos) (gFor gi gg gb) :=
  let ⟨_, p1, s1⟩ := hi; let ⟨_, p2, s2⟩ := hg; let ⟨_, p3, s3⟩ := hb
  ⟨_, fun q => ps_for (hp q) (hc q) (p1 q) (p2 q) (p3 q) (hs q), sim_for s1 s2 s3⟩
def gWh (gt : GB) (gb : GS) : GS := fun E Γ L => ∃ W : Nat → Gm → Led → Prop, (∃ m, W m Γ L) ∧ ∀ m Γ' L', W m Γ' L' → gt Γ' L' fun b L1 =>
  (b = true → gb { E with nx := fun Γ2 L2 => ∃ m', m' < m ∧ W m' Γ2 L2, ct := fun Γ2 L2 => ∃ m', m' < m ∧ W m' Γ2 L2, bk := E.nx } Γ' L1) ∧ (b = false → E.nx Γ' L1)
theorem s_while {c : Expr} (hp : ∀ q, PassesOwn (model (X q).prog (X q).w) (X q).A (X q).env (X q).xe) (hc : GEb X c gt) (hb : GSs X body gb) : GSt X (.While c body [] pos) (gWh gt gb) :=
  let ⟨_, p1, s1⟩ := hc; let ⟨_, p2, s2⟩ := hb
  ⟨_, fun q => ps_while (hp q) (p1 q) (p2 q), fun σ F H Γ L E D hs ok hg k => by
    obtain ⟨W, ⟨m0, w0⟩, turn⟩ := hg
    refine ⟨fun m σ' H' => ∃ F' Γ' L', Ext F F' ∧ Sl F' σ' Γ' ∧ Ok F' H' L' ∧ W m Γ' L', ⟨m0, F, Γ, L, Ext.refl _, hs, ok, w0⟩, ?_⟩
    rintro m σ' H' ⟨F', Γ', L', e', s', o', hW⟩
    refine s1 σ' F' H' Γ' L' _ _ s' o' (turn m Γ' L' hW) fun b F1 H1 L1 hp1 e1 o1 => ?_
    have ee : Ext F F1 := e'.trans e1
    cases b with
    | true =>
      rw [if_pos rfl]
      refine ⟨fun σ2 H2 => ∃ m', m' < m ∧ ∃ F2 Γ2 L2, Ext F F2 ∧ Sl F2 σ2 Γ2 ∧ Ok F2 H2 L2 ∧ W m' Γ2 L2, fun σ2 H2 h => h, ?_⟩
      refine s2 σ' F1 H1 Γ' L1 _ _ (s'.mono e1) o1 (hp1.1 rfl) ⟨fun σ4 F4 H4 Γ4 L4 hp4 s4 e4 o4 => ?_, k.rt.mono ee, k.nx.mono ee, fun σ4 F4 H4 Γ4 L4 hp4 s4 e4 o4 => ?_⟩
      · obtain ⟨m', l, w⟩ := hp4
        exact ⟨m', l, F4, Γ4, L4, ee.trans e4, s4, o4, w⟩
      · obtain ⟨m', l, w⟩ := hp4
        exact ⟨m', l, F4, Γ4, L4, ee.trans e4, s4, o4, w⟩
    | false =>
      rw [if_neg Bool.false_ne_true]
      exact k.nx σ' F1 H1 Γ' L1 (hp1.2 rfl) (s'.mono e1) ee o1⟩

/-! ### comprehensions -/
def wipeG (Γ : Gm) : List Nat → Gm
  | [] => Γ
  | v :: vs => stn (wipeG Γ vs) v
where
  stn : Gm → Nat → Gm
  | [], _ => []
  | _ :: r, 0 => none :: r
  | x :: r, i + 1 => x :: stn r i
theorem Sl.unset {F : Hp} : ∀ {σ : L2.St} {Γ : Gm} (i : Nat), Sl F σ Γ → Sl F (σ.set i none) (wipeG.stn Γ i)
  | _, _, _, .nil => .nil
  | _, _, 0, .cons _ r => .cons (fun _ e => nomatch e) r
  | _, _, i + 1, .cons q r => .cons q (r.unset i)
theorem Sl.wipe {F : Hp} {σ : L2.St} {Γ : Gm} (h : Sl F σ Γ) : ∀ vs : List Nat, Sl F (wipe σ vs) (wipeG Γ vs)
  | [] => h
  | v :: vs => (h.wipe vs).unset v
theorem wipe_wipe {σ : L2.St} : ∀ vs : List Nat, L2.wipe (L2.wipe σ vs) vs = L2.wipe σ vs := fun vs => by
  apply List.ext_getElem?
  intro i
  by_cases h : i ∈ vs
  · have a : ∀ τ : L2.St, i < τ.length → (L2.wipe τ vs)[i]? = some none := by
      intro τ hl
      induction vs with
      | nil => cases h
      | cons v vs ih =>
        show ((L2.wipe τ vs).set v none)[i]? = some none
        by_cases e : v = i
        · subst e
          rw [List.getElem?_set_self (by rw [wipe_length]; exact hl)]
        · rw [List.getElem?_set_ne e]
          rcases List.mem_cons.mp h with q | q
          · exact absurd q.symm e
          · exact ih q
    by_cases hl : i < σ.length
    · rw [a σ hl, a _ (by rw [wipe_length]; exact hl)]
    · rw [List.getElem?_eq_none (by rw [wipe_length, wipe_length]; omega), List.getElem?_eq_none (by rw [wipe_length]; omega)]
  · rw [wipe_out h]
structure BI where
  s : Shared
  H : Hp
  C : Addr
  cl : List (Str × Addr)
  fp : List Addr
/-- the contexts of a comprehension's block -/
abbrev blkX (X : ι → Cx) (scope : Scope) : ι × BI → Cx := fun q => (X q.1).blk q.2.s q.2.H scope (compEnvC scope q.2.cl q.2.C (X q.1).env) q.2.fp
def GTs1 (X : ι → Cx) (ifs : List Expr) (g : GB) : Prop := ∃ t, (∀ q, PTs (X q) ifs t) ∧ SimB t g
def gYes : GB := fun _ L post => post true L
theorem if_nil : GTs1 X [] gYes := ⟨_, fun _ => pts_nil, fun σ F H Γ L post Q hs ok hg k => k true F H L hg (Ext.refl F) ok⟩
theorem if_one (h : GEb X c gt) : GTs1 X [c] gt := let ⟨_, p, s⟩ := h; ⟨_, fun q => pts_one (p q), s⟩
/-- [elt for tg in it if ..]: the new list at Z stands in the ledger -/
def gLc (gi : GTi) (gg : GTg) (gt : GB) (ge : GT) (vs : List Nat) : GT := fun Γ L post => gi Γ L fun ds keep L1 => ∀ Z, L1 Z = none → ∃ I : Nat → List D → Led → Prop,
  I 0 [] (put L1 Z (.lst [])) ∧ (∀ i acc L', I i acc L' → keep L' ∧ L' Z = some (.lst acc)) ∧
  (∀ i d acc L', ds[i]? = some d → I i acc L' → gg d (wipeG Γ vs) L' fun Γ2 L2 => gt Γ2 L2 fun b L3 =>
    (b = true → ge Γ2 L3 fun y L4 => L4 Z = some (.lst acc) ∧ acc.length < sizeLine ∧ I (i + 1) (acc ++ [y]) (put L4 Z (.lst (acc ++ [y])))) ∧ (b = false → I (i + 1) acc L3)) ∧
  ∀ acc L', I ds.length acc L' → post (.ptr Z) L'
theorem sim_lc {w : TI} {t : TG} {tt : TT} {te : TE} {vs : List Nat} (hi : SimI w gi) (hg : SimG t gg) (hw : TgW t vs) (ht : SimB tt gt) (he : SimE te ge) : SimE (tLc w t tt te vs) (gLc gi gg gt ge vs) := fun σ F H Γ L post Q hs ok h k =>
  hi σ F H Γ L _ _ hs ok h fun J F1 H1 L1 ds keep hp W e1 o1 Z hZ => by
    obtain ⟨I, i0, ik, turn, done⟩ := hp Z (o1.fresh hZ)
    refine ⟨fun i m H' => m = ds.length - i ∧ i ≤ ds.length ∧ ∃ F' acc L', Ext F1 F' ∧ Ok F' H' L' ∧ I i acc L', ⟨ds.length, rfl, Nat.zero_le _, F1, [], _, Ext.refl _, o1.newO hZ (u := .lst []) (o := .lst []) .nil, i0⟩, ?_⟩
    rintro i m H' ⟨rfl, hle, F', acc, L', e', o', hI⟩
    obtain ⟨hk, hZ'⟩ := ik i acc L' hI
    obtain ⟨w1, w2⟩ := W i F' H' L' e' o' hk
    by_cases hlt : i < ds.length
    · obtain ⟨go, yl⟩ := w1 hlt
      refine .inr ⟨go, fun H2 => i + 1 ≤ ds.length ∧ ∃ F2 acc L2, Ext F1 F2 ∧ Ok F2 H2 L2 ∧ I (i + 1) acc L2, fun H2 hn => ⟨ds.length - (i + 1), by omega, rfl, hn⟩, fun x H2 y => ?_⟩
      obtain ⟨F2, d, hd, rx, e2, o2⟩ := yl x H2 y
      have s2 : Sl F2 (wipe σ vs) (wipeG Γ vs) := (hs.mono (e1.trans (e'.trans e2))).wipe vs
      refine hw x _ _ _ _ (wipe_wipe vs) ?_
      refine hg x d (wipe σ vs) F2 H2 (wipeG Γ vs) L' _ _ rx s2 o2 (turn i d acc L' hd hI) fun σ3 F3 H3 Γ3 L3 hp3 s3 e3 o3 => ?_
      refine ht σ3 F3 H3 Γ3 L3 _ _ s3 o3 hp3 fun b F4 H4 L4 hp4 e4 o4 => ?_
      cases b with
      | true =>
        rw [if_pos rfl]
        refine he σ3 F4 H4 Γ3 L4 _ _ (s3.mono e4) o4 (hp4.1 rfl) fun v dv F5 H5 L5 hp5 r5 e5 o5 => ?_
        obtain ⟨q1, q2, q3⟩ := hp5
        obtain ⟨z0, u, z1, z2⟩ := o5.led Z _ q1
        obtain ⟨xs, rfl, z3⟩ := z2.lst_inv
        exact ⟨xs, z1, by rw [z3.length]; exact q2, hlt, F5, _, _, e'.trans (e2.trans (e3.trans (e4.trans e5))), o5.write q1 (u := .lst (xs ++ [v])) (o' := .lst (acc ++ [dv])) (z3.append (.cons r5 .nil)), q3⟩
      | false =>
        rw [if_neg Bool.false_ne_true]
        exact ⟨hlt, F4, acc, L4, e'.trans (e2.trans (e3.trans e4)), o4, hp4.2 rfl⟩
    · have e : i = ds.length := by omega
      subst e
      exact .inl ⟨w2 rfl, k _ (.ptr Z) F' H' L' (done acc L' hI) (.ptr Z) (e1.trans e') o'⟩
theorem g_lc {scope : Scope} {own : List (Str × Nat)} {ifs : List Expr} (hc : ∀ q, (X q).calm = true) (hN : ∀ q, (X q).N.Nodup) (hi : GI X tg it gi) (ok : ∀ q, BlkOk (X q).N (X q).env.scope scope own)
    (hg : GGx (blkX X scope) (own.map (·.2)) tg gg) (ht : GTs1 (blkX X scope) ifs gt) (he : GE (blkX X scope) elt ge) (hs : ∀ q x, foldedSetIterable it (X q).env x = pure x := by intro _ _; rfl) :
    GE X (.ListComp elt [⟨tg, it, ifs, 0⟩] scope pos) (gLc gi gg gt ge (own.map (·.2))) :=
  let ⟨_, p1, s1⟩ := hi; let ⟨_, p2, s2, w2, m2⟩ := hg; let ⟨_, p3, s3⟩ := ht; let ⟨_, p4, s4⟩ := he
  ⟨_, fun q => pe_lc (hc q) (hN q) (p1 q) (ok q) (fun s H C cl fp => p2 (q, ⟨s, H, C, cl, fp⟩)) (fun s H C cl fp => p3 (q, ⟨s, H, C, cl, fp⟩)) (fun s H C cl fp => p4 (q, ⟨s, H, C, cl, fp⟩)) (hs q), sim_lc s1 s2 w2 s3 s4⟩
/-- name = [..] on one line -/
theorem s_setLc {i : Nat} {y : Str} {py spos : Pos} {scope : Scope} {own : List (Str × Nat)} {ifs : List Expr} (hc : ∀ q, (X q).calm = true) (hN : ∀ q, (X q).N.Nodup) (hy : ∀ q, (X q).N[i]? = some y) (hyl : ∀ q, (X q).env.scope.names.lookup y = some .local)
    (hsw : ∀ q, swapsWith (.ListComp elt [⟨tg, it, ifs, 0⟩] scope pos) (some (.Name y py)) spos.line (X q).env = pure true) (hi : GI X tg it gi) (ok : ∀ q, BlkOk (X q).N (X q).env.scope scope own)
    (hg : GGx (blkX X scope) (own.map (·.2)) tg gg) (ht : GTs1 (blkX X scope) ifs gt) (he : GE (blkX X scope) elt ge) (hs : ∀ q x, foldedSetIterable it (X q).env x = pure x := by intro _ _; rfl) :
    GSt X (.Assign [.Name y py] (.ListComp elt [⟨tg, it, ifs, 0⟩] scope pos) spos) (gAsg (gLc gi gg gt ge (own.map (·.2))) (gNm i)) :=
  let ⟨_, p1, s1⟩ := hi; let ⟨_, p2, s2, w2, m2⟩ := hg; let ⟨_, p3, s3⟩ := ht; let ⟨_, p4, s4⟩ := he
  ⟨_, fun q => ps_setLc (hc q) (hN q) (hy q) (hyl q) (hsw q) (p1 q) (ok q) (fun s H C cl fp => p2 (q, ⟨s, H, C, cl, fp⟩)) (fun s H C cl fp => p3 (q, ⟨s, H, C, cl, fp⟩)) (fun s H C cl fp => p4 (q, ⟨s, H, C, cl, fp⟩)) (hs q), sim_asg (sim_lc s1 s2 w2 s3 s4) sim_nm⟩
end
end Gh

/-! ghost layer, part 6: defs and their calls -/
namespace Gh
open PySem PySem.Spec L2
variable [KK]

abbrev FSp := List D → Led → Ps → Prop
/-- what a def is asked for, by its ghost promise -/
def Prom (fs : FSp) (vs : List V) (H : Hp) (Q : VK) : Prop := ∃ F ds L post, Rps F vs ds ∧ Ok F H L ∧ fs ds L post ∧ Kn F post Q
/-- the def at f keeps the promise, wherever no repr runs -/
structure FnG (P : Program) (w : World) (K : PySem.W.Frag) (mg : Str → Option Value) (base : Heap) (k : Nat) (f : Addr) (fd : FuncData) (ps : List Str) (fs : FSp) : Prop where
  len : ∀ ds L post, fs ds L post → ds.length = ps.length
  run : ∀ (A : Around) (outer : List Env) (s : Shared) (H : Hp) (args : Args) (us : List Value) (vs : List V) (Q : VK), A.guards = some [] → Room k A → Env0 P w K mg base A outer s H →
    BindsTo s fd args (ps.zip us) → Vals vs us → Prom fs vs H Q → codeAny (model P w) A (.call (.ref f) args) (CR CX0 outer P w H s Q E0) s
theorem FnG.mono {P : Program} {w : World} {K : PySem.W.Frag} {mg : Str → Option Value} {base : Heap} {j k : Nat} {f : Addr} {fd : FuncData} {ps : List Str} {fs : FSp} (h : FnG P w K mg base j f fd ps fs) (hk : j ≤ k) : FnG P w K mg base k f fd ps fs :=
  ⟨h.len, fun A outer s H args us vs Q hg hr => h.run A outer s H args us vs Q hg (hr.mono hk)⟩
theorem FnG.imp {P : Program} {w : World} {K : PySem.W.Frag} {mg : Str → Option Value} {base : Heap} {k : Nat} {f : Addr} {fd : FuncData} {ps : List Str} {fs fs' : FSp} (h : FnG P w K mg base k f fd ps fs) (hi : ∀ ds L post, fs' ds L post → fs ds L post) : FnG P w K mg base k f fd ps fs' :=
  ⟨fun ds L post q => h.len ds L post (hi _ _ _ q), fun A outer s H args us vs Q hg hr e b v ⟨F, ds, L, post, h1, h2, h3, h4⟩ => h.run A outer s H args us vs Q hg hr e b v ⟨F, ds, L, post, h1, h2, hi _ _ _ h3, h4⟩⟩
/-- less in the ledger -/
def Sub (L L2 : Led) : Prop := ∀ a o, L a = some o → L2 a = some o
theorem Sub.refl (L : Led) : Sub L L := fun _ _ h => h
theorem Sub.trans {L L1 L2 : Led} (a : Sub L L1) (b : Sub L1 L2) : Sub L L2 := fun x o h => b x o (a x o h)
theorem Sub.put_new {L : Led} {p : Addr} {o : O} (h : L p = none) : Sub L (put L p o) := fun a u e => by
  by_cases q : a = p
  · subst q; rw [h] at e; cases e
  · rw [put_ne q]; exact e
theorem Sub.put {L L2 : Led} (h : Sub L L2) (p : Addr) (o : O) : Sub (put L p o) (put L2 p o) := fun a u e => by
  by_cases q : a = p
  · subst q; rw [put_same] at e ⊢; exact e
  · rw [put_ne q] at e ⊢; exact h a u e
theorem Sub.rm {L L2 : Led} (h : Sub L L2) {p : Addr} (hn : L p = none) : Sub L (rm L2 p) := fun a u e => by
  have q : a ≠ p := fun z => by subst z; rw [hn] at e; cases e
  unfold Gh.rm
  rw [if_neg q]
  exact h a u e
theorem Sub.put_r {L L2 : Led} (h : Sub L L2) {p : Addr} {o : O} (hn : L p = none) : Sub L (Gh.put L2 p o) := fun a u e => by
  have q : a ≠ p := fun z => by subst z; rw [hn] at e; cases e
  rw [put_ne q]
  exact h a u e
theorem Ok.sub {F H : Hp} {L L2 : Led} (k : Ok F H L2) (h : Sub L L2) : Ok F H L := ⟨k.ex, fun a o e => k.led a o (h a o e)⟩
def endG (post : Ps) : GEnds := ⟨fun _ L2 => ∃ L', Sub L' L2 ∧ post .non L', fun d L2 => ∃ L', Sub L' L2 ∧ post d L', fun _ _ => False, fun _ _ => False⟩
def startG (N : List Str) (ds : List D) : Gm := ds.map some ++ List.replicate (N.length - ds.length) none
theorem sl_none {F : Hp} : ∀ n : Nat, Sl F (List.replicate n none) (List.replicate n none)
  | 0 => .nil
  | n + 1 => .cons (fun _ e => nomatch e) (sl_none n)
theorem sl_map {F : Hp} {n : Nat} : ∀ {vs : List V} {ds : List D}, Rps F vs ds → Sl F (vs.map some ++ List.replicate n none) (ds.map some ++ List.replicate n none)
  | _, _, .nil => sl_none n
  | _, _, .cons a b => .cons (fun d e => by cases e; exact ⟨_, rfl, a⟩) (sl_map b)
theorem sl_start {F : Hp} {N : List Str} {vs : List V} {ds : List D} (h : Rps F vs ds) : Sl F (L2.start N vs) (startG N ds) := by
  unfold L2.start startG
  rw [h.length]
  exact sl_map h

section
variable {P : Program} {w : World} {K : PySem.W.Frag} {mg : Str → Option Value} {base : Heap} {k : Nat} {f : Addr} {fd : FuncData} {ps N : List Str} {fs : FSp} {x qual : Str} {params : Arguments} {body : List Stmt} {scope : Scope} {dvs : List V} {kws : List (Str × V)}
/-- the context of a def's body -/
abbrev cxG (P : Program) (w : World) (K : PySem.W.Frag) (mg : Str → Option Value) (base : Heap) (N : List Str) (qual : Str) (scope : Scope) (f : Addr) (cdv : Value) (A : Around) (outer : List Env) (s : Shared) (H : Hp) : Unit → Cx :=
  fun _ => (cxOf CX0 P w K mg base N qual scope f cdv A outer s H E0).nox
/-- THE RULE: a def by its body's reading -/
theorem fn_G {g : GS} (D0 : FunD K x qual params body scope dvs kws f fd) (S : FnScope N ps scope) (len : ∀ ds L post, fs ds L post → ds.length = ps.length)
    (hb : ∀ (cdv : Value) (A : Around) (outer : List Env) (s : Shared) (H : Hp), A.guards = some [] → Room k (A.deeper (PyProof.Rows.envOfC qual scope s.heap.objs.size f cdv)) → GSs (cxG P w K mg base N qual scope f cdv A outer s H) body g)
    (hs : ∀ ds L post, fs ds L post → g (endG post) (startG N ds) L) : FnG P w K mg base (k + 1) f fd ps fs := by
  obtain ⟨oc, od, dV, kV, doc, pm, an, cdv, ct, osl, rfl, look, hcd, _, _⟩ := D0.ex
  refine ⟨len, ?_⟩
  intro A outer s H args us vs Q hgd room e0 binds rv hp
  obtain ⟨F, ds, L, post, rs, ok, hfs, kn⟩ := hp
  have hl : vs.length = ps.length := by rw [rs.length]; exact len _ _ _ hfs
  have kin : K.In s.heap := e0.mod.kin.keeps fun b o e => (e0.bs b o e).1
  have lim : s.heap.NoLimit := e0.mod.nolimit.keeps fun b o e => (e0.bs b o e).1
  have kinds : ∀ y ∈ ps.zip us, scope.names.lookup y.1 = some .local ∨ (scope.names.lookup y.1 = some .cell ∧ ((cellsFrom (s.heap.objs.size + 1) scope.names []).lookup y.1).isSome = true) := by
    rintro ⟨n, v⟩ hy
    rcases S.par n (List.of_mem_zip hy).1 with q | q
    · exact .inl q
    · exact .inr ⟨q, PySem.W.cellsFrom_some _ _ _ (.inl q)⟩
  refine codeAny_call_function room.depth (kin _ _ look) rfl S.co S.gen rfl (PySem.W.codeRec_of kin hcd) (binds _ _ _ _ ?_)
  refine wpAny_newFunctionEnv_cells S.kind kinds ?_
  rintro env rfl s1 x1
  refine ⟨lim.keeps x1.toInCall.keep, codeAny_func ?_⟩
  obtain ⟨t, ht, sim⟩ := hb cdv A outer s H hgd (room.deeper _)
  have inv := inv_start (CX := CX0) (E := E0) S room.hd e0 hl rv x1
  have big : t { nx := fun _ H' => Q .non H', rt := Q } (L2.start N vs) H := sim (L2.start N vs) F H (startG N ds) L (endG post) _ (sl_start rs) ok (hs ds L post hfs)
    ⟨fun σ' F' H' Γ' L' hp _ e' o' => by
      obtain ⟨L1, h1, h2⟩ := hp
      exact kn .non .non F' H' L1 h2 .non e' (o'.sub h1), fun v d F' H' L' hp r' e' o' => by
      obtain ⟨L1, h1, h2⟩ := hp
      exact kn v d F' H' L1 h2 r' e' (o'.sub h1), fun _ _ _ _ _ z _ _ _ => z.elim, fun _ _ _ _ _ z _ _ _ => z.elim⟩
  refine wpAny_mono (((ht ()).nox).run [] s1 (L2.start N vs) H _ inv big) ?_ (fun _ _ z => z)
  intro fl s' hq
  have fin : ∀ {σ' : L2.St} {H' : Hp} {v : V} {u : Value}, Inv (cxOf CX0 P w K mg base N qual scope f cdv A outer s H E0) [] σ' H' s' → RelV v u → Q v H' → CE outer P w H s Q u s' :=
    fun {σ' H' v u} J r q => ⟨v, H', J.os, J.bare, J.base, J.hok, r, q⟩
  cases fl with
  | ret u =>
    obtain ⟨v, σ', H', J, r, q⟩ := hq
    exact fin J r q
  | next =>
    obtain ⟨σ', H', J, q⟩ := hq
    exact fin (v := V.non) (u := Value.none) J rfl q
  | brk =>
    obtain ⟨_, _, _, q⟩ := hq
    exact q.elim
  | cont =>
    obtain ⟨_, _, _, q⟩ := hq
    exact q.elim
end

/-! ### calls -/
def pickN {α : Type} (ix : List Nat) (xs : List α) : List α := ix.filterMap (xs[·]?)
theorem rps_pickN {F : Hp} {xs : List V} {ds : List D} (h : Rps F xs ds) (ix : List Nat) : Rps F (pickN ix xs) (pickN ix ds) := Rps.pick h ix
theorem vals_pickN {xs : List V} {us : List Value} (h : Vals xs us) (ix : List Nat) : Vals (pickN ix xs) (pickN ix us) := Vals.pick h ix
/-- how n values and keywords ks are bound -/
structure KBi (fd : FuncData) (ps : List Str) (n : Nat) (ks : List Str) (ix : List Nat) : Prop where
  to : ∀ (s : Shared) (us ws : List Value), us.length = n → ws.length = ks.length → BindsTo s fd ⟨us, ks.zip ws⟩ (ps.zip (pickN ix (us ++ ws)))
section
variable {K : PySem.W.Frag} {x qual : Str} {params : Arguments} {body : List Stmt} {scope : Scope} {kws : List (Str × V)} {f : Addr} {fd : FuncData} {ps : List Str}
theorem kbi {n : Nat} {ks : List Str} {ix : List Nat} (F : FunD K x qual params body scope [] kws f fd)
    (h : ∀ (kV doc pm : Value) (an : Option Addr) (cdv ct : Value) (us ws : List Value), us.length = n → ws.length = ks.length → bindArgs (PySem.W.fnOf x qual params body scope .none kV doc pm an cdv ct) ⟨us, ks.zip ws⟩ = pure (ps.zip (pickN ix (us ++ ws)))) : KBi fd ps n ks ix := by
  obtain ⟨oc, od, dV, kV, doc, pm, an, cdv, ct, osl, rfl, lk, hcd, hD, hK⟩ := F.ex
  rcases hD with ⟨_, rfl⟩ | ⟨e, _⟩
  · exact ⟨fun s us ws l1 l2 => .of_eq (h kV doc pm an cdv ct us ws l1 l2)⟩
  · exact absurd rfl e
end
section
variable {ι : Type} {X : ι → Cx} {k n : Nat} {f : Addr} {fd : FuncData} {ps ks : List Str} {fs : FSp} {x : Str} {p pos : Pos} {e : Expr} {es : List Expr} {kws : List Keyword} {ga gk : GA} {ix : List Nat}
def gCall (fs : FSp) (ga : GA) : GT := fun Γ L post => ga Γ L fun ds L1 => fs ds L1 post
def tCl (fs : FSp) (t : TA) : TE := fun σ H Q => t σ H fun vs H1 => Prom fs vs H1 Q
def gCallK (n m : Nat) (ix : List Nat) (fs : FSp) (ga gk : GA) : GT := fun Γ L post => ga Γ L fun ds L1 => gk Γ L1 fun es L2 => ds.length = n ∧ es.length = m ∧ fs (pickN ix (ds ++ es)) L2 post
def tClK (n m : Nat) (ix : List Nat) (fs : FSp) (t u : TA) : TE := fun σ H Q => t σ H fun vs H1 => u σ H1 fun zs H2 => vs.length = n ∧ zs.length = m ∧ Prom fs (pickN ix (vs ++ zs)) H2 Q
theorem run_G {Y : Cx} {pins : List (Addr × Obj)} {σ : L2.St} {H : Hp} {s : Shared} {Q : VK} {us ws us' : List Value} {vs' : List V} (F : FnG Y.prog Y.w Y.K Y.mg Y.base k f fd ps fs) (hG : Y.A.guards = some []) (hr : Room k Y.A)
    (I : Inv Y pins σ H s) (hb : BindsTo s fd ⟨us, ks.zip ws⟩ (ps.zip us')) (r : Vals vs' us') (h : Prom fs vs' H Q) : wpAny (model Y.prog Y.w) Y.A (call (.ref f) us (ks.zip ws)) (EP Y pins σ Q) Y.xe s := by
  refine wpAny_call (codeAny_mono (F.run Y.A Y.stack s H _ us' vs' Q hG hr I.env0 hb r h) ?_)
  intro r s' hq
  cases r with
  | error e => exact False.elim hq
  | ok fl =>
    cases fl with
    | ret u => exact I.after hq
    | next => exact False.elim hq
    | brk => exact False.elim hq
    | cont => exact False.elim hq
theorem pe_G {Y : Cx} {t : TA} (F : FnG Y.prog Y.w Y.K Y.mg Y.base k f fd ps fs) (hG : Y.A.guards = some []) (hr : Room k Y.A) (hg : Gl Y x) (hm : Y.mg x = some (.ref f)) (hk : PySem.W.keepIn Y.K (.ref f) = true) (hb : Binds Y.K fd ps [])
    (ha : PA Y (e :: es) t) (hdb : (x == ("__debug__" : Str)) = false := by decide) (he : starEach (e :: es) Y.env = (false, eval e Y.env) :: starEach es Y.env := by rfl) (hpl : (backTo pos (starEach es Y.env)).any (·.1) = false := by rfl) :
    PE Y (.Call (.Name x p) (e :: es) [] pos) (tCl fs t) := by
  refine ⟨fun pins s σ H Q I h => wpAny_Call_Name_kw (ld_glob I hg hm ?_ hdb)⟩
  refine PySem.W.callWith_K (h₀ := Y.base) I.ok.mod.kin hk (thn (ha.run pos pins s σ H _ I h) ?_) he hpl
  rintro us s1 ⟨vs, H1, I1, r, q⟩
  refine ⟨I1.kIn, ?_⟩
  obtain ⟨F0, ds, L, post, rs, ok, hfs, kn⟩ := q
  have hl : us.length = ps.length := by rw [← r.length, rs.length]; exact F.len _ _ _ hfs
  have hb1 : BindsTo s1 fd ⟨us, []⟩ (ps.zip us) := by
    have z := hb s1 us I1.kIn (by rw [List.append_nil]; exact hl)
    rw [List.append_nil] at z
    exact z
  exact run_G (ks := []) (ws := []) F hG hr I1 hb1 r ⟨F0, ds, L, post, rs, ok, hfs, kn⟩
theorem pe_GK0 {Y : Cx} {tk : TA} (F : FnG Y.prog Y.w Y.K Y.mg Y.base k f fd ps fs) (hG : Y.A.guards = some []) (hr : Room k Y.A) (hg : Gl Y x) (hm : Y.mg x = some (.ref f)) (hk : PySem.W.keepIn Y.K (.ref f) = true) (hb : KBi fd ps 0 ks ix) (hkw : PK Y kws tk)
    (hall : (backToKw pos (keywordEach kws Y.env)).all (·.1.isSome) = true := by rfl) (hks : (backToKw pos (keywordEach kws Y.env)).filterMap (·.1) = ks := by rfl) (hdb : (x == ("__debug__" : Str)) = false := by decide)
    (hpl : ((backTo pos (starEach [] Y.env)).any (·.1) || (backToKw pos (keywordEach kws Y.env)).any (·.1.isNone)) = false := by rfl) :
    PE Y (.Call (.Name x p) [] kws pos) (tClK 0 ks.length ix fs tNil tk) := by
  refine ⟨fun pins s σ H Q I h => wpAny_Call_Name_kw (ld_glob I hg hm ?_ hdb)⟩
  refine PySem.W.callWith_KW0 (h₀ := Y.base) I.ok.mod.kin hk hall ?_ hpl
  refine thn (hkw.run pos pins s σ H _ I h) ?_
  rintro ws s2 ⟨zs, H2, I2, rz, l1, l2, q2⟩
  refine ⟨I2.kIn, ?_⟩
  rw [hks]
  exact run_G (us := []) F hG hr I2 (hb.to s2 [] ws rfl (rz.length.symm.trans l2)) (vals_pickN rz ix) q2
theorem pe_GK {Y : Cx} {t tk : TA} (F : FnG Y.prog Y.w Y.K Y.mg Y.base k f fd ps fs) (hG : Y.A.guards = some []) (hr : Room k Y.A) (hg : Gl Y x) (hm : Y.mg x = some (.ref f)) (hk : PySem.W.keepIn Y.K (.ref f) = true) (hb : KBi fd ps n ks ix) (ha : PA Y (e :: es) t) (hkw : PK Y kws tk)
    (hall : (backToKw pos (keywordEach kws Y.env)).all (·.1.isSome) = true := by rfl) (hks : (backToKw pos (keywordEach kws Y.env)).filterMap (·.1) = ks := by rfl) (hdb : (x == ("__debug__" : Str)) = false := by decide)
    (he : starEach (e :: es) Y.env = (false, eval e Y.env) :: starEach es Y.env := by rfl) (hpl : ((backTo pos (starEach (e :: es) Y.env)).any (·.1) || (backToKw pos (keywordEach kws Y.env)).any (·.1.isNone)) = false := by rfl) :
    PE Y (.Call (.Name x p) (e :: es) kws pos) (tClK n ks.length ix fs t tk) := by
  refine ⟨fun pins s σ H Q I h => wpAny_Call_Name_kw (ld_glob I hg hm ?_ hdb)⟩
  refine PySem.W.callWith_KW (h₀ := Y.base) I.ok.mod.kin hk hall (thn (ha.run pos pins s σ H _ I h) ?_) hpl he
  rintro us s1 ⟨vs, H1, I1, r, q⟩
  refine thn (hkw.run pos pins s1 σ H1 _ I1 q) ?_
  rintro ws s2 ⟨zs, H2, I2, rz, l1, l2, q2⟩
  refine ⟨I2.kIn, ?_⟩
  rw [hks]
  exact run_G F hG hr I2 (hb.to s2 us ws (r.length.symm.trans l1) (rz.length.symm.trans l2)) (vals_pickN (r.append rz) ix) q2
theorem sim_cl {t : TA} (h : SimA t ga) : SimE (tCl fs t) (gCall fs ga) := fun σ F H Γ L post Q hs ok hg k =>
  h σ F H Γ L _ _ hs ok hg fun vs ds F1 H1 L1 hp hr e1 o1 => ⟨F1, ds, L1, post, hr, o1, hp, k.mono e1⟩
theorem sim_clK {t u : TA} {m : Nat} (h : SimA t ga) (h2 : SimA u gk) : SimE (tClK n m ix fs t u) (gCallK n m ix fs ga gk) := fun σ F H Γ L post Q hs ok hg k =>
  h σ F H Γ L _ _ hs ok hg fun vs ds F1 H1 L1 hp hr e1 o1 => h2 σ F1 H1 Γ L1 _ _ (hs.mono e1) o1 hp fun zs es F2 H2 L2 hp2 hr2 e2 o2 =>
    ⟨by rw [hr.length]; exact hp2.1, by rw [hr2.length]; exact hp2.2.1, F2, _, L2, post, rps_pickN ((hr.mono e2).append hr2) ix, o2, hp2.2.2, k.mono (e1.trans e2)⟩
def GEk (X : ι → Cx) (kws : List Keyword) (g : GA) : Prop := ∃ t, (∀ i, PK (X i) kws t) ∧ SimA t g
theorem k_nil : GEk X [] gaNil := ⟨_, fun _ => pk_nil, sim_nil⟩
theorem k_cons {nm : Option Str} {kpos : Pos} {ge : GT} (h : GE X e ge) (h2 : GEk X kws gk) : GEk X (⟨nm, e, kpos⟩ :: kws) (gaCons ge gk) := let ⟨_, p, s⟩ := h; let ⟨_, p2, s2⟩ := h2; ⟨_, fun q => pk_cons (p q) (p2 q), sim_cons s s2⟩
theorem g_call (F : ∀ q, FnG (X q).prog (X q).w (X q).K (X q).mg (X q).base k f fd ps fs) (hG : ∀ q, (X q).A.guards = some []) (hr : ∀ q, Room k (X q).A) (hg : ∀ q, Gl (X q) x) (hm : ∀ q, (X q).mg x = some (.ref f)) (hk : ∀ q, PySem.W.keepIn (X q).K (.ref f) = true)
    (hb : ∀ q, Binds (X q).K fd ps []) (ha : GEa X (e :: es) ga) (hdb : (x == ("__debug__" : Str)) = false := by decide) (he : ∀ q, starEach (e :: es) (X q).env = (false, eval e (X q).env) :: starEach es (X q).env := by intro _; rfl)
    (hpl : ∀ q, (backTo pos (starEach es (X q).env)).any (·.1) = false := by intro _; rfl) : GE X (.Call (.Name x p) (e :: es) [] pos) (gCall fs ga) :=
  let ⟨_, pa, sa⟩ := ha; ⟨_, fun q => pe_G (F q) (hG q) (hr q) (hg q) (hm q) (hk q) (hb q) (pa q) hdb (he q) (hpl q), sim_cl sa⟩
theorem g_callK0 (F : ∀ q, FnG (X q).prog (X q).w (X q).K (X q).mg (X q).base k f fd ps fs) (hG : ∀ q, (X q).A.guards = some []) (hr : ∀ q, Room k (X q).A) (hg : ∀ q, Gl (X q) x) (hm : ∀ q, (X q).mg x = some (.ref f)) (hk : ∀ q, PySem.W.keepIn (X q).K (.ref f) = true)
    (hb : KBi fd ps 0 ks ix) (hkw : GEk X kws gk) (hall : ∀ q, (backToKw pos (keywordEach kws (X q).env)).all (·.1.isSome) = true := by intro _; rfl) (hks : ∀ q, (backToKw pos (keywordEach kws (X q).env)).filterMap (·.1) = ks := by intro _; rfl) (hdb : (x == ("__debug__" : Str)) = false := by decide)
    (hpl : ∀ q, ((backTo pos (starEach [] (X q).env)).any (·.1) || (backToKw pos (keywordEach kws (X q).env)).any (·.1.isNone)) = false := by intro _; rfl) : GE X (.Call (.Name x p) [] kws pos) (gCallK 0 ks.length ix fs gaNil gk) :=
  let ⟨_, pk, sk⟩ := hkw; ⟨_, fun q => pe_GK0 (F q) (hG q) (hr q) (hg q) (hm q) (hk q) hb (pk q) (hall q) (hks q) hdb (hpl q), sim_clK sim_nil sk⟩
theorem g_callK (F : ∀ q, FnG (X q).prog (X q).w (X q).K (X q).mg (X q).base k f fd ps fs) (hG : ∀ q, (X q).A.guards = some []) (hr : ∀ q, Room k (X q).A) (hg : ∀ q, Gl (X q) x) (hm : ∀ q, (X q).mg x = some (.ref f)) (hk : ∀ q, PySem.W.keepIn (X q).K (.ref f) = true)
    (hb : KBi fd ps n ks ix) (ha : GEa X (e :: es) ga) (hkw : GEk X kws gk) (hall : ∀ q, (backToKw pos (keywordEach kws (X q).env)).all (·.1.isSome) = true := by intro _; rfl) (hks : ∀ q, (backToKw pos (keywordEach kws (X q).env)).filterMap (·.1) = ks := by intro _; rfl) (hdb : (x == ("__debug__" : Str)) = false := by decide)
    (he : ∀ q, starEach (e :: es) (X q).env = (false, eval e (X q).env) :: starEach es (X q).env := by intro _; rfl)
    (hpl : ∀ q, ((backTo pos (starEach (e :: es) (X q).env)).any (·.1) || (backToKw pos (keywordEach kws (X q).env)).any (·.1.isNone)) = false := by intro _; rfl) : GE X (.Call (.Name x p) (e :: es) kws pos) (gCallK n ks.length ix fs ga gk) :=
  let ⟨_, pa, sa⟩ := ha; let ⟨_, pk, sk⟩ := hkw; ⟨_, fun q => pe_GK (F q) (hG q) (hr q) (hg q) (hm q) (hk q) hb (pa q) (pk q) (hall q) (hks q) hdb (he q) (hpl q), sim_clK sa sk⟩
end
end Gh

set_option exponentiation.threshold 4000
/-! ghost layer, part 7: == and repr of data -/
namespace Gh
open PySem PySem.Spec L2
variable [KK]

mutual
/-- a tree as plain data, by the ledger's lists -/
inductive Py (L : Led) : D → PyData → Prop
  | non : Py L .non .none
  | bl (b : Bool) : Py L (.bl b) (.bool b)
  | int (i : Int) : Py L (.int i) (.int i)
  | str (s : Str) : Py L (.str s) (.str s)
  | lst {ds : List D} {es : List PyData} : PyA L ds es → Py L (.lst ds) (.list es)
  | tup {ds : List D} {es : List PyData} : PyA L ds es → Py L (.tup ds) (.tuple es)
  | scr {ds : List D} {es : List PyData} : PyA L ds es → Py L (.scr ds) (.list es)
  | ptr {a : Addr} {ds : List D} {es : List PyData} : L a = some (.lst ds) → PyA L ds es → Py L (.ptr a) (.list es)
inductive PyA (L : Led) : List D → List PyData → Prop
  | nil : PyA L [] []
  | cons {d : D} {e : PyData} {ds : List D} {es : List PyData} : Py L d e → PyA L ds es → PyA L (d :: ds) (e :: es)
end
mutual
theorem Py.dp {L : Led} {F H : Hp} (ok : Ok F H L) : ∀ {d : D} {e : PyData} {v : V}, Py L d e → Rp F v d → Dp KK.K H v e
  | _, _, _, .non, .non => .non
  | _, _, _, .bl b, .bl _ => .bl b
  | _, _, _, .int b, .int _ => .int b
  | _, _, _, .str b, .str _ => .str b
  | _, _, _, .lst h, .lst h1 h2 => .lst (SqL.of (ok.ex _ _ h1)) (PyA.dp ok h h2)
  | _, _, _, .tup h, .tup h1 h2 => .tup (ext_t ok.ex h1) (PyA.dp ok h h2)
  | _, _, _, .scr h, .scr h1 h2 => .lst (ext_l ok.ex h1) (PyA.dp ok h h2)
  | _, _, _, .ptr h1 h2, r => by
    cases r
    obtain ⟨h0, u, w1, w2⟩ := ok.led _ _ h1
    obtain ⟨xs, rfl, w3⟩ := w2.lst_inv
    exact .lst (SqL.of w1) (PyA.dp ok h2 w3)
theorem PyA.dp {L : Led} {F H : Hp} (ok : Ok F H L) : ∀ {d : List D} {e : List PyData} {v : List V}, PyA L d e → Rps F v d → DpAll KK.K H v e
  | _, _, _, .nil, .nil => .nil
  | _, _, _, .cons h r, .cons h2 r2 => .cons (Py.dp ok h h2) (PyA.dp ok r r2)
end

/-- data whose text is short -/
def good : PyData → Bool
  | .none | .bool _ => true
  | .int i => decide (i.natAbs < 10 ^ 90)
  | .str x => PyData.canLay0 (.str x) && x.cps.toList.all fun c => decide (c < 16 ^ 8)
  | .list xs | .tuple xs => goods xs
  | .dict _ => false
where goods : List PyData → Bool
  | [] => true
  | x :: xs => good x && goods xs
mutual
theorem good.lay : ∀ {d : PyData}, good d = true → d.canLay0 = true
  | .none, _ | .bool _, _ | .int _, _ => by simp only [PyData.canLay0]
  | .str x, h => by
    simp only [good, Bool.and_eq_true] at h
    exact h.1
  | .list xs, h | .tuple xs, h => by
    simp only [good] at h
    simp only [PyData.canLay0]
    exact goods.lay h
  | .dict _, h => by simp [good] at h
theorem goods.lay : ∀ {d : List PyData}, good.goods d = true → PyData.canLayAll0 d = true
  | [], _ => by simp only [PyData.canLayAll0]
  | x :: xs, h => by
    simp only [good.goods, Bool.and_eq_true] at h
    simp only [PyData.canLayAll0, Bool.and_eq_true]
    exact ⟨good.lay h.1, goods.lay h.2⟩
end
mutual
theorem good.leaves : ∀ {d : PyData}, good d = true → d.leavesShort 100 = true
  | .none, _ | .bool _, _ => by simp only [PyData.leavesShort]
  | .int i, h => by
    simp only [good, decide_eq_true_eq] at h
    simp only [PyData.leavesShort, decide_eq_true_eq]
    have e := int_text_length_le10 (k := 90) (by decide) h
    show (Str.ofString (toString i)).length ≤ 100
    rw [ofString_length]
    omega
  | .str x, h => by
    simp only [good, Bool.and_eq_true] at h
    simp only [PyData.leavesShort]
    exact h.2
  | .list xs, h | .tuple xs, h => by
    simp only [good] at h
    simp only [PyData.leavesShort]
    exact goods.leaves h
  | .dict _, h => by simp [good] at h
theorem goods.leaves : ∀ {d : List PyData}, good.goods d = true → PyData.leavesShortAll 100 d = true
  | [], _ => by simp only [PyData.leavesShortAll]
  | x :: xs, h => by
    simp only [good.goods, Bool.and_eq_true] at h
    simp only [PyData.leavesShortAll, Bool.and_eq_true]
    exact ⟨good.leaves h.1, goods.leaves h.2⟩
end
mutual
theorem good.show : ∀ {d : PyData}, good d = true → d.showable = true
  | .none, _ | .bool _, _ | .str _, _ => by simp only [PyData.showable]
  | .int i, h => by
    simp only [good, decide_eq_true_eq] at h
    simp only [PyData.showable, decide_eq_true_eq]
    refine log2_small (Nat.lt_of_lt_of_le h ?_)
    exact Nat.le_trans (Nat.pow_le_pow_left (by decide : 10 ≤ 2 ^ 4) 90) (by rw [← Nat.pow_mul]; exact Nat.pow_le_pow_right (by decide) (by decide))
  | .list xs, h | .tuple xs, h => by
    simp only [good] at h
    simp only [PyData.showable]
    exact goods.show h
  | .dict _, h => by simp [good] at h
theorem goods.show : ∀ {d : List PyData}, good.goods d = true → PyData.showableAll d = true
  | [], _ => by simp only [PyData.showableAll]
  | x :: xs, h => by
    simp only [good.goods, Bool.and_eq_true] at h
    simp only [PyData.showableAll, Bool.and_eq_true]
    exact ⟨good.show h.1, goods.show h.2⟩
end
mutual
theorem good.nodict : ∀ {d : PyData}, good d = true → d.hasDict = false
  | .none, _ | .bool _, _ | .str _, _ | .int _, _ => by simp only [PyData.hasDict]
  | .list xs, h | .tuple xs, h => by
    simp only [good] at h
    simp only [PyData.hasDict]
    exact goods.nodict h
  | .dict _, h => by simp [good] at h
theorem goods.nodict : ∀ {d : List PyData}, good.goods d = true → PyData.hasDictAll d = false
  | [], _ => by simp only [PyData.hasDictAll]
  | x :: xs, h => by
    simp only [good.goods, Bool.and_eq_true] at h
    simp only [PyData.hasDictAll, good.nodict h.1, goods.nodict h.2, Bool.or_self]
end
/-- .. and of few parts -/
def fine (e : PyData) : Prop := good e = true ∧ e.depth ≤ 40 ∧ e.bulk ≤ 100000
theorem fine.shaped {e : PyData} (h : fine e) : SeqAt.shaped e = true := by
  unfold SeqAt.shaped
  rw [good.lay h.1, decide_eq_true (Nat.le_trans h.2.1 (by decide))]
  rfl
theorem fine.short {e : PyData} (h : fine e) : e.shown.length ≤ sizeLine := by
  have a := PyData.shown_le_bulk 100 (by decide) e (good.leaves h.1)
  have b := h.2.2
  have c : sizeLine = 16777216 := by decide
  omega

section
variable {ι : Type} {X : ι → Cx} {a b : Expr} {ga gb : GT} {pos : Pos}
def rEqG (neg : Bool) : D → D → Led → Ps → Prop := fun x y L post => ∃ d e, Py L x d ∧ Py L y e ∧ SeqAt.shaped d = true ∧ SeqAt.shaped e = true ∧ post (.bl (neg ^^ PyData.eqv d e)) L
theorem sim_eqG : Sim2 (rEqD KK.K) (rEqG false) := fun x y dx dy F H L post Q rx ry ok hg k => by
  obtain ⟨d, e, h1, h2, h3, h4, h5⟩ := hg
  exact ⟨d, e, h1.dp ok rx, h2.dp ok ry, h3, h4, k _ _ F H L h5 (by rw [Bool.false_xor]; exact .bl _) (Ext.refl F) ok⟩
theorem sim_neG : Sim2 (rNeD KK.K) (rEqG true) := fun x y dx dy F H L post Q rx ry ok hg k => by
  obtain ⟨d, e, h1, h2, h3, h4, h5⟩ := hg
  exact ⟨d, e, h1.dp ok rx, h2.dp ok ry, h3, h4, k _ _ F H L h5 (by rw [Bool.true_xor]; exact .bl _) (Ext.refl F) ok⟩
theorem g_eqD (hK : ∀ q, (X q).K = KK.K) (hu : ∀ q, (X q).A.units + 64 < cLine) (ha : GE X a ga) (hb : GE X b gb) : GE X (.Compare a [.Eq] [b] pos) (g2 (rEqG false) ga gb) := g_cmp (r := rEqD KK.K) (fun q => by rw [← hK q]; exact op_eqD (hu q)) sim_eqG ha hb (nomark _)
theorem b_eqD (hK : ∀ q, (X q).K = KK.K) (hu : ∀ q, (X q).A.units + 64 < cLine) (ha : GE X a ga) (hb : GE X b gb) : GEb X (.Compare a [.Eq] [b] pos) (gTst (g2 (rEqG false) ga gb)) := b_cmp (r := rEqD KK.K) (fun q => by rw [← hK q]; exact op_eqD (hu q)) sim_eqG ha hb (nomark _)
theorem g_neD (hK : ∀ q, (X q).K = KK.K) (hu : ∀ q, (X q).A.units + 64 < cLine) (ha : GE X a ga) (hb : GE X b gb) : GE X (.Compare a [.NotEq] [b] pos) (g2 (rEqG true) ga gb) := g_cmp (r := rNeD KK.K) (fun q => by rw [← hK q]; exact op_neD (hu q)) sim_neG ha hb (nomark _)
theorem b_neD (hK : ∀ q, (X q).K = KK.K) (hu : ∀ q, (X q).A.units + 64 < cLine) (ha : GE X a ga) (hb : GE X b gb) : GEb X (.Compare a [.NotEq] [b] pos) (gTst (g2 (rEqG true) ga gb)) := b_cmp (r := rNeD KK.K) (fun q => by rw [← hK q]; exact op_neD (hu q)) sim_neG ha hb (nomark _)
/-- xs == [], a list that is known -/
def rNil (neg : Bool) : D → D → Led → Ps → Prop := fun x y L post => match y with
  | .lst [] => itL x L fun ds => post (.bl (neg ^^ ds.isEmpty)) L
  | _ => False

/-! repr -/
def rRepr (K : PySem.W.Frag) : List V → Hp → VK → Prop := fun vs H Q => ∃ v e, vs = [v] ∧ Dp K H v e ∧ fine e ∧ Q (.str e.shown) H
theorem call_reprD {X : Cx} (hG : X.A.guards = some []) (hu : X.A.units + 64 < cLine) : CallR X (.builtin "repr") (rRepr X.K) := by
  intro pins s σ H xs us Q I r h
  obtain ⟨v, e, rfl, hd, hf, q⟩ := h
  obtain ⟨u, rfl, rv⟩ : ∃ u, us = [u] ∧ RelV v u := by
    cases r with
    | cons a b => cases b; exact ⟨_, rfl, a⟩
  have sz := hf.short
  have fin : ∀ t : Tok, EP X pins σ Q (.str e.shown t) { s with toks := s.toks + 1 } := fun t => ⟨.str e.shown, H, I.tok _, ⟨t, rfl⟩, q⟩
  have main : (∃ p, u = Value.ref p) → wpAny (model X.prog X.w) X.A (call (.builtin "repr") [u]) (EP X pins σ Q) X.xe s := by
    rintro ⟨p, rfl⟩
    obtain ⟨as, rd⟩ := Dp.reads I e v _ hd rv
    have hdep := hf.2.1
    exact repr_of_reads' rd (good.show hf.1) (fun z => by rw [good.nodict hf.1] at z; cases z) hG (by omega) (fun _ _ z => z) (fun h' u' tk hk => ⟨.str e.shown, H, I.kept hk, ⟨_, rfl⟩, q⟩) sz
  cases hd with
  | non =>
    obtain rfl : u = Value.none := rv
    have z := fin s.toks
    exact P.repr_of_none z
  | bl b =>
    obtain rfl : u = Value.bool b := rv
    have z := fin s.toks
    rw [PyData.shown_bool] at z
    exact P.repr_of_bool z
  | int i =>
    obtain ⟨t, rfl⟩ := rv
    have z := fin s.toks
    rw [PyData.shown_int] at z
    have hl := good.show hf.1
    simp only [PyData.showable, decide_eq_true_eq] at hl
    exact P.repr_of_int hl z
  | str x =>
    obtain ⟨t, rfl⟩ := rv
    have z := fin s.toks
    rw [PyData.shown_str] at z sz
    exact P.repr_of_str z sz
  | lst h1 h2 => exact main ⟨_, rv⟩
  | tup h1 h2 => exact main ⟨_, rv⟩
def kRepr : D → Led → Ps → Prop := fun d L post => ∃ e, Py L d e ∧ fine e ∧ post (.str e.shown) L
theorem sim_repr : SimC (rRepr KK.K) (c1 kRepr) := fun xs ds F H L post Q rs ok hg k => by
  obtain ⟨d, rfl, hd⟩ := hg.out
  obtain ⟨v, rfl, r⟩ := rs.one
  obtain ⟨e, h1, h2, h3⟩ := hd
  exact ⟨v, e, rfl, h1.dp ok r, h2, k _ _ F H L h3 (.str _) (Ext.refl F) ok⟩
end
end Gh

set_option maxHeartbeats 1000000
/-! ghost layer, part 8: list(reversed(list)), sorted, index, the law's end -/
namespace Gh
open PySem PySem.Spec L2
variable [KK]

/-! ### list(reversed(a list)): at the model's level -/
section
open PyProof.Rows PySem.W
variable {prog : Program} {w : World} {A : Around} {E : Value → Shared → Prop} {s : Shared}
theorem list_of_rev {it l : Addr} {items : Array Value} {Q : Value → Shared → Prop} (hh : A.handled = none) (hit : s.heap.IsRevIter it l ((items.size : Int) - 1)) (hl : s.heap.IsList l items) (hne : l ≠ it) (hn : items.size ≤ sizeLine)
    (hQ : ∀ (h' : Heap) (tk : Nat) (acc : Array Value) (c : Nat), (∀ b o, b ≠ it → s.heap.get? b = some o → h'.get? b = some o) → h'.get? s.heap.objs.size = some { cls := .type "list", dict := none, data := .seq acc c, slots := #[] } →
      ItemsOf (fun i v => items[items.size - 1 - i]? = some v) acc items.size → Q (.ref s.heap.objs.size) { s with heap := h', toks := tk }) :
    wpAny (model prog w) A (call (.type "list") [.ref it]) Q E s := by
  refine callType_codes (Q₁ := fun obj s₁ => obj = .ref s.heap.objs.size ∧ s₁ = { s with heap := s.heap.push { cls := .type "list", data := .seq #[] } }) PySem.F.called_list (PySem.F.typeCall_list_1 _) PySem.F.entry_list_init
    (code_list_new _ ⟨rfl, rfl⟩) ?_
  rintro obj s₁ ⟨rfl, rfl⟩
  have hS0 : (s.heap.push { cls := .type "list", data := .seq #[] }).get? s.heap.objs.size = some { cls := .type "list", data := .seq #[] } := Heap.get?_push_size _ rfl
  refine ⟨⟨_, hS0, rfl⟩, PySem.F.args_list_init_2 _ _, ?_⟩
  have W := (Walks.listRev (prog := prog) (w := w) (A := A.in1.in1) hh it l hne items).toS
  obtain ⟨oi, hoi, _⟩ := id hit
  obtain ⟨ol, hol, _⟩ := id hl
  have hSi : s.heap.objs.size ≠ it := Nat.ne_of_gt (Heap.lt_size hoi)
  have hSl : s.heap.objs.size ≠ l := Nat.ne_of_gt (Heap.lt_size hol)
  have hSf : s.heap.objs.size ∉ [it, l] := by
    simp only [List.mem_cons, List.not_mem_nil, or_false, not_or]
    exact ⟨hSi, hSl⟩
  show wpAny _ _ (do let old ← Builtin.List.listItems (.ref s.heap.objs.size); Builtin.List.listUpdate (.ref s.heap.objs.size) (fun _ => #[]); letGo old.toList.reverse; Builtin.List.listExtendWith (.ref s.heap.objs.size) (.ref it) .none) _ _ _
  refine wpAny_bind ?_
  unfold Builtin.List.listItems
  refine wpAny_bind (wpAny_seqItems hS0 rfl (wpAny_pure ?_))
  show wpAny _ _ (updateSeq s.heap.objs.size (fun _ => #[]) >>= fun _ => letGo (#[] : Array Value).toList.reverse >>= fun _ => Builtin.List.listExtendWith (.ref s.heap.objs.size) (.ref it) .none) _ _ _
  refine wpAny_bind (wpAny_updateSeq hS0 rfl ?_)
  have hS2 := Heap.get?_update_self (Obj.mapSeq (fun _ => (#[] : Array Value))) hS0 rfl
  have oth : ∀ b o, s.heap.get? b = some o → ((s.heap.push { cls := .type "list", data := .seq #[] }).update s.heap.objs.size (Obj.mapSeq (fun _ => (#[] : Array Value)))).get? b = some o := fun b o e =>
    (Heap.get?_update_other _ _ (Nat.ne_of_gt (Heap.lt_size e))).trans (Heap.get?_push_of_some _ e)
  refine wpAny_bind (wpAny_letGo ?_)
  have hit1 := hit.at (h' := (s.heap.push { cls := .type "list", data := .seq #[] }).update s.heap.objs.size (Obj.mapSeq (fun _ => (#[] : Array Value)))) fun o e => oth it o e
  have hl1 := hl.at (h' := (s.heap.push { cls := .type "list", data := .seq #[] }).update s.heap.objs.size (Obj.mapSeq (fun _ => (#[] : Array Value)))) fun o e => oth l o e
  generalize hh1 : (s.heap.push { cls := .type "list", data := .seq #[] }).update s.heap.objs.size (Obj.mapSeq (fun _ => (#[] : Array Value))) = h1 at hS2 hit1 hl1 oth
  have hT : ({ s with heap := h1 } : Shared).TypeIs (.ref it) "list_reverseiterator" := Heap.IsRevIter.typeIs (s := { s with heap := h1 }) hit1
  have h0 : Builtin.List.listSameRef (.ref s.heap.objs.size) (.ref it) = false := by simp [Builtin.List.listSameRef, hSi]
  show wpAny _ _ (Builtin.List.listExtendWith (.ref s.heap.objs.size) (.ref it) .none) _ _ { s with heap := h1 }
  unfold Builtin.List.listExtendWith
  refine wpAny_bind (wpAny_typeOf hT ?_)
  rw [if_neg (by rw [h0]; decide)]
  refine wpAny_bind (wpAny_pyIter_revIter (s := { s with heap := h1 }) hit1 ?_)
  refine wpAny_bind (wpAny_holding ?_)
  unfold Builtin.List.listLengthHint
  refine wpAny_bind (wpAny_specialOf hT RT.nolen_lri ?_)
  show wpAny _ _ (specialOf (Value.ref it) (Str.ofString "__length_hint__") >>= _) _ _ _
  refine wpAny_bind (wpAny_specialOf hT RT.hint_lri ?_)
  generalize hid : ("list_reverseiterator.__length_hint__" : String) = id0
  wp_delta
  rw [show splitId id0 = some ("list_reverseiterator", "__length_hint__") from by subst hid; decide +kernel]
  subst hid
  refine wpAny_bind (wpAny_isInstance (b := true) hT (by rw [isSubtype_type]; kernel_rfl) ?_)
  refine wpAny_pure ?_
  rw [if_neg (by decide)]
  have e0 : ((items.size : Nat) : Int) - 1 - ((0 : Nat) : Int) = (items.size : Int) - 1 := by omega
  refine wpAny_pure ⟨plainId_quiet F.plain_extend_loop _, codeAny_extend_loopS W hn _ hSf _ items.size 0 _ _ _ rfl (Nat.zero_le _) ⟨Nat.zero_le _, by rw [e0]; exact hit1, hl1⟩ hS2 (ItemsOf.nil _) ?_⟩
  intro s' acc' c' hm hS' hacc
  rw [Moved.eq_with hm]
  refine ⟨rfl, hQ s'.heap s'.toks acc' c' (fun b o hb e => hm.heap b o (fun hmem => ?_) (oth b o e)) hS' hacc⟩
  rcases List.mem_cons.mp hmem with e' | hmem
  · exact absurd (Heap.lt_size e) (by rw [e']; exact Nat.lt_irrefl _)
  · exact hb (List.mem_singleton.mp hmem)
end
/-- behind a call that turned a record at it and laid a new object at S -/
theorem Inv.turnedNew {X : Cx} {pins : List (Addr × Obj)} {σ : L2.St} {H : Hp} {s : Shared} {h' : Heap} {t' : Nat} {it S : Addr} {o : HO} (I : Inv X pins σ H s) (hk : ∀ b u, b ≠ it → s.heap.get? b = some u → h'.get? b = some u) (f : FpOk X pins H it) (hS : s.heap.objs.size ≤ S)
    (new : ObjOk X.prog X.w (upd H S o) h' S o) : Inv X pins σ (upd H S o) { s with heap := h', toks := t' } := by
  obtain ⟨f0, f1, f2, f3, f4, f5⟩ := f
  have fr : H S = none := I.hok.fresh hS
  have nS : ∀ b u, s.heap.get? b = some u → b ≠ S := fun b u e => Nat.ne_of_lt (Nat.lt_of_lt_of_le (Heap.lt_size e) hS)
  have nit : ∀ b u, H b = some u → b ≠ it := fun b u e z => by rw [z, f0] at e; cases e
  refine I.step (g' := s.gens) (d' := s.drawn) (ch := [it]) ?_ ?_ ?_ ?_ ?_ ?_ ?_ ?_ ?_ ?_ I.bare
  · intro b hb
    obtain rfl : b = it := by simpa using hb
    exact ⟨f3, f1, f4, f5⟩
  · intro b u _ _ hc e _
    exact hk b u (fun z => hc (by simp [z])) e
  · intro b u _ _ hc e _
    exact ⟨u.slots, hk b u (fun z => hc (by simp [z])) e⟩
  · intro b u _ e n
    rw [upd_ne (nS b u e)]; exact n
  · intro b u hc e
    exact ⟨u, hk b u (fun z => hc (by simp [z])) e⟩
  · intro b xs e
    rw [upd_ne (ne_of_none e fr)]; exact e
  · intro b u v e
    rw [upd_ne (ne_of_none e fr)]; exact e
  · intro b ps e
    exact ⟨#[], by rw [upd_ne (ne_of_none e fr), e]; simp⟩
  · rintro m ⟨u, es, ep, e, r⟩
    exact ⟨u, es, ep, hk _ u (Ne.symm f1) e, r⟩
  · intro b u e
    by_cases q : b = S
    · subst q
      rw [upd_same] at e; cases e
      exact new
    · rw [upd_ne q] at e
      refine (I.hok b u e).stay (fun c v hc w => hk c v ?_ w) (fun c w => ?_) (fun c xs w => ?_)
      · rcases hc with z | z
        · rw [z]; exact nit b u e
        · exact nit c _ z
      · rw [upd_ne (ne_of_none w fr)]; exact w
      · rw [upd_ne (ne_of_none w fr)]; exact w
/-- list(reversed(x)), x a list -/
def tLstRev (K : PySem.W.Frag) (te : TE) : TE := fun σ H Q => te σ H fun v H1 => ∃ (a : Addr) (xs : List V), v = .ref a ∧ SqL K H1 a xs ∧ ∀ q, H1 q = none → Q (.ref q) (upd H1 q (.lst xs.reverse))
open PyProof.Rows in
theorem pe_lstRev {X : Cx} {e : Expr} {te : TE} {p p2 pos pos2 : Pos} (hc : X.calm = true) (hg : Gl X "list") (hm : X.mg "list" = none) (hg2 : Gl X "reversed") (hm2 : X.mg "reversed" = none) (he : PE X e te)
    (hs : starEach [e] X.env = (false, eval e X.env) :: starEach [] X.env := by rfl)
    (hs2 : starEach [.Call (.Name "reversed" p2) [e] [] pos2] X.env = (false, eval (.Call (.Name "reversed" p2) [e] [] pos2) X.env) :: starEach [] X.env := by rfl) :
    PE X (.Call (.Name "list" p) [.Call (.Name "reversed" p2) [e] [] pos2] [] pos) (tLstRev X.K te) := by
  refine ⟨fun pins s σ H Q I h => ?_⟩
  refine PyProof.Rows.Call_ (ld_blt I hg hm boot_list (PyProof.Rows.callWith_type1 (PyProof.Rows.args_cons (PyProof.Rows.Call_ (ld_blt I hg2 hm2 PyProof.Rows.boot_reversed (PyProof.Rows.callWith_type1 (PyProof.Rows.args_cons (thn (he.run pins s σ H _ I h) ?_) hs) hs rfl))) hs2) hs2 rfl))
  rintro u s1 ⟨v, H1, I1, r1, a, xs, rfl, hq, q⟩
  refine PyProof.Rows.args_nil ?_
  obtain rfl : u = Value.ref a := r1
  obtain ⟨its, rv, p', hz⟩ := I1.list hq
  refine call_reversed_list p'.isList (PyProof.Rows.args_nil ?_)
  have k0 : ∀ b o, s1.heap.get? b = some o → (s1.heap.push (revObj a ((its.toArray.size : Int) - 1))).get? b = some o := fun b o e => Heap.get?_push_of_some _ e
  have I2 : Inv X pins σ H1 { s1 with heap := s1.heap.push (revObj a ((its.toArray.size : Int) - 1)) } := I1.kept (t' := s1.toks) k0
  obtain ⟨f0, f1, f2, f3, f4, f5⟩ := I1.fpOk (H' := H1) (b := s1.heap.objs.size) (Nat.le_refl _) (I1.hok.fresh (Nat.le_refl _))
  have hl := p'.isList
  obtain ⟨ol, hol, _⟩ := id hl
  have hne : a ≠ s1.heap.objs.size := Nat.ne_of_lt (Heap.lt_size hol)
  have hn : its.toArray.size ≤ sizeLine := by rw [List.size_toArray, ← rv.length]; exact hz
  refine list_of_rev (s := { s1 with heap := s1.heap.push (revObj a ((its.toArray.size : Int) - 1)) }) (I1.ok.hd hc) ⟨_, Heap.get?_push_size _ rfl, rfl, rfl⟩ (hl.push _) hne hn ?_
  intro h' tk acc c hk hD hi
  have I3 : Inv X pins σ H1 { s1 with heap := h', toks := tk } := I2.turned (t' := tk) (fun b o hb e => hk b o hb e) f0 f1 f3 f4 f5
  have fr : H1 (s1.heap.push (revObj a ((its.toArray.size : Int) - 1))).objs.size = none := I2.hok.fresh (Nat.le_refl _)
  have F2 : FpOk X pins H1 s1.heap.objs.size := ⟨f0, f1, f2, f3, f4, f5⟩
  refine ⟨.ref _, upd H1 (s1.heap.push (revObj a ((its.toArray.size : Int) - 1))).objs.size (.lst xs.reverse), Inv.turnedNew (t' := tk) I2 hk F2 (Nat.le_refl _) ⟨by rw [List.length_reverse]; exact hz, acc.toList, c, RT.vals_rev rv hi, ?_⟩, rfl, q _ fr⟩
  rw [Array.toArray_toList]
  exact hD

/-! ### list(reversed(list)), ghost -/
section
variable {ι : Type} {X : ι → Cx} {e : Expr} {ge : GT} {p p2 pos pos2 : Pos} {x : Str}
def gLrF (ge : GT) : GT := fun Γ L post => ge Γ L fun d L1 => itR d L1 fun ds => post (.lst ds.reverse) L1
def gLrO (ge : GT) : GT := fun Γ L post => ge Γ L fun d L1 => itR d L1 fun ds => ∀ p, L1 p = none → post (.ptr p) (put L1 p (.lst ds.reverse))
theorem g_lrF (hK : ∀ q, (X q).K = KK.K) (hc : ∀ q, (X q).calm = true) (hg : ∀ q, Gl (X q) "list") (hm : ∀ q, (X q).mg "list" = none) (hg2 : ∀ q, Gl (X q) "reversed") (hm2 : ∀ q, (X q).mg "reversed" = none) (h : GE X e ge)
    (hs : ∀ q, starEach [e] (X q).env = (false, eval e (X q).env) :: starEach [] (X q).env := by intro _; rfl)
    (hs2 : ∀ q, starEach [.Call (.Name "reversed" p2) [e] [] pos2] (X q).env = (false, eval (.Call (.Name "reversed" p2) [e] [] pos2) (X q).env) :: starEach [] (X q).env := by intro _; rfl) :
    GE X (.Call (.Name "list" p) [.Call (.Name "reversed" p2) [e] [] pos2] [] pos) (gLrF ge) :=
  let ⟨_, pe, s⟩ := h
  ⟨tLstRev KK.K _, fun q => by have z := pe_lstRev (p := p) (pos := pos) (hc q) (hg q) (hm q) (hg2 q) (hm2 q) (pe q) (hs q) (hs2 q); rw [hK q] at z; exact z, fun σ F H Γ L post Q hsl ok hgi k => s σ F H Γ L _ _ hsl ok hgi fun v d F1 H1 L1 hp hr e1 o1 => by
    obtain ⟨a, xs, ds, ev, h1, rs, q⟩ := itR.out hp hr o1
    exact ⟨a, xs, ev, h1, k.froz e1 o1 q fun p hn => .lst upd_same (rs.reverse.up hn)⟩⟩
theorem g_lrO (hK : ∀ q, (X q).K = KK.K) (hc : ∀ q, (X q).calm = true) (hg : ∀ q, Gl (X q) "list") (hm : ∀ q, (X q).mg "list" = none) (hg2 : ∀ q, Gl (X q) "reversed") (hm2 : ∀ q, (X q).mg "reversed" = none) (h : GE X e ge)
    (hs : ∀ q, starEach [e] (X q).env = (false, eval e (X q).env) :: starEach [] (X q).env := by intro _; rfl)
    (hs2 : ∀ q, starEach [.Call (.Name "reversed" p2) [e] [] pos2] (X q).env = (false, eval (.Call (.Name "reversed" p2) [e] [] pos2) (X q).env) :: starEach [] (X q).env := by intro _; rfl) :
    GE X (.Call (.Name "list" p) [.Call (.Name "reversed" p2) [e] [] pos2] [] pos) (gLrO ge) :=
  let ⟨_, pe, s⟩ := h
  ⟨tLstRev KK.K _, fun q => by have z := pe_lstRev (p := p) (pos := pos) (hc q) (hg q) (hm q) (hg2 q) (hm2 q) (pe q) (hs q) (hs2 q); rw [hK q] at z; exact z, fun σ F H Γ L post Q hsl ok hgi k => s σ F H Γ L _ _ hsl ok hgi fun v d F1 H1 L1 hp hr e1 o1 => by
    obtain ⟨a, xs, ds, ev, h1, rs, q⟩ := itR.out hp hr o1
    exact ⟨a, xs, ev, h1, k.newO e1 o1 (ob := .lst ds.reverse) q rs.reverse⟩⟩
end

/-! ### sorted -/
def kSort : D → Led → Ps → Prop := kInts fun (ns : List Int) (L : Led) (post : Ps) => ∀ ns' : List Int, ns'.Perm ns → ns'.Pairwise (· ≤ ·) → post (.lst (ns'.map D.int)) L
theorem sim_sort {K : PySem.W.Frag} : SimC (rSortedI K) (c1 kSort) := fun xs ds F H L post Q rs ok hg k => by
  obtain ⟨d, rfl, hd⟩ := hg.out
  obtain ⟨v, rfl, r⟩ := rs.one
  obtain ⟨p, ns, e1, h1, q⟩ := kInts.out (f := fun (ns : List Int) (L : Led) (post : Ps) => ∀ ns' : List Int, ns'.Perm ns → ns'.Pairwise (· ≤ ·) → post (.lst (ns'.map D.int)) L) hd r ok
  rw [e1]
  exact ⟨p, ns, rfl, SqL.of h1, fun ns' a h2 h3 hn => k.froz (Ext.refl F) ok (q ns' h2 h3) (fun p hn => .lst upd_same ((Rps.of_ints ns').up hn)) a hn⟩
/-- sorted(d), int keys, any number of them -/
def rSortedDI : List V → Hp → VK → Prop := fun xs H Q => ∃ (a : Addr) (kvs : List (Key × V)) (ks : List Int), xs = [.ref a] ∧ L2.Rd H a (.dK kvs) ∧ kvs.map (·.1) = ks.map Sum.inl ∧
    ∀ (ys : List Int) (p : Addr), ys.Perm ks → ys.Pairwise (· ≤ ·) → H p = none → Q (.ref p) (upd H p (.lst (ys.map V.int)))
open PyProof.Rows in
theorem call_sortedDA {X : Cx} (hcalm : X.calm = true) : CallR X (.builtin "sorted") rSortedDI := by
  intro pins s σ H xs us Q I r q
  obtain ⟨a, kvs, ks, rfl, hd, hks, q⟩ := q
  obtain ⟨u, rfl, rx⟩ : ∃ u, us = [u] ∧ RelV (.ref a) u := by
    cases r with
    | cons x y => cases y; exact ⟨_, rfl, x⟩
  obtain rfl : u = Value.ref a := rx
  obtain ⟨z, lo, vs, rel, dd⟩ := dk_rd I.hok hd
  obtain ⟨ep, hat⟩ := dd.dictAt
  have hkeys : vs.map (·.1) = ks.map Sum.inl := rel.keys.symm.trans hks
  have hl : vs.length = ks.length := by simpa using congrArg List.length hkeys
  have hsz : vs.length ≤ sizeLine := by rw [← rel.length]; exact z
  refine Calls.call_function_entry PyProof.Rows.kind_sorted PyProof.Rows.plain_sorted PyProof.Rows.entry_sorted (PyProof.Rows.args_sorted1 _) ?_
  unfold Builtin.«sorted»
  refine wpAny_bind (m := checkCount "sorted" 1 1 _) (wpAny_pure ?_)
  refine wpAny_bind (PySem.W.kdu_collect (A := X.A.in1) (PySem.W.kdl_dict (knd := mixKind X.prog X.w) (kvs := vs) (ep := ep) lo) (I.ok.hd hcalm) hat hsz ?_)
  intro h' tk acc hk hacc
  have hal : acc.toList.length = ks.length := by rw [Array.length_toList, hacc.1, hl]
  have hS : PyProof.Rows.IntsAre acc.toList ks := ints_each hal fun j v e => by
    obtain ⟨k, x, e1, e2⟩ := hacc.2 j v (by rw [← Array.getElem?_toList]; exact e)
    have e3 : (vs.map (·.1))[j]? = some k := by rw [List.getElem?_map, e1]; rfl
    rw [hkeys, List.getElem?_map] at e3
    cases e4 : ks[j]? with
    | none => rw [e4] at e3; cases e3
    | some y =>
      rw [e4] at e3
      obtain rfl : Sum.inl y = k := Option.some.inj e3
      rcases keyIs_shape (show keyIs (Sum.inl y) v = true from e2) with ⟨i, t, ek, ev⟩ | ⟨w, t, ek, ev⟩
      · cases ek
        exact ⟨y, t, rfl, ev⟩
      · cases ek
  have I1 : Inv X pins σ H { s with heap := h', toks := tk } := I.kept hk
  have hacL : acc.toList.length ≤ sizeLine := by rw [hal, ← hl]; exact hsz
  refine wpAny_bind (wpAny_newList ?_ hacL)
  have hoL : (h'.push (seqObj "list" acc.toList.toArray 0)).get? h'.objs.size = some (seqObj "list" acc.toList.toArray 0) := Heap.get?_push_size _ rfl
  show wpAny _ _ _ _ _ { s with heap := h'.push (seqObj "list" acc.toList.toArray 0), toks := tk }
  refine wpAny_bind (wpAny_holding (wpAny_call_entry PyProof.Rows.slot_list_sort ⟨_, hoL, rfl⟩ PyProof.Rows.entry_list_sort
    (SrtO.list_sort_ord (s := { s with heap := h'.push (seqObj "list" acc.toList.toArray 0), toks := tk }) SrtO.swo_int hoL hacL (fun h2 => SrtO.ints_sortable hS h2) fun out h1 h2 => ⟨.none, rfl, ?_⟩) (PyProof.Rows.args_list_sort _)))
  obtain ⟨g1, g2, g3⟩ := SrtO.ints_out hS h1 h2
  obtain ⟨e', he'⟩ := PyProof.Rows.sortedHeap_at (vs := acc.toList) (out := out.toArray) hoL
  have hlen : ((out.map SrtO.iv).map V.int).length ≤ sizeLine := by
    rw [List.length_map, g2.length_eq, ← hl]
    exact hsz
  refine wpAny_pure ⟨_, rfl, .ref h'.objs.size, upd H h'.objs.size (.lst ((out.map SrtO.iv).map V.int)), I1.laid (t' := tk) (fun b u e => ?_) (Nat.le_refl _)
    (show ObjOk X.prog X.w _ _ _ (.lst ((out.map SrtO.iv).map V.int)) from ⟨hlen, out, e', vals_of_ints g1, he'⟩), rfl, q _ _ g2 g3 (I1.hok.fresh (Nat.le_refl _))⟩
  have hb : b < h'.objs.size := Heap.lt_size e
  rw [PyProof.Rows.sortedHeap_old (Nat.ne_of_lt hb) (by rw [PyProof.Rows.size_push']; exact Nat.lt_succ_of_lt hb)]
  exact Heap.get?_push_of_some _ e
def kSortD : D → Led → Ps → Prop := fun d L post => itK d L fun kvs => ∃ ks : List Int, kvs.map (·.1) = ks.map Sum.inl ∧ ∀ ns' : List Int, ns'.Perm ks → ns'.Pairwise (· ≤ ·) → post (.lst (ns'.map D.int)) L
theorem sim_sortD : SimC rSortedDI (c1 kSortD) := fun xs ds F H L post Q rs ok hg k => by
  obtain ⟨d, rfl, hd⟩ := hg.out
  obtain ⟨v, rfl, r⟩ := rs.one
  unfold kSortD at hd
  obtain ⟨p, xs, kvs, e1, h1, r1, ks, h2, q⟩ := itK.out hd r ok
  rw [e1]
  exact ⟨p, xs, ks, rfl, .inl h1, by rw [r1.keys]; exact h2, fun ns' a h2 h3 hn => k.froz (Ext.refl F) ok (q ns' h2 h3) (fun p hn => .lst upd_same ((Rps.of_ints ns').up hn)) a hn⟩

/-! ### xs.index(y), ints -/
def mIdx : D → List D → Led → Ps → Prop := fun d vs L post => itR d L fun ds => ∃ (ns : List Int) (y : Int) (j : Nat), ds = ns.map D.int ∧ vs = [.int y] ∧ ns[j]? = some y ∧ (∀ i, i < j → ns[i]? ≠ some y) ∧ post (.int j) L
theorem flat_ints (ns : List Int) : (ns.map V.int).all flatV = true := by
  rw [List.all_eq_true]
  intro v hv
  obtain ⟨i, _, rfl⟩ := List.mem_map.mp hv
  rfl
theorem eqV_int (i j : Int) : eqV (.int i) (.int j) = decide (i = j) := by
  first | rfl | (simp [eqV])
theorem sim_idx : SimM (rIndex KK.K) mIdx := fun x dx xs ds F H L post Q rx rs ok hg k => by
  obtain ⟨p, zs, es, e1, h1, r1, ns, y, j, rfl, rfl, h2, h3, h4⟩ := itR.out hg rx ok
  obtain ⟨v, rfl, rv⟩ := rs.one
  rw [rv.int_inv]
  have ez := r1.ints
  subst ez
  refine ⟨p, _, .int y, j, .int y, e1, rfl, h1, rfl, flat_ints ns, by rw [List.getElem?_map, h2]; rfl, by rw [eqV_int]; simp, fun m z' hm e => ?_, k _ _ F H L h4 (.int _) (Ext.refl F) ok⟩
  rw [List.getElem?_map] at e
  cases w : ns[m]? with
  | none => rw [w] at e; cases e
  | some i =>
    rw [w] at e
    cases e
    rw [eqV_int]
    refine decide_eq_false fun z => h3 m hm ?_
    rw [w, z]
end Gh

/-! ghost layer, part 9: the law's end -/
namespace Gh
open PySem PySem.Spec L2
variable [KK]

/-- the heap behind the top, with the script tracked (or written) -/
theorem law_G {P : Program} {w : World} {mg mb : Str → Option Value} {k : Nat} {fa a : Addr} {fd : FuncData} {x : Str} {fs : FSp} {s₁ : Shared} {vs : List Value} {ns : List Int}
    (KX : KK.K.In s₁.heap) (hns : s₁.heap.Ns mainGlobals mg) (hb : s₁.heap.Ns builtinsNs mb) (hbb : ∀ x : Str, x ≠ "__name__" → mb x = bootBuiltins x) (hlim : s₁.heap.NoLimit) (hg : s₁.gens = #[])
    (ha : s₁.heap.get? a = some { cls := .type "list", data := .seq vs.toArray }) (hi : PyProof.Rows.IntsAre vs ns) (hl : ns.length ≤ sizeLine) (hr : Room k callerA)
    (F : ∀ base : Heap, KK.K.In base → base.Ns mainGlobals mg → FnG P w KK.K mg base k fa fd [x] fs) (hbind : ∀ (s : Shared) (u : Value), BindsTo s fd ⟨[u], []⟩ [(x, u)])
    (hsp : fs [.scr (ns.map D.int)] (fun _ => none) fun d _ => d = .bl true) :
    codeAny (model P w) callerA (.call (.ref fa) ⟨[.ref a], []⟩) (fun r s' => r = .ok (.ret (.bool true)) ∧ OldK s₁.heap s'.heap ∧ s'.os = s₁.os ∧ PyProof.Rows.AllBare s'.gens) s₁ := by
  have rv := vals_of_ints hi
  have core : ∀ H : Hp, (∀ b, H b = none ∨ ∃ o xs, H b = some (.frz o (.lst xs))) → SqL KK.K H a (ns.map V.int) → HOk P w H s₁.heap → (∀ b, H b ≠ none → b = a) → (H a ≠ none → KK.K.lookup a = none) →
      codeAny (model P w) callerA (.call (.ref fa) ⟨[.ref a], []⟩) (fun r s' => r = .ok (.ret (.bool true)) ∧ OldK s₁.heap s'.heap ∧ s'.os = s₁.os ∧ PyProof.Rows.AllBare s'.gens) s₁ := by
    intro H hO hS hok hA hK
    have far : ∀ {b : Addr} {u : HO}, H b = some u → b = a := fun {b u} e => hA b (by rw [e]; simp)
    have nsK : ∀ {b : Addr} {m : Str → Option Value}, s₁.heap.Ns b m → (hidT s₁.heap H).Ns b m := by
      rintro b m ⟨o, es, ep, e, d, r⟩
      refine ⟨o, es, ep, hidT_get e ?_, d, r⟩
      cases q : H b with
      | none => rfl
      | some u =>
        obtain rfl := far q
        rw [ha] at e; cases e
        cases (show Data.seq vs.toArray _ = Data.dict es ep from d)
    have hKb : KK.K.In (hidT s₁.heap H) := fun b o e => hidT_get (KX b o e) (by
      cases q : H b with
      | none => rfl
      | some u =>
        obtain rfl := far q
        rw [hK (by rw [q]; simp)] at e; cases e)
    have hM : Mod KK.K mg (hidT s₁.heap H) := ⟨hKb, nsK hns, ⟨mb, nsK hb, hbb⟩, let ⟨mc, h1, h2⟩ := hlim; ⟨mc, nsK h1, h2⟩⟩
    have noin : ∀ b : Addr, b ∉ ([] : List Addr) := fun b z => by cases z
    have e0 : Env0 P w KK.K mg (hidT s₁.heap H) callerA [] s₁ H := ⟨rfl, hM, fun b o e => of_hidT e, Nat.le_of_eq (hidT_size _ _), trivial, fun b z => absurd z (noin b), hok, .of_eq hg⟩
    have pr : Prom fs [.ref a] H (fun v _ => v = .bl true) := ⟨H, [.scr (ns.map D.int)], fun _ => none, fun d _ => d = .bl true, .cons (.scr hS (Rps.of_ints ns)) .nil, ⟨Ext.refl H, fun b o e => by cases e⟩, hsp, fun v d F' H' L' hp hr _ _ => by
      rw [hp] at hr
      exact hr.bl_inv⟩
    refine codeAny_mono ((F _ hKb (nsK hns)).run callerA [] s₁ H ⟨[.ref a], []⟩ [.ref a] [.ref a] _ rfl hr e0 (hbind s₁ (.ref a)) (.cons rfl .nil) pr) ?_
    intro r s' h
    cases r with
    | error e => exact False.elim h
    | ok fl =>
      cases fl with
      | next => exact False.elim h
      | brk => exact False.elim h
      | cont => exact False.elim h
      | ret u =>
        obtain ⟨v, H', os, bare, un, hok', r', rfl⟩ := h
        obtain rfl : u = Value.bool true := r'
        refine ⟨rfl, OldK.of_keep fun b o e => ?_, os, bare⟩
        cases q : H b with
        | none => exact un.keep b o e q (noin b) (noin b)
        | some u =>
          rcases hO b with z | ⟨ob, xs, z⟩
          · rw [q] at z; cases z
          · obtain ⟨e1, _⟩ := hok b _ z
            obtain ⟨e2, _⟩ := hok' b _ (un.frzs b ob _ z)
            rw [e] at e1; cases e1
            exact e2
  cases hk : KK.K.lookup a with
  | some o =>
    have e := KX a o hk
    rw [ha] at e
    cases e
    refine core (fun _ => none) (fun _ => .inl rfl) (.inr ⟨_, vs.toArray, _, hk, rfl, rfl, rfl, by rw [List.size_toArray, hi.length]; exact hl, by simpa using rv⟩) (fun b u z => by cases z) (fun b z => absurd rfl z) fun z => absurd rfl z
  | none =>
    refine core (fun b => if b = a then some (.frz { cls := .type "list", data := .seq vs.toArray } (.lst (ns.map V.int))) else none) (fun b => ?_) (.inl (.inr ⟨{ cls := .type "list", data := .seq vs.toArray }, if_pos rfl⟩)) (fun b u z => ?_) (fun b z => ?_) fun _ => hk
    · by_cases hb : b = a
      · exact .inr ⟨_, _, if_pos hb⟩
      · exact .inl (if_neg hb)
    · by_cases hb : b = a
      · have z' := (if_pos hb).symm.trans z
        cases z'
        subst hb
        exact ⟨ha, by rw [List.length_map]; exact hl, vs, _, rv, ha⟩
      · have z' := (if_neg hb).symm.trans z
        cases z'
    · by_cases hb : b = a
      · exact hb
      · exact absurd (if_neg hb) z
end Gh
namespace Gh
open PySem PySem.Spec L2
/-- the goal behind the head, by the law's ghost promise; the script's numbers have at most 1048576 bits -/
theorem walk_G {l : PySem.W.OpenLaw} {n k : Nat} {q : Program} {loose : List Str} {XP : (Str → Option Value) → Heap → Prop} {YP : World → Heap → Prop} {d : DefRec} {x : Str}
    (hn : l.most = some n) (hn2 : n ≤ sizeLine) (hdf : d.params.defaults = []) (hr : Room k callerA)
    (F : ∀ (w : World) (mg : Str → Option Value) (fa : Addr) (h : Heap), YP w h → h.Ns mainGlobals mg → mg d.name = some (.ref fa) →
      ∃ (K : PySem.W.Frag) (fd : FuncData) (fs : @FSp), K.In h ∧ (∀ (s : Shared) (u : Value), BindsTo s fd ⟨[u], []⟩ [(x, u)]) ∧
        (∀ ns : List Int, ns.length ≤ n → (∀ z ∈ ns, Builtin.Int.intBits z ≤ 1048576) → fs [.scr (ns.map D.int)] (fun _ => none) fun d _ => d = .bl true) ∧
        ∀ base : Heap, K.In base → base.Ns mainGlobals mg → @FnG ⟨K⟩ l.prog w K mg base k fa fd [x] fs) :
    PySem.W.WalkO q loose XP YP l.row.toRowW d [] (fun f vs => PySem.call f vs) := by
  refine Att.attach_callB hn hdf ?_
  intro w s₀ s₁ mg mb fa o pm cd doc a vs ns G Y ho hd hcd hmg hobj hints hlen hbits hg
  obtain ⟨K, fd, fs, KX, hb, hsp, hF⟩ := F w mg fa _ Y G.T.g hmg
  letI : KK := ⟨K⟩
  exact law_G KX G.T.g G.T.b G.T.builtins G.T.nolimit hg hobj hints (Nat.le_trans hlen hn2) hr hF hb (hsp ns hlen hbits)
end Gh

/-! ghost layer, part 10: calls by name, short words -/
namespace Gh
open PySem PySem.Spec L2
variable [KK]

abbrev BindF (nm : Str) (st : Stmt) (ps : List Str) : Prop := ∀ (kV doc pm : Value) (an : Option Addr) (cdv ct : Value) (us : List Value), us.length = ps.length →
  bindArgs (PySem.W.fnOf nm nm (defArgs st) (defBody st) (defScope st) .none kV doc pm an cdv ct) ⟨us, []⟩ = pure (ps.zip us)
abbrev KindF (nm : Str) (st : Stmt) (ps : List Str) (n : Nat) (ks : List Str) (ix : List Nat) : Prop := ∀ (kV doc pm : Value) (an : Option Addr) (cdv ct : Value) (us ws : List Value), us.length = n → ws.length = ks.length →
  bindArgs (PySem.W.fnOf nm nm (defArgs st) (defBody st) (defScope st) .none kV doc pm an cdv ct) ⟨us, ks.zip ws⟩ = pure (ps.zip (pickN ix (us ++ ws)))
/-- a def that may be called: by the module's name x -/
structure Cal (P : Program) (w : World) (mg : Str → Option Value) (base : Heap) (k : Nat) (x nm : Str) (st : Stmt) (ps : List Str) (fs : FSp) : Prop where
  ex : ∃ (f : Addr) (fd : FuncData), FunD KK.K nm nm (defArgs st) (defBody st) (defScope st) [] [] f fd ∧ FnG P w KK.K mg base k f fd ps fs ∧ mg x = some (.ref f)
theorem Cal.mono {P : Program} {w : World} {mg : Str → Option Value} {base : Heap} {j k : Nat} {x nm : Str} {st : Stmt} {ps : List Str} {fs : FSp} (c : Cal P w mg base j x nm st ps fs) (h : j ≤ k) : Cal P w mg base k x nm st ps fs :=
  let ⟨f, fd, D, F, m⟩ := c.ex; ⟨f, fd, D, F.mono h, m⟩
theorem Cal.imp {P : Program} {w : World} {mg : Str → Option Value} {base : Heap} {k : Nat} {x nm : Str} {st : Stmt} {ps : List Str} {fs fs' : FSp} (c : Cal P w mg base k x nm st ps fs) (hi : ∀ ds L post, fs' ds L post → fs ds L post) : Cal P w mg base k x nm st ps fs' :=
  let ⟨f, fd, D, F, m⟩ := c.ex; ⟨f, fd, D, F.imp hi, m⟩
section
variable {ι : Type} {X : ι → Cx} {k n : Nat} {ps ks : List Str} {fs : FSp} {x nm : Str} {st : Stmt} {p pos : Pos} {e : Expr} {es : List Expr} {kws : List Keyword} {ga gk : GA} {ix : List Nat}
theorem g_c (hK : ∀ q, (X q).K = KK.K) (hG : ∀ q, (X q).A.guards = some []) (hr : ∀ q, Room k (X q).A) (C : ∀ q, Cal (X q).prog (X q).w (X q).mg (X q).base k x nm st ps fs) (bd : BindF nm st ps) (ha : GEa X (e :: es) ga)
    (hg : ∀ q, Gl (X q) x := by intro _; rfl) (hdb : (x == ("__debug__" : Str)) = false := by decide) (he : ∀ q, starEach (e :: es) (X q).env = (false, eval e (X q).env) :: starEach es (X q).env := by intro _; rfl)
    (hpl : ∀ q, (backTo pos (starEach es (X q).env)).any (·.1) = false := by intro _; rfl) : GE X (.Call (.Name x p) (e :: es) [] pos) (gCall fs ga) :=
  let ⟨_, pa, sa⟩ := ha
  ⟨tCl fs _, fun q => by
    obtain ⟨f, fd, D, F, m⟩ := (C q).ex
    rw [← hK q] at F D
    exact pe_G F (hG q) (hr q) (hg q) m D.kp (D.bindsN bd) (pa q) hdb (he q) (hpl q), sim_cl sa⟩
theorem g_ck0 (hK : ∀ q, (X q).K = KK.K) (hG : ∀ q, (X q).A.guards = some []) (hr : ∀ q, Room k (X q).A) (C : ∀ q, Cal (X q).prog (X q).w (X q).mg (X q).base k x nm st ps fs) (kd : KindF nm st ps 0 ks ix) (hkw : GEk X kws gk)
    (hg : ∀ q, Gl (X q) x := by intro _; rfl) (hall : ∀ q, (backToKw pos (keywordEach kws (X q).env)).all (·.1.isSome) = true := by intro _; rfl) (hks : ∀ q, (backToKw pos (keywordEach kws (X q).env)).filterMap (·.1) = ks := by intro _; rfl) (hdb : (x == ("__debug__" : Str)) = false := by decide)
    (hpl : ∀ q, ((backTo pos (starEach [] (X q).env)).any (·.1) || (backToKw pos (keywordEach kws (X q).env)).any (·.1.isNone)) = false := by intro _; rfl) : GE X (.Call (.Name x p) [] kws pos) (gCallK 0 ks.length ix fs gaNil gk) :=
  let ⟨_, pk, sk⟩ := hkw
  ⟨tClK 0 ks.length ix fs tNil _, fun q => by
    obtain ⟨f, fd, D, F, m⟩ := (C q).ex
    rw [← hK q] at F D
    exact pe_GK0 F (hG q) (hr q) (hg q) m D.kp (kbi D kd) (pk q) (hall q) (hks q) hdb (hpl q), sim_clK sim_nil sk⟩
theorem g_ck (hK : ∀ q, (X q).K = KK.K) (hG : ∀ q, (X q).A.guards = some []) (hr : ∀ q, Room k (X q).A) (C : ∀ q, Cal (X q).prog (X q).w (X q).mg (X q).base k x nm st ps fs) (kd : KindF nm st ps n ks ix) (ha : GEa X (e :: es) ga) (hkw : GEk X kws gk)
    (hg : ∀ q, Gl (X q) x := by intro _; rfl) (hall : ∀ q, (backToKw pos (keywordEach kws (X q).env)).all (·.1.isSome) = true := by intro _; rfl) (hks : ∀ q, (backToKw pos (keywordEach kws (X q).env)).filterMap (·.1) = ks := by intro _; rfl) (hdb : (x == ("__debug__" : Str)) = false := by decide)
    (he : ∀ q, starEach (e :: es) (X q).env = (false, eval e (X q).env) :: starEach es (X q).env := by intro _; rfl)
    (hpl : ∀ q, ((backTo pos (starEach (e :: es) (X q).env)).any (·.1) || (backToKw pos (keywordEach kws (X q).env)).any (·.1.isNone)) = false := by intro _; rfl) : GE X (.Call (.Name x p) (e :: es) kws pos) (gCallK n ks.length ix fs ga gk) :=
  let ⟨_, pa, sa⟩ := ha; let ⟨_, pk, sk⟩ := hkw
  ⟨tClK n ks.length ix fs _ _, fun q => by
    obtain ⟨f, fd, D, F, m⟩ := (C q).ex
    rw [← hK q] at F D
    exact pe_GK F (hG q) (hr q) (hg q) m D.kp (kbi D kd) (pa q) (pk q) (hall q) (hks q) hdb (he q) (hpl q), sim_clK sa sk⟩
/-! built-ins by name -/
variable {gs : GA} {a b : Expr}
theorem f_abs (hm : ∀ q, (X q).mg "abs" = none) (ha : GEa X [a] gs) (hg : ∀ q, Gl (X q) "abs" := by intro _; rfl) (he : ∀ q, starEach [a] (X q).env = (false, eval a (X q).env) :: starEach [] (X q).env := by intro _; rfl) :
    GE X (.Call (.Name "abs" p) [a] [] pos) (gCB (c1 (kInt fun i => .int (if i < 0 then -i else i))) gs) := g_callB (fun _ => call_abs) sim_c1I hg hm (by decide +kernel) ha (he := he) (hpl := by intro _; rfl)
theorem f_int (hm : ∀ q, (X q).mg "int" = none) (ha : GEa X [a] gs) (hg : ∀ q, Gl (X q) "int" := by intro _; rfl) (he : ∀ q, starEach [a] (X q).env = (false, eval a (X q).env) :: starEach [] (X q).env := by intro _; rfl) :
    GE X (.Call (.Name "int" p) [a] [] pos) (gCB (c1 kToInt) gs) := g_callTy (fun _ => call_int1) sim_int hg hm (by decide +kernel) ha (he := he) (hpl := by intro _; rfl)
theorem f_len (hK : ∀ q, (X q).K = KK.K) (hm : ∀ q, (X q).mg "len" = none) (ha : GEa X [a] gs) (hg : ∀ q, Gl (X q) "len" := by intro _; rfl) (he : ∀ q, starEach [a] (X q).env = (false, eval a (X q).env) :: starEach [] (X q).env := by intro _; rfl) :
    GE X (.Call (.Name "len" p) [a] [] pos) (gCB (c1 kLen) gs) := g_callB (fun q => by rw [← hK q]; exact call_len_seq) sim_len hg hm (by decide +kernel) ha (he := he) (hpl := by intro _; rfl)
theorem f_listF (hK : ∀ q, (X q).K = KK.K) (hm : ∀ q, (X q).mg "list" = none) (ha : GEa X [a] gs) (hg : ∀ q, Gl (X q) "list" := by intro _; rfl) (he : ∀ q, starEach [a] (X q).env = (false, eval a (X q).env) :: starEach [] (X q).env := by intro _; rfl) :
    GE X (.Call (.Name "list" p) [a] [] pos) (gCB (c1 kListF) gs) := g_callTy (fun q => by rw [← hK q]; exact call_list_of) sim_listF hg hm (by decide +kernel) ha (he := he) (hpl := by intro _; rfl)
theorem f_listO (hK : ∀ q, (X q).K = KK.K) (hm : ∀ q, (X q).mg "list" = none) (ha : GEa X [a] gs) (hg : ∀ q, Gl (X q) "list" := by intro _; rfl) (he : ∀ q, starEach [a] (X q).env = (false, eval a (X q).env) :: starEach [] (X q).env := by intro _; rfl) :
    GE X (.Call (.Name "list" p) [a] [] pos) (gCB (c1 kListO) gs) := g_callTy (fun q => by rw [← hK q]; exact call_list_of) sim_listO hg hm (by decide +kernel) ha (he := he) (hpl := by intro _; rfl)
theorem f_sum (hm : ∀ q, (X q).mg "sum" = none) (ha : GEa X [a] gs) (hg : ∀ q, Gl (X q) "sum" := by intro _; rfl) (he : ∀ q, starEach [a] (X q).env = (false, eval a (X q).env) :: starEach [] (X q).env := by intro _; rfl) (hK : ∀ q, (X q).K = KK.K) (hc : ∀ q, (X q).calm = true) :
    GE X (.Call (.Name "sum" p) [a] [] pos) (gCB (c1 (kInts fun ns L post => post (.int ns.sum) L)) gs) := g_callB (r := rSum KK.K) (fun q => by rw [← hK q]; first | exact call_sum (hc q) | exact cr_sum (hc q) | exact cr_sum | exact call_sum) sim_sum hg hm (by decide +kernel) ha (he := he) (hpl := by intro _; rfl)
theorem f_repr (hK : ∀ q, (X q).K = KK.K) (hG : ∀ q, (X q).A.guards = some []) (hu : ∀ q, (X q).A.units + 64 < cLine) (hm : ∀ q, (X q).mg "repr" = none) (ha : GEa X [a] gs) (hg : ∀ q, Gl (X q) "repr" := by intro _; rfl) (he : ∀ q, starEach [a] (X q).env = (false, eval a (X q).env) :: starEach [] (X q).env := by intro _; rfl) :
    GE X (.Call (.Name "repr" p) [a] [] pos) (gCB (c1 kRepr) gs) := g_callB (r := rRepr KK.K) (fun q => by rw [← hK q]; exact call_reprD (hG q) (hu q)) sim_repr hg hm (by decide +kernel) ha (he := he) (hpl := by intro _; rfl)
theorem f_sort (hK : ∀ q, (X q).K = KK.K) (hm : ∀ q, (X q).mg "sorted" = none) (ha : GEa X [a] gs) (hg : ∀ q, Gl (X q) "sorted" := by intro _; rfl) (he : ∀ q, starEach [a] (X q).env = (false, eval a (X q).env) :: starEach [] (X q).env := by intro _; rfl) :
    GE X (.Call (.Name "sorted" p) [a] [] pos) (gCB (c1 kSort) gs) := g_callB (r := rSortedI KK.K) (fun q => by rw [← hK q]; exact cr_sortedI) sim_sort hg hm (by decide +kernel) ha (he := he) (hpl := by intro _; rfl)
theorem f_sortD (hc : ∀ q, (X q).calm = true) (hm : ∀ q, (X q).mg "sorted" = none) (ha : GEa X [a] gs) (hg : ∀ q, Gl (X q) "sorted" := by intro _; rfl) (he : ∀ q, starEach [a] (X q).env = (false, eval a (X q).env) :: starEach [] (X q).env := by intro _; rfl) :
    GE X (.Call (.Name "sorted" p) [a] [] pos) (gCB (c1 kSortD) gs) := g_callB (fun q => call_sortedDA (hc q)) sim_sortD hg hm (by decide +kernel) ha (he := he) (hpl := by intro _; rfl)
theorem f_min (hK : ∀ q, (X q).K = KK.K) (hc : ∀ q, (X q).calm = true) (hm : ∀ q, (X q).mg "min" = none) (ha : GEa X [a] gs) (hg : ∀ q, Gl (X q) "min" := by intro _; rfl) (he : ∀ q, starEach [a] (X q).env = (false, eval a (X q).env) :: starEach [] (X q).env := by intro _; rfl) :
    GE X (.Call (.Name "min" p) [a] [] pos) (gCB (c1 (kInts fun ns L post => ns ≠ [] ∧ ∀ m, m ∈ ns → (∀ y ∈ ns, m ≤ y) → post (.int m) L)) gs) := g_callB (r := rMin KK.K) (fun q => by rw [← hK q]; exact cr_min (hc q)) sim_min hg hm (by decide +kernel) ha (he := he) (hpl := by intro _; rfl)
theorem f_max (hK : ∀ q, (X q).K = KK.K) (hc : ∀ q, (X q).calm = true) (hm : ∀ q, (X q).mg "max" = none) (ha : GEa X [a] gs) (hg : ∀ q, Gl (X q) "max" := by intro _; rfl) (he : ∀ q, starEach [a] (X q).env = (false, eval a (X q).env) :: starEach [] (X q).env := by intro _; rfl) :
    GE X (.Call (.Name "max" p) [a] [] pos) (gCB (c1 (kInts fun ns L post => ns ≠ [] ∧ ∀ m, m ∈ ns → (∀ y ∈ ns, y ≤ m) → post (.int m) L)) gs) := g_callB (r := rMax KK.K) (fun q => by rw [← hK q]; exact cr_max (hc q)) sim_max hg hm (by decide +kernel) ha (he := he) (hpl := by intro _; rfl)
theorem f_any (hK : ∀ q, (X q).K = KK.K) (hc : ∀ q, (X q).calm = true) (hm : ∀ q, (X q).mg "any" = none) (ha : GEa X [a] gs) (hg : ∀ q, Gl (X q) "any" := by intro _; rfl) (he : ∀ q, starEach [a] (X q).env = (false, eval a (X q).env) :: starEach [] (X q).env := by intro _; rfl) :
    GE X (.Call (.Name "any" p) [a] [] pos) (gCB (c1 (kBools fun ns L post => post (.bl (ns.any id)) L)) gs) := g_callB (r := rAny KK.K) (fun q => by rw [← hK q]; exact cr_any (hc q)) sim_any hg hm (by decide +kernel) ha (he := he) (hpl := by intro _; rfl)
theorem f_all (hK : ∀ q, (X q).K = KK.K) (hc : ∀ q, (X q).calm = true) (hm : ∀ q, (X q).mg "all" = none) (ha : GEa X [a] gs) (hg : ∀ q, Gl (X q) "all" := by intro _; rfl) (he : ∀ q, starEach [a] (X q).env = (false, eval a (X q).env) :: starEach [] (X q).env := by intro _; rfl) :
    GE X (.Call (.Name "all" p) [a] [] pos) (gCB (c1 (kBools fun ns L post => post (.bl (ns.all id)) L)) gs) := g_callB (r := rAll KK.K) (fun q => by rw [← hK q]; exact cr_all (hc q)) sim_all hg hm (by decide +kernel) ha (he := he) (hpl := by intro _; rfl)
theorem f_min2 (hK : ∀ q, (X q).K = KK.K) (hc : ∀ q, (X q).calm = true) (hm : ∀ q, (X q).mg "min" = none) (ha : GEa X [a, b] gs) (hg : ∀ q, Gl (X q) "min" := by intro _; rfl) (he : ∀ q, starEach [a, b] (X q).env = (false, eval a (X q).env) :: starEach [b] (X q).env := by intro _; rfl) (hpl : ∀ q, (backTo pos (starEach [b] (X q).env)).any (·.1) = false := by intro _; rfl) :
    GE X (.Call (.Name "min" p) [a, b] [] pos) (gCB (c2 (kInt2 fun i j => .int (if j < i then j else i))) gs) := g_callB (fun q => call_min2 (hc q)) sim_c2I hg hm (by decide +kernel) ha (he := he) (hpl := hpl)
theorem f_max2 (hK : ∀ q, (X q).K = KK.K) (hc : ∀ q, (X q).calm = true) (hm : ∀ q, (X q).mg "max" = none) (ha : GEa X [a, b] gs) (hg : ∀ q, Gl (X q) "max" := by intro _; rfl) (he : ∀ q, starEach [a, b] (X q).env = (false, eval a (X q).env) :: starEach [b] (X q).env := by intro _; rfl) (hpl : ∀ q, (backTo pos (starEach [b] (X q).env)).any (·.1) = false := by intro _; rfl) :
    GE X (.Call (.Name "max" p) [a, b] [] pos) (gCB (c2 (kInt2 fun i j => .int (if j > i then j else i))) gs) := g_callB (fun q => call_max2 (hc q)) sim_c2I hg hm (by decide +kernel) ha (he := he) (hpl := hpl)
theorem g_idx {o e : Expr} {ga : GT} {gs : GA} {apos cpos : Pos} (hK : ∀ q, (X q).K = KK.K) (ho : GE X o ga) (ha : GEa X [e] gs) (hbase : ∀ q, attributeBase o "index" (X q).env (eval o (X q).env) = eval o (X q).env := by intro _; rfl)
    (hs : ∀ q, starEach [e] (X q).env = (false, eval e (X q).env) :: starEach [] (X q).env := by intro _; rfl)
    (hfew : ∀ q, ((backTo cpos (starEach [e] (X q).env)).all (fun x => !x.1) && (backToKw cpos (keywordEach [] (X q).env)).all (fun x => x.1.isSome)
      && decide (([e] : List Expr).length + ([] : List Keyword).length + (if ([] : List Keyword).isEmpty then 0 else 1) < 30)) = true := by intro _; rfl)
    (hline : (apos.endLine == cpos.line) = true := by rfl) : GE X (.Call (.Attribute o "index" apos) [e] [] cpos) (gLM mIdx ga gs) :=
  g_lm (r := rIndex KK.K) hK PySem.F.slot_list_index PySem.F.type_list_index (fun q => by rw [← hK q]; exact mt_index) sim_idx ho ha hbase hfew hline hs (by intro _; rfl)
end
end Gh

/-! ghost layer, part 11: dict displays of one pair, dict comprehensions -/
namespace Gh
open PySem PySem.Spec L2
variable [KK]
section
variable {ι : Type} {X : ι → Cx} {pos : Pos} {kx vx tg it : Expr} {gk gv ge : GT} {gi : GTi} {gg : GTg} {gt : GB}
def gDs1 (gk gv : GT) : GT := fun Γ L post => ∀ p, L p = none → gk Γ (put L p (.dic [])) fun y L2 => gv Γ L2 fun v L3 => ∃ k, keyD y = some k ∧ L3 p = some (.dic []) ∧ post (.ptr p) (put L3 p (.dic [(k, v)]))
theorem g_ds1 (hk : GE X kx gk) (hv : GE X vx gv) : GE X (.Dict [some kx] [vx] pos) (gDs1 gk gv) :=
  let ⟨_, p1, s1⟩ := hk; let ⟨_, p2, s2⟩ := hv
  ⟨_, fun q => pe_disp (pps_cons (p1 q) (p2 q) pps_nil) rfl rfl (by simp) (by simp), fun σ F H Γ L post Q hs ok hg k => fun p hn =>
    s1 σ F _ Γ _ _ _ hs (ok.newO hn (u := .dK []) (o := .dic []) .nil) (hg p (ok.fresh hn)) fun v dv F1 H1 L1 hp hr e1 o1 => s2 σ F1 H1 Γ L1 _ _ (hs.mono e1) o1 hp fun w dw F2 H2 L2 hp2 hr2 e2 o2 => by
      obtain ⟨key, hkey, h1, h2⟩ := hp2
      obtain ⟨h0, u, w1, w2⟩ := o2.led p _ h1
      obtain ⟨xs, rfl, w3⟩ := w2.dic_inv
      cases w3
      refine ⟨w1, [(key, w)], ?_, by simp, ?_⟩
      · have := hr.key hkey
        rw [this]; rfl
      · exact k (.ref p) (.ptr p) F2 _ _ h2 (.ptr p) (e1.trans e2) (o2.write h1 (u := .dK (mergeK [] [(key, w)])) (o' := .dic [(key, dw)]) (RpK.put (k := key) RpK.nil hr2))⟩
def gDc (gi : GTi) (gg : GTg) (gt : GB) (gk gv : GT) (vs : List Nat) : GT := fun Γ L post => gi Γ L fun ds keep L1 => ∀ Z, L1 Z = none → ∃ I : Nat → List (Key × D) → Led → Prop,
  I 0 [] (put L1 Z (.dic [])) ∧ (∀ i acc L', I i acc L' → keep L' ∧ L' Z = some (.dic acc)) ∧
  (∀ i d acc L', ds[i]? = some d → I i acc L' → gg d (wipeG Γ vs) L' fun Γ2 L2 => gt Γ2 L2 fun b L3 =>
    (b = true → gk Γ2 L3 fun y L4 => gv Γ2 L4 fun v L5 => ∃ k, keyD y = some k ∧ L5 Z = some (.dic acc) ∧ acc.length < sizeLine ∧ I (i + 1) (putD acc k v) (put L5 Z (.dic (putD acc k v)))) ∧ (b = false → I (i + 1) acc L3)) ∧
  ∀ acc L', I ds.length acc L' → post (.ptr Z) L'
theorem sim_dc {w : TI} {t : TG} {tt : TT} {tk te : TE} {vs : List Nat} (hi : SimI w gi) (hg : SimG t gg) (hw : TgW t vs) (ht : SimB tt gt) (hk : SimE tk gk) (he : SimE te gv) : SimE (tDc w t tt tk te vs) (gDc gi gg gt gk gv vs) := fun σ F H Γ L post Q hs ok h k =>
  hi σ F H Γ L _ _ hs ok h fun J F1 H1 L1 ds keep hp W e1 o1 Z hZ => by
    obtain ⟨I, i0, ik, turn, done⟩ := hp Z (o1.fresh hZ)
    refine ⟨fun i m H' => m = ds.length - i ∧ i ≤ ds.length ∧ ∃ F' acc L', Ext F1 F' ∧ Ok F' H' L' ∧ I i acc L', ⟨ds.length, rfl, Nat.zero_le _, F1, [], _, Ext.refl _, o1.newO hZ (u := .dK []) (o := .dic []) .nil, i0⟩, ?_⟩
    rintro i m H' ⟨rfl, hle, F', acc, L', e', o', hI⟩
    obtain ⟨hk0, hZ'⟩ := ik i acc L' hI
    obtain ⟨w1, w2⟩ := W i F' H' L' e' o' hk0
    by_cases hlt : i < ds.length
    · obtain ⟨go, yl⟩ := w1 hlt
      refine .inr ⟨go, fun H2 => i + 1 ≤ ds.length ∧ ∃ F2 acc L2, Ext F1 F2 ∧ Ok F2 H2 L2 ∧ I (i + 1) acc L2, fun H2 hn => ⟨ds.length - (i + 1), by omega, rfl, hn⟩, fun x H2 y => ?_⟩
      obtain ⟨F2, d, hd, rx, e2, o2⟩ := yl x H2 y
      have s2 : Sl F2 (wipe σ vs) (wipeG Γ vs) := (hs.mono (e1.trans (e'.trans e2))).wipe vs
      refine hw x _ _ _ _ (wipe_wipe vs) ?_
      refine hg x d (wipe σ vs) F2 H2 (wipeG Γ vs) L' _ _ rx s2 o2 (turn i d acc L' hd hI) fun σ3 F3 H3 Γ3 L3 hp3 s3 e3 o3 => ?_
      refine ht σ3 F3 H3 Γ3 L3 _ _ s3 o3 hp3 fun b F4 H4 L4 hp4 e4 o4 => ?_
      cases b with
      | true =>
        rw [if_pos rfl]
        refine hk σ3 F4 H4 Γ3 L4 _ _ (s3.mono e4) o4 (hp4.1 rfl) fun v dv F5 H5 L5 hp5 r5 e5 o5 => ?_
        refine he σ3 F5 H5 Γ3 L5 _ _ (s3.mono (e4.trans e5)) o5 hp5 fun v6 dv6 F6 H6 L6 hp6 r6 e6 o6 => ?_
        obtain ⟨key, q0, q1, q2, q3⟩ := hp6
        obtain ⟨z0, u, z1, z2⟩ := o6.led Z _ q1
        obtain ⟨xs, rfl, z3⟩ := z2.dic_inv
        exact ⟨xs, key, r5.key q0, z1, by rw [z3.length]; exact q2, hlt, F6, _, _, e'.trans (e2.trans (e3.trans (e4.trans (e5.trans e6)))), o6.write q1 (u := .dK (putK xs key v6)) (o' := .dic (putD acc key dv6)) (z3.put r6), q3⟩
      | false =>
        rw [if_neg Bool.false_ne_true]
        exact ⟨hlt, F4, acc, L4, e'.trans (e2.trans (e3.trans e4)), o4, hp4.2 rfl⟩
    · have e : i = ds.length := by omega
      subst e
      exact .inl ⟨w2 rfl, k _ (.ptr Z) F' H' L' (done acc L' hI) (.ptr Z) (e1.trans e') o'⟩
theorem g_dc {scope : Scope} {own : List (Str × Nat)} {ifs : List Expr} (hc : ∀ q, (X q).calm = true) (hN : ∀ q, (X q).N.Nodup) (hi : GI X tg it gi) (ok : ∀ q, BlkOk (X q).N (X q).env.scope scope own)
    (hg : GGx (blkX X scope) (own.map (·.2)) tg gg) (ht : GTs1 (blkX X scope) ifs gt) (hk : GE (blkX X scope) kx gk) (he : GE (blkX X scope) vx gv) (hs : ∀ q x, foldedSetIterable it (X q).env x = pure x := by intro _ _; rfl) :
    GE X (.DictComp kx vx [⟨tg, it, ifs, 0⟩] scope pos) (gDc gi gg gt gk gv (own.map (·.2))) :=
  let ⟨_, p1, s1⟩ := hi; let ⟨_, p2, s2, w2, m2⟩ := hg; let ⟨_, p3, s3⟩ := ht; let ⟨_, p4, s4⟩ := hk; let ⟨_, p5, s5⟩ := he
  ⟨_, fun q => pe_dc (hc q) (hN q) (p1 q) (ok q) (fun s H C cl fp => p2 (q, ⟨s, H, C, cl, fp⟩)) (fun s H C cl fp => p3 (q, ⟨s, H, C, cl, fp⟩)) (fun s H C cl fp => p4 (q, ⟨s, H, C, cl, fp⟩)) (fun s H C cl fp => p5 (q, ⟨s, H, C, cl, fp⟩)) (hs q), sim_dc s1 s2 w2 s3 s4 s5⟩
theorem sw_trueD {kx vx : Expr} {gs : List Comprehension} {scope : Scope} {pos py : Pos} {y : Str} {l : Nat} {env : Env} (hk : env.scope.kind = .function) (hy : env.scope.names.lookup y = some .local) (hl : (py.line == pos.line) = true)
    (ha : (scope.names.any fun (n, k) => n == y && (k == .local || k == .cell)) = false) : swapsWith (.DictComp kx vx gs scope pos) (some (.Name y py)) l env = pure true := by
  have ky : env.kindOf y = some .local := hy
  have hb : env.blockKind = .function := by unfold Env.blockKind; rw [hk]; rfl
  unfold swapsWith
  simp only [hb, ky, ha, Expr.pos, hl]
  rfl
theorem ps_setDc {X : Cx} {i : Nat} {y : Str} {py : Pos} {kx vx tg iter : Expr} {ifs : List Expr} {scope : Scope} {own : List (Str × Nat)} {pos spos : Pos} {wi : TI} {g : TG} {tt : TT} {tk tv : TE} (hc : X.calm = true) (hN : X.N.Nodup) (hy : X.N[i]? = some y) (hyl : X.env.scope.names.lookup y = some .local)
    (hsw : swapsWith (.DictComp kx vx [⟨tg, iter, ifs, 0⟩] scope pos) (some (.Name y py)) spos.line X.env = pure true) (hi : PI X tg iter wi) (ok : BlkOk X.N X.env.scope scope own)
    (hg : ∀ (s : Shared) (H : Hp) (C : Addr) (cl : List (Str × Addr)) (fp : List Addr), PG (X.blk s H scope (compEnvC scope cl C X.env) fp) tg g) (ht : ∀ (s : Shared) (H : Hp) (C : Addr) (cl : List (Str × Addr)) (fp : List Addr), PTs (X.blk s H scope (compEnvC scope cl C X.env) fp) ifs tt)
    (hk : ∀ (s : Shared) (H : Hp) (C : Addr) (cl : List (Str × Addr)) (fp : List Addr), PE (X.blk s H scope (compEnvC scope cl C X.env) fp) kx tk)
    (he : ∀ (s : Shared) (H : Hp) (C : Addr) (cl : List (Str × Addr)) (fp : List Addr), PE (X.blk s H scope (compEnvC scope cl C X.env) fp) vx tv) (hs : ∀ x, foldedSetIterable iter X.env x = pure x) :
    PS X (.Assign [.Name y py] (.DictComp kx vx [⟨tg, iter, ifs, 0⟩] scope pos) spos) (tAsg (tDc wi g tt tk tv (own.map (·.2))) (gName i)) := by
  refine ⟨fun pins s σ H D I h => ?_⟩
  rw [exec_Assign_Name_used _ _ _ _ hsw]
  refine wpAny_bind (wpAny_standAt (wpAny_bind ?_))
  show wpAny _ X.A (do let _ ← comprehension (.DictComp kx vx [⟨tg, iter, ifs, 0⟩] scope pos) scope X.env (firstIterPos [⟨tg, iter, ifs, 0⟩] pos) newDict false (eval iter X.env) (some (assign (.Name y py) X.env))) _ _ s
  have h : tDc wi g tt tk tv (own.map (·.2)) σ H (fun x H1 => gName i x σ H1 D.nx) := h
  refine wpAny_bind (thn (dc_core (Qf := fun _ s' => SP X pins D .next s') hc hN I hi ok hg ht hk he hs h fun L C s' m H' I' q hn f => ?_) fun _ s' hq => wpAny_pure (wpAny_pure hq))
  show wpAny _ _ (assign (.Name y py) X.env (.ref L)) _ _ _
  refine wpAny_assign_Name (store_ok2 (v := V.ref L) I' hN hy (.inl hyl) rfl (fun s2 I2 ⟨a, sb, ha⟩ => ?_) (.inr hyl))
  obtain ⟨f0, f1, f2, f3, f4, f5⟩ := f
  have haC : C ≠ a := by
    rcases ha with z | z
    · rw [z]; exact f1
    · exact fun e => f4 y a z e.symm
  refine ⟨m, hn.sameBut sb haC, fun h3 sb3 => ?_⟩
  exact ⟨_, H', I2.turned (t' := s2.toks) (fun b o hb e => (sb3.2 b hb).trans e) f0 f1 f3 f4 f5, q⟩
theorem s_setDc {i : Nat} {y : Str} {py spos : Pos} {scope : Scope} {own : List (Str × Nat)} {ifs : List Expr} (hc : ∀ q, (X q).calm = true) (hN : ∀ q, (X q).N.Nodup) (hy : ∀ q, (X q).N[i]? = some y) (hyl : ∀ q, (X q).env.scope.names.lookup y = some .local)
    (hsw : ∀ q, swapsWith (.DictComp kx vx [⟨tg, it, ifs, 0⟩] scope pos) (some (.Name y py)) spos.line (X q).env = pure true) (hi : GI X tg it gi) (ok : ∀ q, BlkOk (X q).N (X q).env.scope scope own)
    (hg : GGx (blkX X scope) (own.map (·.2)) tg gg) (ht : GTs1 (blkX X scope) ifs gt) (hk : GE (blkX X scope) kx gk) (he : GE (blkX X scope) vx gv) (hs : ∀ q x, foldedSetIterable it (X q).env x = pure x := by intro _ _; rfl) :
    GSt X (.Assign [.Name y py] (.DictComp kx vx [⟨tg, it, ifs, 0⟩] scope pos) spos) (gAsg (gDc gi gg gt gk gv (own.map (·.2))) (gNm i)) :=
  let ⟨_, p1, s1⟩ := hi; let ⟨_, p2, s2, w2, m2⟩ := hg; let ⟨_, p3, s3⟩ := ht; let ⟨_, p4, s4⟩ := hk; let ⟨_, p5, s5⟩ := he
  ⟨_, fun q => ps_setDc (hc q) (hN q) (hy q) (hyl q) (hsw q) (p1 q) (ok q) (fun s H C cl fp => p2 (q, ⟨s, H, C, cl, fp⟩)) (fun s H C cl fp => p3 (q, ⟨s, H, C, cl, fp⟩)) (fun s H C cl fp => p4 (q, ⟨s, H, C, cl, fp⟩)) (fun s H C cl fp => p5 (q, ⟨s, H, C, cl, fp⟩)) (hs q), sim_asg (sim_dc s1 s2 w2 s3 s4 s5) sim_nm⟩
/-! xs.index(y), any data -/
def mIdxD : D → List D → Led → Ps → Prop := fun d vs L post => ∃ (y : D) (e : PyData) (ds : List PyData) (j : Nat) (z : PyData), vs = [y] ∧ Py L d (.list ds) ∧ Py L y e ∧ SeqAt.shaped (.list ds) = true ∧ SeqAt.shaped e = true ∧ ds[j]? = some z ∧ PyData.eqv z e = true ∧
  (∀ (m : Nat) (z' : PyData), m < j → ds[m]? = some z' → PyData.eqv z' e = false) ∧ post (.int (j : Nat)) L
theorem sim_idxD : SimM (rIndexD KK.K) mIdxD := fun x dx xs ds F H L post Q rx rs ok hg k => by
  obtain ⟨y, e, es, j, z, rfl, h1, h2, h3, h4, h5, h6, h7, h8⟩ := hg
  obtain ⟨v, rfl, rv⟩ := rs.one
  have d1 := h1.dp ok rx
  have d2 := h2.dp ok rv
  have hx : ∃ a, x = .ref a := by cases d1; exact ⟨_, rfl⟩
  obtain ⟨a, rfl⟩ := hx
  exact ⟨a, v, e, es, j, z, rfl, rfl, d1, d2, h3, h4, h5, h6, h7, k _ _ F H L h8 (.int _) (Ext.refl F) ok⟩
theorem g_idxD {o e : Expr} {ga : GT} {gs : GA} {apos cpos : Pos} (hK : ∀ q, (X q).K = KK.K) (hu : ∀ q, (X q).A.units + 65 < cLine) (ho : GE X o ga) (ha : GEa X [e] gs) (hbase : ∀ q, attributeBase o "index" (X q).env (eval o (X q).env) = eval o (X q).env := by intro _; rfl)
    (hs : ∀ q, starEach [e] (X q).env = (false, eval e (X q).env) :: starEach [] (X q).env := by intro _; rfl)
    (hfew : ∀ q, ((backTo cpos (starEach [e] (X q).env)).all (fun x => !x.1) && (backToKw cpos (keywordEach [] (X q).env)).all (fun x => x.1.isSome)
      && decide (([e] : List Expr).length + ([] : List Keyword).length + (if ([] : List Keyword).isEmpty then 0 else 1) < 30)) = true := by intro _; rfl)
    (hline : (apos.endLine == cpos.line) = true := by rfl) : GE X (.Call (.Attribute o "index" apos) [e] [] cpos) (gLM mIdxD ga gs) :=
  g_lm (r := rIndexD KK.K) hK PySem.F.slot_list_index PySem.F.type_list_index (fun q => by rw [← hK q]; exact mt_indexD (hu q)) sim_idxD ho ha hbase hfew hline hs (by intro _; rfl)
/-! a, b, c = a list -/
def gTl (n : Nat) (gs : GTs) : GTg := fun d Γ L P => itR d L fun ds => ds.length = n ∧ gs ds Γ L P
theorem sim_tl {n : Nat} {t : TGs} {gs : GTs} (h : SimGs t gs) : SimG (gLst KK.K n t) (gTl n gs) := fun v d σ F H Γ L P Q hr hs ok hg k => by
  obtain ⟨a, xs, ds', e, h1, rs, h2, h3⟩ := itR.out hg hr ok
  exact ⟨a, xs, e, h1, by rw [rs.length]; exact h2, h xs ds' σ F H Γ L P Q rs hs ok h3 k⟩
theorem t_ul {ts : List Expr} {gs : GTs} {k : Nat} {n : Nat} (hc : ∀ q, (X q).calm = true) (hK : ∀ q, (X q).K = KK.K) (h : GGs X ts gs) (hn : ∀ q, (assignEach ts (X q).env).length = n := by intro _; rfl) (hst : ∀ q, (assignEach ts (X q).env).findIdx? (·.1) = none := by intro _; rfl) :
    GG X (.Tuple ts k pos) (gTl n gs) :=
  let ⟨_, p, s⟩ := h
  ⟨gLst KK.K n _, fun q => by rw [← hK q]; exact pg_lst (hc q) (p q) (hn q) (hst q), sim_tl s⟩
end
end Gh

/-! ghost layer, part 12: the same readings in a form that simp takes apart -/
namespace Gh
open PySem PySem.Spec L2
variable [KK]
def onP (d : D) (k : Addr → Prop) : Prop := match d with | .ptr a => k a | _ => False
def onI (d : D) (k : Int → Prop) : Prop := match d with | .int a => k a | _ => False
def onK (d : D) (k : Key → Prop) : Prop := match d with | .int a => k (.inl a) | .str s => k (.inr s) | _ => False
def onD (o : Option O) (k : List (Key × D) → Prop) : Prop := match o with | some (.dic kvs) => k kvs | _ => False
def onL (o : Option O) (k : List D → Prop) : Prop := match o with | some (.lst kvs) => k kvs | _ => False
def onS (o : Option D) (k : D → Prop) : Prop := match o with | some d => k d | _ => False
def onN (o : Option Nat) (k : Nat → Prop) : Prop := match o with | some d => k d | _ => False
theorem onP_ {d : D} {k : Addr → Prop} : (∃ a, d = .ptr a ∧ k a) ↔ onP d k := ⟨fun ⟨a, e, h⟩ => by subst e; exact h, fun h => by cases d with | ptr a => exact ⟨a, rfl, h⟩ | _ => exact h.elim⟩
theorem onI_ {d : D} {k : Int → Prop} : (∃ a, d = .int a ∧ k a) ↔ onI d k := ⟨fun ⟨a, e, h⟩ => by subst e; exact h, fun h => by cases d with | int a => exact ⟨a, rfl, h⟩ | _ => exact h.elim⟩
theorem onK_ {d : D} {k : Key → Prop} : (∃ a, keyD d = some a ∧ k a) ↔ onK d k := ⟨fun ⟨a, e, h⟩ => by cases d <;> cases e <;> exact h, fun h => by cases d <;> first | exact ⟨_, rfl, h⟩ | exact h.elim⟩
theorem onD_ {o : Option O} {k : List (Key × D) → Prop} : (∃ a, o = some (.dic a) ∧ k a) ↔ onD o k := ⟨fun ⟨a, e, h⟩ => by subst e; exact h, fun h => by rcases o with _ | o; exact h.elim; cases o with | dic a => exact ⟨a, rfl, h⟩ | _ => exact h.elim⟩
theorem onL_ {o : Option O} {k : List D → Prop} : (∃ a, o = some (.lst a) ∧ k a) ↔ onL o k := ⟨fun ⟨a, e, h⟩ => by subst e; exact h, fun h => by rcases o with _ | o; exact h.elim; cases o with | lst a => exact ⟨a, rfl, h⟩ | _ => exact h.elim⟩
theorem onN_ {o : Option Nat} {k : Nat → Prop} : (∃ a, o = some a ∧ k a) ↔ onN o k := ⟨fun ⟨a, e, h⟩ => by subst e; exact h, fun h => by rcases o with _ | o; exact h.elim; exact ⟨o, rfl, h⟩⟩
theorem gDPut_ (gd gk gv : GT) : gDPut gd gk gv = fun E Γ L => gv Γ L fun v L1 => gd Γ L1 fun d L2 => gk Γ L2 fun y L3 => onP d fun a => onK y fun k => onD (L3 a) fun kvs => kvs.length < sizeLine ∧ E.nx Γ (put L3 a (.dic (putD kvs k v))) := by
  funext E Γ L
  unfold gDPut
  congr; funext v L1; congr; funext d L2; congr; funext y L3
  refine propext ⟨fun ⟨a, k, kvs, h1, h2, h3, h4⟩ => onP_.1 ⟨a, h1, onK_.1 ⟨k, h2, onD_.1 ⟨kvs, h3, h4⟩⟩⟩, fun h => ?_⟩
  obtain ⟨a, h1, h⟩ := onP_.2 h
  obtain ⟨k, h2, h⟩ := onK_.2 h
  obtain ⟨kvs, h3, h⟩ := onD_.2 h
  exact ⟨a, k, kvs, h1, h2, h3, h⟩
theorem gSubD_ (gd gk : GT) : gSubD gd gk = fun v Γ L P => gd Γ L fun d L2 => gk Γ L2 fun y L3 => onP d fun a => onK y fun k => onD (L3 a) fun kvs => kvs.length < sizeLine ∧ P Γ (put L3 a (.dic (putD kvs k v))) := by
  funext v Γ L P
  unfold gSubD
  congr; funext d L2; congr; funext y L3
  refine propext ⟨fun ⟨a, k, kvs, h1, h2, h3, h4⟩ => onP_.1 ⟨a, h1, onK_.1 ⟨k, h2, onD_.1 ⟨kvs, h3, h4⟩⟩⟩, fun h => ?_⟩
  obtain ⟨a, h1, h⟩ := onP_.2 h
  obtain ⟨k, h2, h⟩ := onK_.2 h
  obtain ⟨kvs, h3, h⟩ := onD_.2 h
  exact ⟨a, k, kvs, h1, h2, h3, h⟩
theorem gSubL_ (gd gk : GT) : gSubL gd gk = fun v Γ L P => gd Γ L fun d L2 => gk Γ L2 fun y L3 => onP d fun a => onI y fun k => onL (L3 a) fun ds => onN (ixN ds.length k) fun j => P Γ (put L3 a (.lst (ds.set j v))) := by
  funext v Γ L P
  unfold gSubL
  congr; funext d L2; congr; funext y L3
  refine propext ⟨fun ⟨a, k, j, ds, h1, h2, h3, h4, h5⟩ => onP_.1 ⟨a, h1, onI_.1 ⟨k, h2, onL_.1 ⟨ds, h3, onN_.1 ⟨j, h4, h5⟩⟩⟩⟩, fun h => ?_⟩
  obtain ⟨a, h1, h⟩ := onP_.2 h
  obtain ⟨k, h2, h⟩ := onI_.2 h
  obtain ⟨ds, h3, h⟩ := onL_.2 h
  obtain ⟨j, h4, h⟩ := onN_.2 h
  exact ⟨a, k, j, ds, h1, h2, h3, h4, h⟩
theorem gAug_ (i : Nat) (f : Int → Int → Int) (ge : GT) : gAug i f ge = fun E Γ L => onS (lk Γ i) fun d0 => onI d0 fun a => ge Γ L fun d L1 => onI d fun b => E.nx (stt Γ i (.int (f a b))) L1 := by
  funext E Γ L
  unfold gAug
  refine propext ⟨fun ⟨a, h1, h2⟩ => ?_, fun h => ?_⟩
  · rw [h1]; exact h2
  · cases e : lk Γ i with
    | none => rw [e] at h; exact h.elim
    | some d => rw [e] at h; cases d with
      | int a => exact ⟨a, rfl, h⟩
      | _ => exact h.elim
theorem gDGet_ (gd gk : GT) : gDGet gd gk = fun Γ L post => gd Γ L fun d L1 => gk Γ L1 fun y L2 => onK y fun k => itK d L2 fun kvs => onS (findD kvs k) fun v => post v L2 := by
  funext Γ L post
  unfold gDGet
  congr; funext d L1; congr; funext y L2
  refine (propext onK_).trans ?_
  congr; funext k; congr; funext kvs
  cases findD kvs k <;> rfl
theorem gDIn_ (neg : Bool) (gk gd : GT) : gDIn neg gk gd = fun Γ L post => gk Γ L fun y L1 => gd Γ L1 fun d L2 => onK y fun k => itK d L2 fun kvs => post (.bl (neg ^^ (findD kvs k).isSome)) L2 := by
  funext Γ L post
  unfold gDIn
  congr; funext d L1; congr; funext y L2
  exact propext onK_
theorem gDs1_ (gk gv : GT) : gDs1 gk gv = fun Γ L post => ∀ p, L p = none → gk Γ (put L p (.dic [])) fun y L2 => gv Γ L2 fun v L3 => onK y fun k => L3 p = some (.dic []) ∧ post (.ptr p) (put L3 p (.dic [(k, v)])) := by
  funext Γ L post
  unfold gDs1
  refine forall_congr fun p => forall_congr fun hp => ?_
  congr; funext y L1; congr; funext v L2
  exact propext onK_
theorem ixN_n {n j : Nat} (hj : j < n) : ixN n (j : Int) = some j := by
  unfold ixN
  rw [if_pos (by omega), if_pos (by omega)]; simp
theorem at0 {α : Type} {x : α} {xs : List α} : atI (x :: xs) 0 = some x := atI_nat (j := 0) rfl
theorem at1 {α : Type} {x y : α} {xs : List α} : atI (x :: y :: xs) 1 = some y := atI_nat (j := 1) rfl
theorem at2 {α : Type} {x y z : α} {xs : List α} : atI (x :: y :: z :: xs) 2 = some z := atI_nat (j := 2) rfl
theorem ix0 {n : Nat} : ixN (n + 1) 0 = some 0 := ixN_n (j := 0) (by omega)
theorem ix1 {n : Nat} : ixN (n + 1 + 1) 1 = some 1 := ixN_n (j := 1) (by omega)
theorem ix2 {n : Nat} : ixN (n + 1 + 1 + 1) 2 = some 2 := ixN_n (j := 2) (by omega)
theorem put_id {L : Led} {q : Addr} {o : O} (h : L q = some o) : put L q o = L := by
  funext x
  by_cases e : x = q
  · subst e; rw [put_same, h]
  · rw [put_ne e]
theorem FnG.never {P : Program} {w : World} {K : PySem.W.Frag} {mg : Str → Option Value} {base : Heap} {k : Nat} {f : Addr} {fd : FuncData} {ps : List Str} {fs : FSp} (no : ∀ ds L post, ¬ fs ds L post) : FnG P w K mg base k f fd ps fs :=
  ⟨fun ds L post h => absurd h (no ds L post), fun A outer s H args us vs Q hg hr e b v ⟨F, ds, L, post, h1, h2, h3, h4⟩ => absurd h3 (no ds L post)⟩
/-- what follows, named -/
theorem seq_gen {a b : GS} {E : GEnds} {Γ : Gm} {L : Led} (h : ∀ R : Gm → Led → Prop, (∀ Γ' L', b E Γ' L' → R Γ' L') → a { E with nx := R } Γ L) : gSq a b E Γ L := h (b E) (fun _ _ h => h)
end Gh

/-! the defs of the row: scopes, how arguments bind (printed by gen.py) -/
namespace K06
open PySem PySem.Spec L2 Gh
def topS (i : Nat) : Stmt := PySem.Challenge.pw_fewproducts_k06_whole_products_of_all_si.main.body.getD i (.Pass ⟨0, 0, 0, 0⟩)
theorem hu_of2 {k : Nat} {A : Around} (h : Room k A) : A.units + 65 < cLine := by have := h.un; omega
theorem hu_of {k : Nat} {A : Around} (h : Room k A) : A.units + 1 < cLine := by have := h.units; omega
abbrev s_sizes_of : Stmt := topS 1
theorem sc_sizes_of : FnScope ["n", "least", "found", "ahead", "own"] ["n", "least"] (defScope s_sizes_of) := ⟨rfl, rfl, rfl, by decide +kernel, rfl, by decide +kernel, by decide +kernel⟩
theorem bd_sizes_of : BindF "sizes_of" s_sizes_of ["n", "least"] := fun _ _ _ _ _ _ us hl => match us, hl with | [_, _], _ => rfl
abbrev s_made_by : Stmt := topS 3
theorem sc_made_by : FnScope ["n", "least", "products", "sums", "own", "k", "m"] ["n", "least"] (defScope s_made_by) := ⟨rfl, rfl, rfl, by decide +kernel, rfl, by decide +kernel, by decide +kernel⟩
theorem bd_made_by : BindF "made_by" s_made_by ["n", "least"] := fun _ _ _ _ _ _ us hl => match us, hl with | [_, _], _ => rfl
abbrev s_products_made : Stmt := topS 4
theorem sc_products_made : FnScope ["n", "least"] ["n", "least"] (defScope s_products_made) := ⟨rfl, rfl, rfl, by decide +kernel, rfl, by decide +kernel, by decide +kernel⟩
theorem bd_products_made : BindF "products_made" s_products_made ["n", "least"] := fun _ _ _ _ _ _ us hl => match us, hl with | [_, _], _ => rfl
abbrev s_strip_count : Stmt := topS 6
theorem sc_strip_count : FnScope ["l", "m", "n"] ["l", "m", "n"] (defScope s_strip_count) := ⟨rfl, rfl, rfl, by decide +kernel, rfl, by decide +kernel, by decide +kernel⟩
theorem bd_strip_count : BindF "strip_count" s_strip_count ["l", "m", "n"] := fun _ _ _ _ _ _ us hl => match us, hl with | [_, _, _], _ => rfl
abbrev s_by_halves_count : Stmt := topS 8
theorem sc_by_halves_count : FnScope ["r", "n", "s", "half"] ["r", "n", "s"] (defScope s_by_halves_count) := ⟨rfl, rfl, rfl, by decide +kernel, rfl, by decide +kernel, by decide +kernel⟩
theorem bd_by_halves_count : BindF "by_halves_count" s_by_halves_count ["r", "n", "s"] := fun _ _ _ _ _ _ us hl => match us, hl with | [_, _, _], _ => rfl
abbrev s_is_cheaper : Stmt := topS 9
theorem sc_is_cheaper : FnScope ["r", "n", "s"] ["r", "n", "s"] (defScope s_is_cheaper) := ⟨rfl, rfl, rfl, by decide +kernel, rfl, by decide +kernel, by decide +kernel⟩
theorem bd_is_cheaper : BindF "is_cheaper" s_is_cheaper ["r", "n", "s"] := fun _ _ _ _ _ _ us hl => match us, hl with | [_, _, _], _ => rfl
abbrev s_halves_count : Stmt := topS 11
theorem sc_halves_count : FnScope ["n", "low", "high", "levels", "known", "ahead", "number"] ["n"] (defScope s_halves_count) := ⟨rfl, rfl, rfl, by decide +kernel, rfl, by decide +kernel, by decide +kernel⟩
theorem bd_halves_count : BindF "halves_count" s_halves_count ["n"] := fun _ _ _ _ _ _ us hl => match us, hl with | [_], _ => rfl
abbrev s_parts_of : Stmt := topS 12
theorem sc_parts_of : FnScope ["n", "found"] ["n"] (defScope s_parts_of) := ⟨rfl, rfl, rfl, by decide +kernel, rfl, by decide +kernel, by decide +kernel⟩
theorem bd_parts_of : BindF "parts_of" s_parts_of ["n"] := fun _ _ _ _ _ _ us hl => match us, hl with | [_], _ => rfl
abbrev s_split_counts : Stmt := topS 13
theorem sc_split_counts : FnScope ["n", "sizes", "ahead", "size", "word", "parts", "part", "often", "counts", "ways"] ["n"] (defScope s_split_counts) := ⟨rfl, rfl, rfl, by decide +kernel, rfl, by decide +kernel, by decide +kernel⟩
theorem bd_split_counts : BindF "split_counts" s_split_counts ["n"] := fun _ _ _ _ _ _ us hl => match us, hl with | [_], _ => rfl
abbrev s_split_count : Stmt := topS 14
theorem sc_split_count : FnScope ["n"] ["n"] (defScope s_split_count) := ⟨rfl, rfl, rfl, by decide +kernel, rfl, by decide +kernel, by decide +kernel⟩
theorem bd_split_count : BindF "split_count" s_split_count ["n"] := fun _ _ _ _ _ _ us hl => match us, hl with | [_], _ => rfl
abbrev s_split_way : Stmt := topS 15
theorem sc_split_way : FnScope ["n", "counts", "word", "parts", "part", "often"] ["n"] (defScope s_split_way) := ⟨rfl, rfl, rfl, by decide +kernel, rfl, by decide +kernel, by decide +kernel⟩
theorem bd_split_way : BindF "split_way" s_split_way ["n"] := fun _ _ _ _ _ _ us hl => match us, hl with | [_], _ => rfl
abbrev s_sizes_of_2 : Stmt := topS 17
theorem sc_sizes_of_2 : FnScope ["base", "n", "found"] ["base", "n"] (defScope s_sizes_of_2) := ⟨rfl, rfl, rfl, by decide +kernel, rfl, by decide +kernel, by decide +kernel⟩
theorem bd_sizes_of_2 : BindF "sizes_of" s_sizes_of_2 ["base", "n"] := fun _ _ _ _ _ _ us hl => match us, hl with | [_, _], _ => rfl
abbrev s_power_of : Stmt := topS 19
theorem sc_power_of : FnScope ["number", "often", "found", "turn"] ["number", "often"] (defScope s_power_of) := ⟨rfl, rfl, rfl, by decide +kernel, rfl, by decide +kernel, by decide +kernel⟩
theorem bd_power_of : BindF "power_of" s_power_of ["number", "often"] := fun _ _ _ _ _ _ us hl => match us, hl with | [_, _], _ => rfl
abbrev s_products_by : Stmt := topS 20
theorem sc_products_by : FnScope ["many", "base", "n"] ["many", "base", "n"] (defScope s_products_by) := ⟨rfl, rfl, rfl, by decide +kernel, rfl, by decide +kernel, by decide +kernel⟩
theorem bd_products_by : BindF "products_by" s_products_by ["many", "base", "n"] := fun _ _ _ _ _ _ us hl => match us, hl with | [_, _, _], _ => rfl
abbrev s_products_mixed : Stmt := topS 21
theorem sc_products_mixed : FnScope ["many", "base", "power", "n", "found", "size"] ["many", "base", "power", "n"] (defScope s_products_mixed) := ⟨rfl, rfl, rfl, by decide +kernel, rfl, by decide +kernel, by decide +kernel⟩
theorem bd_products_mixed : BindF "products_mixed" s_products_mixed ["many", "base", "power", "n"] := fun _ _ _ _ _ _ us hl => match us, hl with | [_, _, _, _], _ => rfl
abbrev s_cheaper_from : Stmt := topS 22
theorem sc_cheaper_from : FnScope ["many", "base", "power", "n"] ["many", "base", "power"] (defScope s_cheaper_from) := ⟨rfl, rfl, rfl, by decide +kernel, rfl, by decide +kernel, by decide +kernel⟩
theorem bd_cheaper_from : BindF "cheaper_from" s_cheaper_from ["many", "base", "power"] := fun _ _ _ _ _ _ us hl => match us, hl with | [_, _, _], _ => rfl
abbrev s__law_own_bag : Stmt := topS 24
theorem sc__law_own_bag : FnScope ["script", "cells", "mixed", "cell"] ["script"] (defScope s__law_own_bag) := ⟨rfl, rfl, rfl, by decide +kernel, rfl, by decide +kernel, by decide +kernel⟩
theorem bd__law_own_bag : BindF "_law_own_bag" s__law_own_bag ["script"] := fun _ _ _ _ _ _ us hl => match us, hl with | [_], _ => rfl
abbrev s__law_draw : Stmt := topS 25
theorem sc__law_draw : FnScope ["bag", "below", "turn", "cell", "found"] ["bag", "below"] (defScope s__law_draw) := ⟨rfl, rfl, rfl, by decide +kernel, rfl, by decide +kernel, by decide +kernel⟩
theorem bd__law_draw : BindF "_law_draw" s__law_draw ["bag", "below"] := fun _ _ _ _ _ _ us hl => match us, hl with | [_, _], _ => rfl
abbrev s__law_pick : Stmt := topS 26
theorem sc__law_pick : FnScope ["bag", "some"] ["bag", "some"] (defScope s__law_pick) := ⟨rfl, rfl, rfl, by decide +kernel, rfl, by decide +kernel, by decide +kernel⟩
theorem bd__law_pick : BindF "_law_pick" s__law_pick ["bag", "some"] := fun _ _ _ _ _ _ us hl => match us, hl with | [_, _], _ => rfl
abbrev s__law_same : Stmt := topS 27
theorem sc__law_same : FnScope ["told", "due"] ["told", "due"] (defScope s__law_same) := ⟨rfl, rfl, rfl, by decide +kernel, rfl, by decide +kernel, by decide +kernel⟩
theorem bd__law_same : BindF "_law_same" s__law_same ["told", "due"] := fun _ _ _ _ _ _ us hl => match us, hl with | [_, _], _ => rfl
abbrev s__law_up : Stmt := topS 28
theorem sc__law_up : FnScope ["n", "by"] ["n", "by"] (defScope s__law_up) := ⟨rfl, rfl, rfl, by decide +kernel, rfl, by decide +kernel, by decide +kernel⟩
theorem bd__law_up : BindF "_law_up" s__law_up ["n", "by"] := fun _ _ _ _ _ _ us hl => match us, hl with | [_, _], _ => rfl
abbrev s__law_by : Stmt := topS 29
theorem sc__law_by : FnScope ["many", "base", "n", "found", "turn"] ["many", "base", "n"] (defScope s__law_by) := ⟨rfl, rfl, rfl, by decide +kernel, rfl, by decide +kernel, by decide +kernel⟩
theorem bd__law_by : BindF "_law_by" s__law_by ["many", "base", "n"] := fun _ _ _ _ _ _ us hl => match us, hl with | [_, _, _], _ => rfl
abbrev s__law_power : Stmt := topS 30
theorem sc__law_power : FnScope ["n", "power"] ["n", "power"] (defScope s__law_power) := ⟨rfl, rfl, rfl, by decide +kernel, rfl, by decide +kernel, by decide +kernel⟩
theorem bd__law_power : BindF "_law_power" s__law_power ["n", "power"] := fun _ _ _ _ _ _ us hl => match us, hl with | [_, _], _ => rfl
abbrev s__law_mixed : Stmt := topS 31
theorem sc__law_mixed : FnScope ["many", "base", "power", "n", "sizes", "turn", "found", "size"] ["many", "base", "power", "n"] (defScope s__law_mixed) := ⟨rfl, rfl, rfl, by decide +kernel, rfl, by decide +kernel, by decide +kernel⟩
theorem bd__law_mixed : BindF "_law_mixed" s__law_mixed ["many", "base", "power", "n"] := fun _ _ _ _ _ _ us hl => match us, hl with | [_, _, _, _], _ => rfl
abbrev s__law_halves : Stmt := topS 32
theorem sc__law_halves : FnScope ["n", "known"] ["n", "known"] (defScope s__law_halves) := ⟨rfl, rfl, rfl, by decide +kernel, rfl, by decide +kernel, by decide +kernel⟩
theorem bd__law_halves : BindF "_law_halves" s__law_halves ["n", "known"] := fun _ _ _ _ _ _ us hl => match us, hl with | [_, _], _ => rfl
abbrev s__law_three_ways : Stmt := topS 33
theorem sc__law_three_ways : FnScope ["n", "known", "halves"] ["n", "known"] (defScope s__law_three_ways) := ⟨rfl, rfl, rfl, by decide +kernel, rfl, by decide +kernel, by decide +kernel⟩
theorem bd__law_three_ways : BindF "_law_three_ways" s__law_three_ways ["n", "known"] := fun _ _ _ _ _ _ us hl => match us, hl with | [_, _], _ => rfl
abbrev s__law_split : Stmt := topS 34
theorem sc__law_split : FnScope ["n", "known", "many"] ["n", "known"] (defScope s__law_split) := ⟨rfl, rfl, rfl, by decide +kernel, rfl, by decide +kernel, by decide +kernel⟩
theorem bd__law_split : BindF "_law_split" s__law_split ["n", "known"] := fun _ _ _ _ _ _ us hl => match us, hl with | [_, _], _ => rfl
abbrev s__law_size : Stmt := topS 35
theorem sc__law_size : FnScope ["bag", "base", "most", "way", "n", "turn"] ["bag", "base", "most"] (defScope s__law_size) := ⟨rfl, rfl, rfl, by decide +kernel, rfl, by decide +kernel, by decide +kernel⟩
theorem bd__law_size : BindF "_law_size" s__law_size ["bag", "base", "most"] := fun _ _ _ _ _ _ us hl => match us, hl with | [_, _, _], _ => rfl
abbrev s__law_are_products_right : Stmt := topS 36
theorem sc__law_are_products_right : FnScope ["bag", "is_named", "many", "base", "power", "n", "told", "due", "size", "least", "is_less"] ["bag", "is_named"] (defScope s__law_are_products_right) := ⟨rfl, rfl, rfl, by decide +kernel, rfl, by decide +kernel, by decide +kernel⟩
theorem bd__law_are_products_right : BindF "_law_are_products_right" s__law_are_products_right ["bag", "is_named"] := fun _ _ _ _ _ _ us hl => match us, hl with | [_, _], _ => rfl
abbrev s__law_are_halves_right : Stmt := topS 37
theorem sc__law_are_halves_right : FnScope ["bag", "is_named", "n", "told", "due", "size", "two", "turn", "own"] ["bag", "is_named"] (defScope s__law_are_halves_right) := ⟨rfl, rfl, rfl, by decide +kernel, rfl, by decide +kernel, by decide +kernel⟩
theorem bd__law_are_halves_right : BindF "_law_are_halves_right" s__law_are_halves_right ["bag", "is_named"] := fun _ _ _ _ _ _ us hl => match us, hl with | [_, _], _ => rfl
abbrev s__law_are_splits_right : Stmt := topS 38
theorem sc__law_are_splits_right : FnScope ["bag", "is_named", "n", "known", "ahead", "size", "due", "way", "told"] ["bag", "is_named"] (defScope s__law_are_splits_right) := ⟨rfl, rfl, rfl, by decide +kernel, rfl, by decide +kernel, by decide +kernel⟩
theorem bd__law_are_splits_right : BindF "_law_are_splits_right" s__law_are_splits_right ["bag", "is_named"] := fun _ _ _ _ _ _ us hl => match us, hl with | [_, _], _ => rfl
abbrev s__law_are_strips_right : Stmt := topS 39
theorem sc__law_are_strips_right : FnScope ["bag", "is_named", "l", "m", "n", "due", "told", "even", "h", "many", "is_less", "turn"] ["bag", "is_named"] (defScope s__law_are_strips_right) := ⟨rfl, rfl, rfl, by decide +kernel, rfl, by decide +kernel, by decide +kernel⟩
theorem bd__law_are_strips_right : BindF "_law_are_strips_right" s__law_are_strips_right ["bag", "is_named"] := fun _ _ _ _ _ _ us hl => match us, hl with | [_, _], _ => rfl
abbrev s_law : Stmt := topS 40
theorem sc_law : FnScope ["script", "bag", "is_named", "turn"] ["script"] (defScope s_law) := ⟨rfl, rfl, rfl, by decide +kernel, rfl, by decide +kernel, by decide +kernel⟩
theorem bd_law : BindF "law" s_law ["script"] := fun _ _ _ _ _ _ us hl => match us, hl with | [_], _ => rfl
theorem kb_products_by_0_2_1_0 : KindF "products_by" s_products_by ["many", "base", "n"] 0 ["n", "base", "many"] [2, 1, 0] := fun _ _ _ _ _ _ us ws h1 h2 => match us, ws, h1, h2 with | [], [_, _, _], _, _ => rfl
theorem kb_products_mixed_0_3_2_1_0 : KindF "products_mixed" s_products_mixed ["many", "base", "power", "n"] 0 ["n", "power", "base", "many"] [3, 2, 1, 0] := fun _ _ _ _ _ _ us ws h1 h2 => match us, ws, h1, h2 with | [], [_, _, _, _], _, _ => rfl
theorem kb_cheaper_from_0_2_1_0 : KindF "cheaper_from" s_cheaper_from ["many", "base", "power"] 0 ["power", "base", "many"] [2, 1, 0] := fun _ _ _ _ _ _ us ws h1 h2 => match us, ws, h1, h2 with | [], [_, _, _], _, _ => rfl
theorem kb_halves_count_0_0 : KindF "halves_count" s_halves_count ["n"] 0 ["n"] [0] := fun _ _ _ _ _ _ us ws h1 h2 => match us, ws, h1, h2 with | [], [_], _, _ => rfl
theorem kb_products_made_0_1_0 : KindF "products_made" s_products_made ["n", "least"] 0 ["least", "n"] [1, 0] := fun _ _ _ _ _ _ us ws h1 h2 => match us, ws, h1, h2 with | [], [_, _], _, _ => rfl
theorem kb_split_count_0_0 : KindF "split_count" s_split_count ["n"] 0 ["n"] [0] := fun _ _ _ _ _ _ us ws h1 h2 => match us, ws, h1, h2 with | [], [_], _, _ => rfl
theorem kb_products_mixed_0_0_1_2_3 : KindF "products_mixed" s_products_mixed ["many", "base", "power", "n"] 0 ["many", "base", "power", "n"] [0, 1, 2, 3] := fun _ _ _ _ _ _ us ws h1 h2 => match us, ws, h1, h2 with | [], [_, _, _, _], _, _ => rfl
theorem kb_split_way_0_0 : KindF "split_way" s_split_way ["n"] 0 ["n"] [0] := fun _ _ _ _ _ _ us ws h1 h2 => match us, ws, h1, h2 with | [], [_], _, _ => rfl
theorem kb_strip_count_0_2_1_0 : KindF "strip_count" s_strip_count ["l", "m", "n"] 0 ["n", "m", "l"] [2, 1, 0] := fun _ _ _ _ _ _ us ws h1 h2 => match us, ws, h1, h2 with | [], [_, _, _], _, _ => rfl
theorem kb_by_halves_count_0_2_1_0 : KindF "by_halves_count" s_by_halves_count ["r", "n", "s"] 0 ["s", "n", "r"] [2, 1, 0] := fun _ _ _ _ _ _ us ws h1 h2 => match us, ws, h1, h2 with | [], [_, _, _], _, _ => rfl
theorem kb_is_cheaper_0_2_1_0 : KindF "is_cheaper" s_is_cheaper ["r", "n", "s"] 0 ["s", "n", "r"] [2, 1, 0] := fun _ _ _ _ _ _ us ws h1 h2 => match us, ws, h1, h2 with | [], [_, _, _], _, _ => rfl
end K06

namespace K06
open PySem PySem.Spec L2 Gh
/-- upper part -/
def up (b n : Nat) : Nat := (n + b - 1) / b
theorem up_cast {b n : Nat} (h : 1 ≤ b) : ((n : Int) + b - 1) / b = ((up b n : Nat) : Int) := by
  unfold up
  rw [Int.natCast_ediv, show ((n + b - 1 : Nat) : Int) = (n : Int) + b - 1 by omega]
theorem up_lt {b n : Nat} (h : 2 ≤ b) (hn : 1 < n) : up b n < n := by
  unfold up
  rw [Nat.div_lt_iff_lt_mul (by omega)]
  have : n * 2 ≤ n * b := Nat.mul_le_mul_left n h
  have h3 : 2 * b ≤ n * b := Nat.mul_le_mul_right b hn
  omega
theorem up_pos {b n : Nat} (h : 1 ≤ b) (hn : 1 ≤ n) : 1 ≤ up b n := by
  unfold up
  exact (Nat.le_div_iff_mul_le (by omega)).2 (by omega)
theorem up_mono {b n m : Nat} (h : n ≤ m) : up b n ≤ up b m := Nat.div_le_div_right (by omega)
theorem up_le {b n : Nat} (h : 1 ≤ b) (hn : 1 ≤ n) : up b n ≤ n := by
  rcases Nat.lt_or_ge b 2 with q | q
  · have : b = 1 := by omega
    subst this; unfold up; omega
  · rcases Nat.lt_or_ge 1 n with z | z
    · exact Nat.le_of_lt (up_lt q z)
    · have : n = 1 := by omega
      subst this; unfold up
      rw [show 1 + b - 1 = b by omega, Nat.div_self (by omega)]
      omega
theorem log_small {n : Nat} (h : n < 2 ^ 64) : n.log2 < 9000 := by
  by_cases e : n = 0
  · subst e; decide
  · have := (Nat.log2_lt e).2 h
    omega
theorem divOk {i j : Int} (h : 0 < j) (h2 : j < 2 ^ 64) : CDivW i j := ⟨h, log_small (by omega)⟩
theorem mulL {i j : Int} (h : 0 ≤ i) (h2 : i < 2 ^ 64) : CMul i j := .inl ⟨by omega, h2⟩
theorem mulR {i j : Int} (h : 0 ≤ j) (h2 : j < 2 ^ 64) : CMul i j := .inr ⟨by omega, h2⟩
theorem rngD_length (lo : Int) (n : Nat) : (rngD lo n).length = n := by unfold rngD; rw [List.length_map, List.length_range]
theorem rngD_get {lo : Int} {n i : Nat} {d : D} (h : (rngD lo n)[i]? = some d) : i < n ∧ d = .int (lo + i) := by
  unfold rngD at h
  rw [List.getElem?_map] at h
  by_cases q : i < n
  · rw [List.getElem?_range q] at h
    cases h
    exact ⟨q, rfl⟩
  · rw [List.getElem?_eq_none (by rw [List.length_range]; omega)] at h
    cases h
def sc (l m n : Nat) : Nat := l * m * n - l / 2 * (m / 2) * (n / 2)
theorem sc_cast (l m n : Nat) : ((sc l m n : Nat) : Int) = (l : Int) * m * n - l / 2 * (m / 2) * (n / 2) := by
  unfold sc
  have h1 : l / 2 * (m / 2) ≤ l * m := Nat.mul_le_mul (Nat.div_le_self _ _) (Nat.div_le_self _ _)
  have h2 : l / 2 * (m / 2) * (n / 2) ≤ l * m * n := Nat.mul_le_mul h1 (Nat.div_le_self _ _)
  rw [Int.natCast_sub h2]
  simp only [Int.natCast_mul, Int.natCast_ediv]; rfl
def bh (r n s : Nat) : Nat := r * s * (n - n / 2) + n / 2 * (r + s)
theorem bh_cast (r n s : Nat) : ((bh r n s : Nat) : Int) = (r : Int) * s * (n - n / 2) + n / 2 * (r + s) := by
  unfold bh
  rw [Int.natCast_add, Int.natCast_mul, Int.natCast_mul, Int.natCast_mul, Int.natCast_sub (Nat.div_le_self _ _)]
  simp only [Int.natCast_add, Int.natCast_ediv]; rfl
variable [KK]
section
variable {P : Program} {w : World} {mg : Str → Option Value} {base : Heap}
theorem rt_in {post : Ps} {d : D} {L : Led} (h : post d L) : (endG post).rt d L := ⟨L, Sub.refl L, h⟩
def fs__law_up : FSp := fun ds L post => ∃ n b : Nat, ds = [.int n, .int b] ∧ 1 ≤ b ∧ b < 2 ^ 64 ∧ post (.int (up b n : Nat)) L
set_option maxHeartbeats 0 in
theorem ok__law_up   (i : ∃ (f : Addr) (fd : FuncData), FunD KK.K "_law_up" "_law_up" (defArgs s__law_up) (defBody s__law_up) (defScope s__law_up) [] [] f fd ∧ mg "_law_up" = some (.ref f)) : Cal P w mg base 1 "_law_up" "_law_up" s__law_up ["n", "by"] fs__law_up := by
  obtain ⟨f, fd, DD, hm⟩ := i
  refine ⟨f, fd, DD, fn_G (k := 0) DD sc__law_up ?len (fun cdv A outer s H hG hR => (s_one (s_ret (g_div (g_sub (g_add (gv 0) (gv 1)) g_int) (gv 1))))) ?main, hm⟩
  case len => intro ds L post h; unfold fs__law_up at h; repeat (first | (obtain ⟨rfl, _⟩ := h; rfl) | (obtain ⟨_, h⟩ := h))
  case main =>
    rintro ds L post ⟨n, b, rfl, h1, h2, hp⟩
    refine ⟨divOk (by omega) (by omega), ?_⟩
    exact rt_in (by show post (.int (((n : Int) + b - 1) / b)) L; rw [up_cast h1]; exact hp)
def fs__law_power : FSp := fun ds L post => ∃ n p : Nat, ds = [.int n, .int p] ∧ n < 2 ^ 64 ∧ (p = 2 ∨ p = 3) ∧ post (.int (n ^ p : Nat)) L
set_option maxHeartbeats 0 in
theorem ok__law_power   (i : ∃ (f : Addr) (fd : FuncData), FunD KK.K "_law_power" "_law_power" (defArgs s__law_power) (defBody s__law_power) (defScope s__law_power) [] [] f fd ∧ mg "_law_power" = some (.ref f)) : Cal P w mg base 1 "_law_power" "_law_power" s__law_power ["n", "power"] fs__law_power := by
  obtain ⟨f, fd, DD, hm⟩ := i
  refine ⟨f, fd, DD, fn_G (k := 0) DD sc__law_power ?len (fun cdv A outer s H hG hR => (s_one (s_ret (g_ite (b_eq (gv 1) g_int) (g_mul (gv 0) (gv 0)) (g_mul (g_mul (gv 0) (gv 0)) (gv 0)))))) ?main, hm⟩
  case len => intro ds L post h; unfold fs__law_power at h; repeat (first | (obtain ⟨rfl, _⟩ := h; rfl) | (obtain ⟨_, h⟩ := h))
  case main =>
    rintro ds L post ⟨n, p, rfl, h1, h2, hp⟩
    simp only [gSq, gNext, gRet, gRetN, gIfS, gAsg, gPar, gPar3, gDrop, gIfE, gTst, gNot, gAnd, gOr, gAndV, gOrV, gNotV, g2, gVar, gC, gNm, gTp, gTl, gGn, gGc, rN, rM, rQ, rNn, gaNil, gaCons, gTupD, gLstF, gLstO, gCall, gCallK, gCB, Gh.c1, Gh.c2, kInt, kInt2, kToInt, gNeg, lk, stt, startG, List.map, List.replicate, List.length, gAug_, dInt, List.cons_append, List.nil_append, gBreak, gCont, gDPut_, gSubD_, gSubL_, gDGet_, gDIn_, onP, onI, onK, onD, onL, onS, onN, gLM, gLM0, gSlF, gSlO, gNo, gPt, kLen, gNewK, gDs1_, Gh.rIxD, itS, itR, itL, itK, mApp, mExt, mPop, mApp1, mExt1, keyD, isLs, gFor, gWh, giL, giT, giR1, giR2, gRvF, gLrF, gLrO, kListF, kListO, gLc, gYes, gDc, wipeG, wipeG.stn, put_same, put_put, atI_last, at0, at1, at2, ix0, ix1, ix2, List.set_cons_zero, List.set_cons_succ, Option.some.injEq, Gh.O.lst.injEq, Gh.O.dic.injEq, Gh.D.ptr.injEq, exists_eq_left', exists_eq_left, exists_eq', exists_eq, true_and, and_true, Bool.false_xor, Bool.true_xor, decide_eq_true_eq, decide_eq_false_iff_not]
    rcases h2 with rfl | rfl
    · refine ⟨fun _ => ⟨mulL (by omega) (by omega), rt_in ?_⟩, fun h => absurd rfl h⟩
      rw [Nat.pow_two, Int.natCast_mul] at hp
      exact hp
    · refine ⟨fun h => absurd h (by decide), fun _ => ⟨mulL (by omega) (by omega), mulR (by omega) (by omega), rt_in ?_⟩⟩
      rw [Nat.pow_succ, Nat.pow_two, Int.natCast_mul, Int.natCast_mul] at hp
      exact hp
def fs_power_of : FSp := fun ds L post => ∃ n p : Nat, ds = [.int n, .int p] ∧ n < 2 ^ 64 ∧ p < 2 ^ 62 ∧ post (.int (n ^ p : Nat)) L
set_option maxHeartbeats 0 in
theorem ok_power_of (m_range : mg "range" = none)  (i : ∃ (f : Addr) (fd : FuncData), FunD KK.K "power_of" "power_of" (defArgs s_power_of) (defBody s_power_of) (defScope s_power_of) [] [] f fd ∧ mg "power_of" = some (.ref f)) : Cal P w mg base 1 "power_of" "power_of" s_power_of ["number", "often"] fs_power_of := by
  obtain ⟨f, fd, DD, hm⟩ := i
  refine ⟨f, fd, DD, fn_G (k := 0) DD sc_power_of ?len (fun cdv A outer s H hG hR => (s_cons (s_set (n := 2) (fun _ => sc_power_of.nd) (fun _ => rfl) (fun _ => by first | exact Or.inl rfl | exact Or.inr rfl) g_int)
    (s_cons (s_for (fun _ => PassesOwn.never) (fun _ => rfl) (i_rng1 (fun _ => rfl) (fun _ => m_range) (a_cons (gv 1) a_nil)) (t_nm (fun _ => sc_power_of.nd) (fun _ => rfl) (fun _ => by first | exact Or.inl rfl | exact Or.inr rfl) (i := 3)) (s_one (s_set (n := 2) (fun _ => sc_power_of.nd) (fun _ => rfl) (fun _ => by first | exact Or.inl rfl | exact Or.inr rfl) (g_mul (gv 2) (gv 0)))))
    (s_one (s_ret (gv 2)))))) ?main, hm⟩
  case len => intro ds L post h; unfold fs_power_of at h; repeat (first | (obtain ⟨rfl, _⟩ := h; rfl) | (obtain ⟨_, h⟩ := h))
  case main =>
    rintro ds L post ⟨n, p, rfl, h1, h2, hp⟩
    simp only [gSq, gNext, gRet, gRetN, gIfS, gAsg, gPar, gPar3, gDrop, gIfE, gTst, gNot, gAnd, gOr, gAndV, gOrV, gNotV, g2, gVar, gC, gNm, gTp, gTl, gGn, gGc, rN, rM, rQ, rNn, gaNil, gaCons, gTupD, gLstF, gLstO, gCall, gCallK, gCB, Gh.c1, Gh.c2, kInt, kInt2, kToInt, gNeg, lk, stt, startG, List.map, List.replicate, List.length, gAug_, dInt, List.cons_append, List.nil_append, gBreak, gCont, gDPut_, gSubD_, gSubL_, gDGet_, gDIn_, onP, onI, onK, onD, onL, onS, onN, gLM, gLM0, gSlF, gSlO, gNo, gPt, kLen, gNewK, gDs1_, Gh.rIxD, itS, itR, itL, itK, mApp, mExt, mPop, mApp1, mExt1, keyD, isLs, gFor, gWh, giL, giT, giR1, giR2, gRvF, gLrF, gLrO, kListF, kListO, gLc, gYes, gDc, wipeG, wipeG.stn, put_same, put_put, atI_last, at0, at1, at2, ix0, ix1, ix2, List.set_cons_zero, List.set_cons_succ, Option.some.injEq, Gh.O.lst.injEq, Gh.O.dic.injEq, Gh.D.ptr.injEq, exists_eq_left', exists_eq_left, exists_eq', exists_eq, true_and, and_true, Bool.false_xor, Bool.true_xor, decide_eq_true_eq, decide_eq_false_iff_not, gFor, giR1]
    refine ⟨⟨by omega, by omega⟩, fun i Γ' L' => L' = L ∧ ∃ o, Γ' = [some (.int n), some (.int p), some (.int (n ^ i : Nat)), o], ⟨rfl, none, rfl⟩, fun _ _ _ _ => trivial, ?_, ?_⟩
    · rintro i d _ _ hd ⟨rfl, o, rfl⟩
      simp only [gSq, gNext, gRet, gRetN, gIfS, gAsg, gPar, gPar3, gDrop, gIfE, gTst, gNot, gAnd, gOr, gAndV, gOrV, gNotV, g2, gVar, gC, gNm, gTp, gTl, gGn, gGc, rN, rM, rQ, rNn, gaNil, gaCons, gTupD, gLstF, gLstO, gCall, gCallK, gCB, Gh.c1, Gh.c2, kInt, kInt2, kToInt, gNeg, lk, stt, startG, List.map, List.replicate, List.length, gAug_, dInt, List.cons_append, List.nil_append, gBreak, gCont, gDPut_, gSubD_, gSubL_, gDGet_, gDIn_, onP, onI, onK, onD, onL, onS, onN, gLM, gLM0, gSlF, gSlO, gNo, gPt, kLen, gNewK, gDs1_, Gh.rIxD, itS, itR, itL, itK, mApp, mExt, mPop, mApp1, mExt1, keyD, isLs, gFor, gWh, giL, giT, giR1, giR2, gRvF, gLrF, gLrO, kListF, kListO, gLc, gYes, gDc, wipeG, wipeG.stn, put_same, put_put, atI_last, at0, at1, at2, ix0, ix1, ix2, List.set_cons_zero, List.set_cons_succ, Option.some.injEq, Gh.O.lst.injEq, Gh.O.dic.injEq, Gh.D.ptr.injEq, exists_eq_left', exists_eq_left, exists_eq', exists_eq, true_and, and_true, Bool.false_xor, Bool.true_xor, decide_eq_true_eq, decide_eq_false_iff_not]
      exact ⟨mulR (by omega) (by omega), _, by rw [Nat.pow_succ, Int.natCast_mul]⟩
    · rintro _ _ ⟨rfl, o, rfl⟩
      rw [rngD_length, Int.toNat_natCast]
      exact rt_in hp
def fs_strip_count : FSp := fun ds L post => ∃ l m n : Nat, ds = [.int l, .int m, .int n] ∧ l < 2 ^ 32 ∧ m < 2 ^ 32 ∧ n < 2 ^ 32 ∧ post (.int (sc l m n : Nat)) L
set_option maxHeartbeats 0 in
theorem ok_strip_count   (i : ∃ (f : Addr) (fd : FuncData), FunD KK.K "strip_count" "strip_count" (defArgs s_strip_count) (defBody s_strip_count) (defScope s_strip_count) [] [] f fd ∧ mg "strip_count" = some (.ref f)) : Cal P w mg base 1 "strip_count" "strip_count" s_strip_count ["l", "m", "n"] fs_strip_count := by
  obtain ⟨f, fd, DD, hm⟩ := i
  refine ⟨f, fd, DD, fn_G (k := 0) DD sc_strip_count ?len (fun cdv A outer s H hG hR => (s_one (s_ret (g_sub (g_mul (g_mul (gv 0) (gv 1)) (gv 2)) (g_mul (g_mul (g_div (gv 0) g_int) (g_div (gv 1) g_int)) (g_div (gv 2) g_int)))))) ?main, hm⟩
  case len => intro ds L post h; unfold fs_strip_count at h; repeat (first | (obtain ⟨rfl, _⟩ := h; rfl) | (obtain ⟨_, h⟩ := h))
  case main =>
    rintro ds L post ⟨l, m, n, rfl, h1, h2, h3, hp⟩
    simp only [gSq, gNext, gRet, gRetN, gIfS, gAsg, gPar, gPar3, gDrop, gIfE, gTst, gNot, gAnd, gOr, gAndV, gOrV, gNotV, g2, gVar, gC, gNm, gTp, gTl, gGn, gGc, rN, rM, rQ, rNn, gaNil, gaCons, gTupD, gLstF, gLstO, gCall, gCallK, gCB, Gh.c1, Gh.c2, kInt, kInt2, kToInt, gNeg, lk, stt, startG, List.map, List.replicate, List.length, gAug_, dInt, List.cons_append, List.nil_append, gBreak, gCont, gDPut_, gSubD_, gSubL_, gDGet_, gDIn_, onP, onI, onK, onD, onL, onS, onN, gLM, gLM0, gSlF, gSlO, gNo, gPt, kLen, gNewK, gDs1_, Gh.rIxD, itS, itR, itL, itK, mApp, mExt, mPop, mApp1, mExt1, keyD, isLs, gFor, gWh, giL, giT, giR1, giR2, gRvF, gLrF, gLrO, kListF, kListO, gLc, gYes, gDc, wipeG, wipeG.stn, put_same, put_put, atI_last, at0, at1, at2, ix0, ix1, ix2, List.set_cons_zero, List.set_cons_succ, Option.some.injEq, Gh.O.lst.injEq, Gh.O.dic.injEq, Gh.D.ptr.injEq, exists_eq_left', exists_eq_left, exists_eq', exists_eq, true_and, and_true, Bool.false_xor, Bool.true_xor, decide_eq_true_eq, decide_eq_false_iff_not]
    rw [sc_cast] at hp
    exact ⟨mulL (by omega) (by omega), mulR (by omega) (by omega), divOk (by omega) (by omega), divOk (by omega) (by omega), mulL (by omega) (by omega), divOk (by omega) (by omega), mulR (by omega) (by omega), rt_in hp⟩
def fs_by_halves_count : FSp := fun ds L post => ∃ l m n : Nat, ds = [.int l, .int m, .int n] ∧ l < 2 ^ 32 ∧ m < 2 ^ 32 ∧ n < 2 ^ 32 ∧ post (.int (bh l m n : Nat)) L
set_option maxHeartbeats 0 in
theorem ok_by_halves_count   (i : ∃ (f : Addr) (fd : FuncData), FunD KK.K "by_halves_count" "by_halves_count" (defArgs s_by_halves_count) (defBody s_by_halves_count) (defScope s_by_halves_count) [] [] f fd ∧ mg "by_halves_count" = some (.ref f)) : Cal P w mg base 1 "by_halves_count" "by_halves_count" s_by_halves_count ["r", "n", "s"] fs_by_halves_count := by
  obtain ⟨f, fd, DD, hm⟩ := i
  refine ⟨f, fd, DD, fn_G (k := 0) DD sc_by_halves_count ?len (fun cdv A outer s H hG hR => (s_cons (s_set (n := 3) (fun _ => sc_by_halves_count.nd) (fun _ => rfl) (fun _ => by first | exact Or.inl rfl | exact Or.inr rfl) (g_div (gv 1) g_int))
    (s_one (s_ret (g_add (g_mul (g_mul (gv 0) (gv 2)) (g_sub (gv 1) (gv 3))) (g_mul (gv 3) (g_add (gv 0) (gv 2)))))))) ?main, hm⟩
  case len => intro ds L post h; unfold fs_by_halves_count at h; repeat (first | (obtain ⟨rfl, _⟩ := h; rfl) | (obtain ⟨_, h⟩ := h))
  case main =>
    rintro ds L post ⟨l, m, n, rfl, h1, h2, h3, hp⟩
    simp only [gSq, gNext, gRet, gRetN, gIfS, gAsg, gPar, gPar3, gDrop, gIfE, gTst, gNot, gAnd, gOr, gAndV, gOrV, gNotV, g2, gVar, gC, gNm, gTp, gTl, gGn, gGc, rN, rM, rQ, rNn, gaNil, gaCons, gTupD, gLstF, gLstO, gCall, gCallK, gCB, Gh.c1, Gh.c2, kInt, kInt2, kToInt, gNeg, lk, stt, startG, List.map, List.replicate, List.length, gAug_, dInt, List.cons_append, List.nil_append, gBreak, gCont, gDPut_, gSubD_, gSubL_, gDGet_, gDIn_, onP, onI, onK, onD, onL, onS, onN, gLM, gLM0, gSlF, gSlO, gNo, gPt, kLen, gNewK, gDs1_, Gh.rIxD, itS, itR, itL, itK, mApp, mExt, mPop, mApp1, mExt1, keyD, isLs, gFor, gWh, giL, giT, giR1, giR2, gRvF, gLrF, gLrO, kListF, kListO, gLc, gYes, gDc, wipeG, wipeG.stn, put_same, put_put, atI_last, at0, at1, at2, ix0, ix1, ix2, List.set_cons_zero, List.set_cons_succ, Option.some.injEq, Gh.O.lst.injEq, Gh.O.dic.injEq, Gh.D.ptr.injEq, exists_eq_left', exists_eq_left, exists_eq', exists_eq, true_and, and_true, Bool.false_xor, Bool.true_xor, decide_eq_true_eq, decide_eq_false_iff_not]
    rw [bh_cast] at hp
    exact ⟨divOk (by omega) (by omega), mulL (by omega) (by omega), mulR (by omega) (by omega), mulL (by omega) (by omega), rt_in hp⟩
def fs_is_cheaper : FSp := fun ds L post => ∃ l m n : Nat, ds = [.int l, .int m, .int n] ∧ l < 2 ^ 32 ∧ m < 2 ^ 32 ∧ n < 2 ^ 32 ∧ post (.bl (decide (bh l m n < l * m * n))) L
set_option maxHeartbeats 0 in
theorem ok_is_cheaper  (c_by_halves_count : Cal P w mg base 1 "by_halves_count" "by_halves_count" s_by_halves_count ["r", "n", "s"] fs_by_halves_count) (i : ∃ (f : Addr) (fd : FuncData), FunD KK.K "is_cheaper" "is_cheaper" (defArgs s_is_cheaper) (defBody s_is_cheaper) (defScope s_is_cheaper) [] [] f fd ∧ mg "is_cheaper" = some (.ref f)) : Cal P w mg base 2 "is_cheaper" "is_cheaper" s_is_cheaper ["r", "n", "s"] fs_is_cheaper := by
  obtain ⟨f, fd, DD, hm⟩ := i
  refine ⟨f, fd, DD, fn_G (k := 1) DD sc_is_cheaper ?len (fun cdv A outer s H hG hR => (s_one (s_ret (g_lt (g_c (fun _ => rfl) (fun _ => hG) (fun _ => hR.mono (by decide)) (fun _ => c_by_halves_count) bd_by_halves_count (a_cons (gv 0) (a_cons (gv 1) (a_cons (gv 2) a_nil)))) (g_mul (g_mul (gv 0) (gv 1)) (gv 2)))))) ?main, hm⟩
  case len => intro ds L post h; unfold fs_is_cheaper at h; repeat (first | (obtain ⟨rfl, _⟩ := h; rfl) | (obtain ⟨_, h⟩ := h))
  case main =>
    rintro ds L post ⟨l, m, n, rfl, h1, h2, h3, hp⟩
    simp only [gSq, gNext, gRet, gRetN, gIfS, gAsg, gPar, gPar3, gDrop, gIfE, gTst, gNot, gAnd, gOr, gAndV, gOrV, gNotV, g2, gVar, gC, gNm, gTp, gTl, gGn, gGc, rN, rM, rQ, rNn, gaNil, gaCons, gTupD, gLstF, gLstO, gCall, gCallK, gCB, Gh.c1, Gh.c2, kInt, kInt2, kToInt, gNeg, lk, stt, startG, List.map, List.replicate, List.length, gAug_, dInt, List.cons_append, List.nil_append, gBreak, gCont, gDPut_, gSubD_, gSubL_, gDGet_, gDIn_, onP, onI, onK, onD, onL, onS, onN, gLM, gLM0, gSlF, gSlO, gNo, gPt, kLen, gNewK, gDs1_, Gh.rIxD, itS, itR, itL, itK, mApp, mExt, mPop, mApp1, mExt1, keyD, isLs, gFor, gWh, giL, giT, giR1, giR2, gRvF, gLrF, gLrO, kListF, kListO, gLc, gYes, gDc, wipeG, wipeG.stn, put_same, put_put, atI_last, at0, at1, at2, ix0, ix1, ix2, List.set_cons_zero, List.set_cons_succ, Option.some.injEq, Gh.O.lst.injEq, Gh.O.dic.injEq, Gh.D.ptr.injEq, exists_eq_left', exists_eq_left, exists_eq', exists_eq, true_and, and_true, Bool.false_xor, Bool.true_xor, decide_eq_true_eq, decide_eq_false_iff_not]
    refine ⟨l, m, n, rfl, h1, h2, h3, mulL (by omega) (by omega), mulR (by omega) (by omega), rt_in ?_⟩
    rw [show (decide (((bh l m n : Nat) : Int) < (l : Int) * m * n)) = decide (bh l m n < l * m * n) by rw [← Int.natCast_mul, ← Int.natCast_mul, decide_eq_decide]; exact Int.ofNat_lt]
    exact hp
end
end K06

namespace K06
open PySem PySem.Spec L2 Gh
abbrev nats (xs : List Nat) : List D := xs.map fun n => D.int (n : Nat)
theorem nats_app (xs ys : List Nat) : nats (xs ++ ys) = nats xs ++ nats ys := List.map_append
/-- n, its upper part, and so on down to 1 -/
def szl (b n : Nat) : List Nat := if h : 2 ≤ b ∧ 1 < n then n :: szl b (up b n) else [n]
termination_by n
decreasing_by exact up_lt h.1 h.2
theorem szl_more {b n : Nat} (hb : 2 ≤ b) (hn : 1 < n) : szl b n = n :: szl b (up b n) := by rw [szl, dif_pos ⟨hb, hn⟩]
theorem szl_end {b n : Nat} (hn : n ≤ 1) : szl b n = [n] := by rw [szl, dif_neg (by omega)]
def mix (k b p n : Nat) : Nat := if h : 2 ≤ b ∧ 1 < n then min (n ^ p) (k * mix k b p (up b n)) else 1
termination_by n
decreasing_by exact up_lt h.1 h.2
theorem mix_more {k b p n : Nat} (hb : 2 ≤ b) (hn : 1 < n) : mix k b p n = min (n ^ p) (k * mix k b p (up b n)) := by rw [mix, dif_pos ⟨hb, hn⟩]
theorem mix_end {k b p n : Nat} (hn : n ≤ 1) : mix k b p n = 1 := by rw [mix, dif_neg (by omega)]
/-- the product of so many as there are steps -/
def byp (k b n : Nat) : Nat := k ^ ((szl b n).length - 1)
theorem szl_pos (b n : Nat) : 1 ≤ (szl b n).length := by
  rw [szl]; split
  · rw [List.length_cons]; omega
  · simp
theorem byp_more {k b n : Nat} (hb : 2 ≤ b) (hn : 1 < n) : byp k b n = k * byp k b (up b n) := by
  unfold byp
  have := szl_pos b (up b n)
  rw [szl_more hb hn, List.length_cons, show (szl b (up b n)).length + 1 - 1 = ((szl b (up b n)).length - 1) + 1 by omega, Nat.pow_succ, Nat.mul_comm]
theorem byp_end {k b n : Nat} (hn : n ≤ 1) : byp k b n = 1 := by unfold byp; rw [szl_end hn]; rfl
theorem up_half {b n : Nat} (hb : 2 ≤ b) (hn : 1 ≤ n) : (up b n - 1) * 2 ≤ n - 1 := by
  have h : up b n * b ≤ n + b - 1 := Nat.div_mul_le_self _ _
  have h1 := up_pos (b := b) (n := n) (by omega) hn
  have h2 : (up b n - 1) * b ≤ n - 1 := by rw [Nat.sub_mul]; omega
  have h3 : (up b n - 1) * 2 ≤ (up b n - 1) * b := Nat.mul_le_mul_left _ hb
  omega
/-- so many turns lead to 1 -/
theorem turns_end {c n i : Nat} (h : (c - 1) * 2 ^ i ≤ n - 1) (hn : n < 2 ^ i) (hp : 1 ≤ n) : c ≤ 1 := by
  rcases Nat.lt_or_ge 1 c with q | q
  · exfalso
    have : 1 * 2 ^ i ≤ (c - 1) * 2 ^ i := Nat.mul_le_mul_right _ (by omega)
    omega
  · exact q
theorem turns_few {c n i : Nat} (h : (c - 1) * 2 ^ i ≤ n - 1) (hn : n < 2 ^ 62) (hc : 1 < c) : i < 62 := by
  rcases Nat.lt_or_ge i 62 with q | q
  · exact q
  · exfalso
    have : 1 * 2 ^ i ≤ (c - 1) * 2 ^ i := Nat.mul_le_mul_right _ (by omega)
    have h2 : (2 : Nat) ^ 62 ≤ 2 ^ i := Nat.pow_le_pow_right (by omega) q
    omega
theorem turns_step {b c n i : Nat} (hb : 2 ≤ b) (hc : 1 ≤ c) (h : (c - 1) * 2 ^ i ≤ n - 1) : (up b c - 1) * 2 ^ (i + 1) ≤ n - 1 := by
  have h1 := up_half hb hc
  have : (up b c - 1) * 2 ^ (i + 1) = (up b c - 1) * 2 * 2 ^ i := by rw [Nat.pow_succ, Nat.mul_comm (2 ^ i) 2, Nat.mul_assoc]
  rw [this]
  exact Nat.le_trans (Nat.mul_le_mul_right _ h1) h
theorem line64 {n : Nat} (h : n < 100) : n < sizeLine := by rw [sizeLine_eq]; omega
theorem getD_l {xs ys : List Nat} {i d : Nat} (h : i < xs.length) : (xs ++ ys).getD i d = xs.getD i d := by rw [List.getD_eq_getElem?_getD, List.getD_eq_getElem?_getD, List.getElem?_append_left h]
theorem getD_r {xs ys : List Nat} {i d : Nat} (h : xs.length ≤ i) : (xs ++ ys).getD i d = ys.getD (i - xs.length) d := by rw [List.getD_eq_getElem?_getD, List.getD_eq_getElem?_getD, List.getElem?_append_right h]
/-- the last one, the ones above it -/
theorem szl_last (b n : Nat) (hn : 1 ≤ n) : ∃ xs, szl b n = xs ++ [(szl b n).getLastD 0] ∧ (szl b n).dropLast = xs := by
  have : szl b n ≠ [] := by have := szl_pos b n; intro h; rw [h] at this; simp at this
  refine ⟨(szl b n).dropLast, ?_, rfl⟩
  rw [List.getLastD_eq_getLast?, List.getLast?_eq_getLast this]
  exact (List.dropLast_concat_getLast this).symm
def mxAt (k b p : Nat) (R : List Nat) : Nat → Nat
  | 0 => 1
  | j + 1 => mix k b p (R.getD j 0)
/-- going up: the mixed product of the i-th from the end -/
theorem mix_walk (k b p : Nat) (hb : 2 ≤ b) : ∀ n : Nat, ∀ i x : Nat, (szl b n).dropLast.reverse[i]? = some x → 1 < x ∧ x ≤ n ∧
    mix k b p x = min (x ^ p) (k * (mxAt k b p (szl b n).dropLast.reverse i)) := by
  intro n
  induction n using Nat.strongRecOn with
  | _ n ih =>
    intro i x h
    rcases Nat.lt_or_ge 1 n with q | q
    · have e := szl_more hb q
      have ne : szl b (up b n) ≠ [] := by have := szl_pos b (up b n); intro h; rw [h] at this; simp at this
      have e2 : (szl b n).dropLast.reverse = (szl b (up b n)).dropLast.reverse ++ [n] := by
        rw [e, List.dropLast_cons_of_ne_nil ne, List.reverse_cons]
      rw [e2] at h ⊢
      generalize hR : (szl b (up b n)).dropLast.reverse = R at *
      rcases Nat.lt_or_ge i R.length with z | z
      · rw [List.getElem?_append_left z] at h
        obtain ⟨h1, h2, h3⟩ := ih (up b n) (up_lt hb q) i x (by rw [hR]; exact h)
        refine ⟨h1, Nat.le_trans h2 (Nat.le_of_lt (up_lt hb q)), ?_⟩
        rw [hR] at h3
        rw [h3]
        cases i with
        | zero => rfl
        | succ j =>
          show _ = min (x ^ p) (k * mix k b p ((R ++ [n]).getD j 0))
          rw [getD_l (by omega)]
          rfl
      · rw [List.getElem?_append_right z] at h
        have hz : i - R.length = 0 := by
          rcases Nat.eq_zero_or_pos (i - R.length) with y | y
          · exact y
          · rw [List.getElem?_eq_none (by simp; omega)] at h; cases h
        rw [hz] at h
        cases h
        refine ⟨q, Nat.le_refl _, ?_⟩
        rw [mix_more hb q]
        have hi : i = R.length := by omega
        subst hi
        congr 2
        rcases hl : R.length with _ | j
        · show mix k b p (up b n) = 1
          rcases Nat.lt_or_ge 1 (up b n) with y | y
          · exfalso
            have : R.length = (szl b (up b n)).length - 1 := by rw [← hR]; simp
            rw [szl_more hb y, List.length_cons] at this
            have := szl_pos b (up b (up b n))
            omega
          · exact mix_end y
        · show mix k b p (up b n) = mix k b p ((R ++ [n]).getD j 0)
          rw [getD_l (by omega)]
          congr 1
          rcases Nat.lt_or_ge 1 (up b n) with y | y
          · have ne2 : szl b (up b (up b n)) ≠ [] := by have := szl_pos b (up b (up b n)); intro h; rw [h] at this; simp at this
            have e3 : R = (szl b (up b (up b n))).dropLast.reverse ++ [up b n] := by
              rw [← hR, szl_more hb y, List.dropLast_cons_of_ne_nil ne2, List.reverse_cons]
            rw [e3, List.length_append, List.length_singleton] at hl
            rw [e3, getD_r (by omega), show j - _ = 0 by omega]
            rfl
          · exfalso
            rw [szl_end y] at hR
            rw [← hR] at hl
            simp at hl
    · rw [szl_end q] at h
      simp at h
theorem mix_done {k b p n : Nat} (hb : 2 ≤ b) : mxAt k b p (szl b n).dropLast.reverse (szl b n).dropLast.reverse.length = mix k b p n := by
  rcases Nat.lt_or_ge 1 n with q | q
  · have ne : szl b (up b n) ≠ [] := by have := szl_pos b (up b n); intro h; rw [h] at this; simp at this
    rw [szl_more hb q, List.dropLast_cons_of_ne_nil ne, List.reverse_cons, List.length_append]
    show mix k b p ((_ ++ [n]).getD _ 0) = _
    rw [getD_r (by omega), show ∀ x : Nat, x - x = 0 by omega]
    rfl
  · rw [szl_end q, mix_end q]; rfl
theorem szl_tail (b n : Nat) : ((nats (szl b n)).reverse.drop 1) = nats ((szl b n).dropLast.reverse) := by
  have ne : szl b n ≠ [] := by have := szl_pos b n; intro h; rw [h] at this; simp at this
  have e : nats (szl b n) = nats (szl b n).dropLast ++ nats [(szl b n).getLast ne] := by rw [← nats_app, List.dropLast_concat_getLast ne]
  rw [e, List.reverse_append]
  show (nats (szl b n).dropLast).reverse = _
  rw [nats, nats, List.map_reverse]
variable [KK]
section
variable {P : Program} {w : World} {mg : Str → Option Value} {base : Heap}
def fs_sizes_of_2 : FSp := fun ds L post => ∃ b n : Nat, ds = [.int b, .int n] ∧ 2 ≤ b ∧ b < 2 ^ 32 ∧ 1 ≤ n ∧ n < 2 ^ 62 ∧ ∀ p, L p = none → post (.ptr p) (put L p (.lst (nats (szl b n))))
set_option maxHeartbeats 0 in
theorem ok_sizes_of_2   (i : ∃ (f : Addr) (fd : FuncData), FunD KK.K "sizes_of" "sizes_of" (defArgs s_sizes_of_2) (defBody s_sizes_of_2) (defScope s_sizes_of_2) [] [] f fd ∧ mg "sizes_of_productcounts" = some (.ref f)) : Cal P w mg base 1 "sizes_of_productcounts" "sizes_of" s_sizes_of_2 ["base", "n"] fs_sizes_of_2 := by
  obtain ⟨f, fd, DD, hm⟩ := i
  refine ⟨f, fd, DD, fn_G (k := 0) DD sc_sizes_of_2 ?len (fun cdv A outer s H hG hR => (s_cons (s_set (n := 2) (fun _ => sc_sizes_of_2.nd) (fun _ => rfl) (fun _ => by first | exact Or.inl rfl | exact Or.inr rfl) (g_lstO (a_cons (gv 1) a_nil)))
    (s_cons (s_while (fun _ => PassesOwn.never) (b_gt (g_ix (fun _ => rfl) (gv 2) (g_neg g_int) (fun _ _ => rfl)) g_int) (s_one (s_expr (g_app (fun _ => rfl) (gv 2) (a_cons (g_div (g_sub (g_add (g_ix (fun _ => rfl) (gv 2) (g_neg g_int) (fun _ _ => rfl)) (gv 0)) g_int) (gv 0)) a_nil)))))
    (s_one (s_ret (gv 2)))))) ?main, hm⟩
  case len => intro ds L post h; unfold fs_sizes_of_2 at h; repeat (first | (obtain ⟨rfl, _⟩ := h; rfl) | (obtain ⟨_, h⟩ := h))
  case main =>
    rintro ds L post ⟨b, n, rfl, hb, hb2, hn, hn2, hp⟩
    simp only [gSq, gNext, gRet, gRetN, gIfS, gAsg, gPar, gPar3, gDrop, gIfE, gTst, gNot, gAnd, gOr, gAndV, gOrV, gNotV, g2, gVar, gC, gNm, gTp, gTl, gGn, gGc, rN, rM, rQ, rNn, gaNil, gaCons, gTupD, gLstF, gLstO, gCall, gCallK, gCB, Gh.c1, Gh.c2, kInt, kInt2, kToInt, gNeg, lk, stt, startG, List.map, List.replicate, List.length, gAug_, dInt, List.cons_append, List.nil_append, gBreak, gCont, gDPut_, gSubD_, gSubL_, gDGet_, gDIn_, onP, onI, onK, onD, onL, onS, onN, gLM, gLM0, gSlF, gSlO, gNo, gPt, kLen, gNewK, gDs1_, Gh.rIxD, itS, itR, itL, itK, mApp, mExt, mPop, mApp1, mExt1, keyD, isLs, gFor, gWh, giL, giT, giR1, giR2, gRvF, gLrF, gLrO, kListF, kListO, gLc, gYes, gDc, wipeG, wipeG.stn, put_same, put_put, atI_last, at0, at1, at2, ix0, ix1, ix2, List.set_cons_zero, List.set_cons_succ, Option.some.injEq, Gh.O.lst.injEq, Gh.O.dic.injEq, Gh.D.ptr.injEq, exists_eq_left', exists_eq_left, exists_eq', exists_eq, true_and, and_true, Bool.false_xor, Bool.true_xor, decide_eq_true_eq, decide_eq_false_iff_not]
    refine ⟨by rw [sizeLine_eq]; omega, fun p hpn => ?_⟩
    refine ⟨fun m Γ' L' => ∃ acc c, m = c ∧ Γ' = [some (.int b), some (.int n), some (.ptr p)] ∧ L' = put L p (.lst (nats acc ++ [.int (c : Nat)])) ∧ acc ++ szl b c = szl b n ∧ 1 ≤ c ∧ (c - 1) * 2 ^ acc.length ≤ n - 1, ⟨n, [], n, rfl, rfl, rfl, rfl, hn, by simp⟩, ?_⟩
    rintro m _ _ ⟨acc, c, rfl, rfl, rfl, hs, hc, hl⟩
    simp only [gSq, gNext, gRet, gRetN, gIfS, gAsg, gPar, gPar3, gDrop, gIfE, gTst, gNot, gAnd, gOr, gAndV, gOrV, gNotV, g2, gVar, gC, gNm, gTp, gTl, gGn, gGc, rN, rM, rQ, rNn, gaNil, gaCons, gTupD, gLstF, gLstO, gCall, gCallK, gCB, Gh.c1, Gh.c2, kInt, kInt2, kToInt, gNeg, lk, stt, startG, List.map, List.replicate, List.length, gAug_, dInt, List.cons_append, List.nil_append, gBreak, gCont, gDPut_, gSubD_, gSubL_, gDGet_, gDIn_, onP, onI, onK, onD, onL, onS, onN, gLM, gLM0, gSlF, gSlO, gNo, gPt, kLen, gNewK, gDs1_, Gh.rIxD, itS, itR, itL, itK, mApp, mExt, mPop, mApp1, mExt1, keyD, isLs, gFor, gWh, giL, giT, giR1, giR2, gRvF, gLrF, gLrO, kListF, kListO, gLc, gYes, gDc, wipeG, wipeG.stn, put_same, put_put, atI_last, at0, at1, at2, ix0, ix1, ix2, List.set_cons_zero, List.set_cons_succ, Option.some.injEq, Gh.O.lst.injEq, Gh.O.dic.injEq, Gh.D.ptr.injEq, exists_eq_left', exists_eq_left, exists_eq', exists_eq, true_and, and_true, Bool.false_xor, Bool.true_xor, decide_eq_true_eq, decide_eq_false_iff_not]
    refine ⟨fun h => ⟨divOk (by omega) (by omega), ?_, ?_⟩, fun h => ?_⟩
    · rw [List.length_append, List.length_map, List.length_singleton]
      exact line64 (by have := turns_few hl hn2 (by omega); omega)
    · have hm : 1 < m := by omega
      refine ⟨up b m, up_lt hb hm, acc ++ [m], ?_, ?_, up_pos (by omega) hc, ?_⟩
      · rw [up_cast (by omega), nats_app]; rfl
      · rw [List.append_assoc, ← hs, szl_more hb hm]; rfl
      · rw [List.length_append]; exact turns_step hb hc hl
    · refine ⟨_, Sub.refl _, ?_⟩
      have := hp p hpn
      rw [← hs, szl_end (by omega), nats_app] at this
      exact this
theorem nats_get {xs : List Nat} {i : Nat} {d : D} (h : (nats xs)[i]? = some d) : ∃ x, xs[i]? = some x ∧ d = .int (x : Nat) := by
  rw [nats, List.getElem?_map] at h
  cases e : xs[i]? with
  | none => rw [e] at h; cases h
  | some x => rw [e] at h; cases h; exact ⟨x, rfl, rfl⟩
theorem nats_length (xs : List Nat) : (nats xs).length = xs.length := List.length_map _
def fs_products_by : FSp := fun ds L post => ∃ k b n : Nat, ds = [.int k, .int b, .int n] ∧ k < 2 ^ 64 ∧ 2 ≤ b ∧ b < 2 ^ 32 ∧ 1 ≤ n ∧ n < 2 ^ 62 ∧ post (.int (byp k b n : Nat)) L
theorem szl_len {b n : Nat} (hb : 2 ≤ b) : ∀ n, 1 ≤ n → (szl b n).length ≤ n := by
  intro n
  induction n using Nat.strongRecOn with
  | _ n ih =>
    intro hn
    rcases Nat.lt_or_ge 1 n with q | q
    · rw [szl_more hb q, List.length_cons]
      have := ih _ (up_lt hb q) (up_pos (by omega) hn)
      have := up_lt hb q
      omega
    · rw [szl_end q]; exact hn
set_option maxHeartbeats 0 in
theorem ok_products_by (m_len : mg "len" = none) (c_power_of : Cal P w mg base 1 "power_of" "power_of" s_power_of ["number", "often"] fs_power_of) (c_sizes_of_2 : Cal P w mg base 1 "sizes_of_productcounts" "sizes_of" s_sizes_of_2 ["base", "n"] fs_sizes_of_2) (i : ∃ (f : Addr) (fd : FuncData), FunD KK.K "products_by" "products_by" (defArgs s_products_by) (defBody s_products_by) (defScope s_products_by) [] [] f fd ∧ mg "products_by" = some (.ref f)) : Cal P w mg base 2 "products_by" "products_by" s_products_by ["many", "base", "n"] fs_products_by := by
  obtain ⟨f, fd, DD, hm⟩ := i
  refine ⟨f, fd, DD, fn_G (k := 1) DD sc_products_by ?len (fun cdv A outer s H hG hR => (s_one (s_ret (g_c (fun _ => rfl) (fun _ => hG) (fun _ => hR.mono (by decide)) (fun _ => c_power_of) bd_power_of (a_cons (gv 0) (a_cons (g_sub (f_len (fun _ => rfl) (fun _ => m_len) (a_cons (g_c (fun _ => rfl) (fun _ => hG) (fun _ => hR.mono (by decide)) (fun _ => c_sizes_of_2) bd_sizes_of_2 (a_cons (gv 1) (a_cons (gv 2) a_nil))) a_nil)) g_int) a_nil)))))) ?main, hm⟩
  case len => intro ds L post h; unfold fs_products_by at h; repeat (first | (obtain ⟨rfl, _⟩ := h; rfl) | (obtain ⟨_, h⟩ := h))
  case main =>
    rintro ds L post ⟨k, b, n, rfl, hk, hb, hb2, hn, hn2, hp⟩
    simp only [gSq, gNext, gRet, gRetN, gIfS, gAsg, gPar, gPar3, gDrop, gIfE, gTst, gNot, gAnd, gOr, gAndV, gOrV, gNotV, g2, gVar, gC, gNm, gTp, gTl, gGn, gGc, rN, rM, rQ, rNn, gaNil, gaCons, gTupD, gLstF, gLstO, gCall, gCallK, gCB, Gh.c1, Gh.c2, kInt, kInt2, kToInt, gNeg, lk, stt, startG, List.map, List.replicate, List.length, gAug_, dInt, List.cons_append, List.nil_append, gBreak, gCont, gDPut_, gSubD_, gSubL_, gDGet_, gDIn_, onP, onI, onK, onD, onL, onS, onN, gLM, gLM0, gSlF, gSlO, gNo, gPt, kLen, gNewK, gDs1_, Gh.rIxD, itS, itR, itL, itK, mApp, mExt, mPop, mApp1, mExt1, keyD, isLs, gFor, gWh, giL, giT, giR1, giR2, gRvF, gLrF, gLrO, kListF, kListO, gLc, gYes, gDc, wipeG, wipeG.stn, put_same, put_put, atI_last, at0, at1, at2, ix0, ix1, ix2, List.set_cons_zero, List.set_cons_succ, Option.some.injEq, Gh.O.lst.injEq, Gh.O.dic.injEq, Gh.D.ptr.injEq, exists_eq_left', exists_eq_left, exists_eq', exists_eq, true_and, and_true, Bool.false_xor, Bool.true_xor, decide_eq_true_eq, decide_eq_false_iff_not]
    have h1 := szl_pos b n
    have h2 := szl_len (n := n) hb n hn
    refine ⟨b, n, rfl, hb, hb2, hn, hn2, fun p hpn => ?_⟩
    simp only [gSq, gNext, gRet, gRetN, gIfS, gAsg, gPar, gPar3, gDrop, gIfE, gTst, gNot, gAnd, gOr, gAndV, gOrV, gNotV, g2, gVar, gC, gNm, gTp, gTl, gGn, gGc, rN, rM, rQ, rNn, gaNil, gaCons, gTupD, gLstF, gLstO, gCall, gCallK, gCB, Gh.c1, Gh.c2, kInt, kInt2, kToInt, gNeg, lk, stt, startG, List.map, List.replicate, List.length, gAug_, dInt, List.cons_append, List.nil_append, gBreak, gCont, gDPut_, gSubD_, gSubL_, gDGet_, gDIn_, onP, onI, onK, onD, onL, onS, onN, gLM, gLM0, gSlF, gSlO, gNo, gPt, kLen, gNewK, gDs1_, Gh.rIxD, itS, itR, itL, itK, mApp, mExt, mPop, mApp1, mExt1, keyD, isLs, gFor, gWh, giL, giT, giR1, giR2, gRvF, gLrF, gLrO, kListF, kListO, gLc, gYes, gDc, wipeG, wipeG.stn, put_same, put_put, atI_last, at0, at1, at2, ix0, ix1, ix2, List.set_cons_zero, List.set_cons_succ, Option.some.injEq, Gh.O.lst.injEq, Gh.O.dic.injEq, Gh.D.ptr.injEq, exists_eq_left', exists_eq_left, exists_eq', exists_eq, true_and, and_true, Bool.false_xor, Bool.true_xor, decide_eq_true_eq, decide_eq_false_iff_not]
    refine ⟨k, (szl b n).length - 1, ?_, hk, by omega, ?_⟩
    · rw [nats_length, Int.natCast_sub h1]; rfl
    · exact ⟨L, Sub.put_new hpn, hp⟩
def fs_products_mixed : FSp := fun ds L post => ∃ k b p n : Nat, ds = [.int k, .int b, .int p, .int n] ∧ k < 2 ^ 64 ∧ 2 ≤ b ∧ b < 2 ^ 32 ∧ p < 2 ^ 32 ∧ 1 ≤ n ∧ n < 2 ^ 62 ∧ post (.int (mix k b p n : Nat)) L
theorem rev_drop (xs : List D) : revAt xs.length (some (-2)) = xs.length - 1 := by
  show (max (-1) (min (if (-2 : Int) < 0 then -2 + (xs.length : Int) else -2) ((xs.length : Int) - 1)) + 1).toNat = _
  rw [if_pos (by decide)]
  omega
theorem mins (x y : Nat) : (if (y : Int) < (x : Int) then (y : Int) else (x : Int)) = ((min x y : Nat) : Int) := by
  split
  · rw [Nat.min_eq_right (by omega)]
  · rw [Nat.min_eq_left (by omega)]
set_option maxHeartbeats 0 in
theorem ok_products_mixed (m_min : mg "min" = none) (c_sizes_of_2 : Cal P w mg base 1 "sizes_of_productcounts" "sizes_of" s_sizes_of_2 ["base", "n"] fs_sizes_of_2) (c_power_of : Cal P w mg base 1 "power_of" "power_of" s_power_of ["number", "often"] fs_power_of) (i : ∃ (f : Addr) (fd : FuncData), FunD KK.K "products_mixed" "products_mixed" (defArgs s_products_mixed) (defBody s_products_mixed) (defScope s_products_mixed) [] [] f fd ∧ mg "products_mixed" = some (.ref f)) : Cal P w mg base 2 "products_mixed" "products_mixed" s_products_mixed ["many", "base", "power", "n"] fs_products_mixed := by
  obtain ⟨f, fd, DD, hm⟩ := i
  refine ⟨f, fd, DD, fn_G (k := 1) DD sc_products_mixed ?len (fun cdv A outer s H hG hR => (s_cons (s_set (n := 4) (fun _ => sc_products_mixed.nd) (fun _ => rfl) (fun _ => by first | exact Or.inl rfl | exact Or.inr rfl) g_int)
    (s_cons (s_for (fun _ => PassesOwn.never) (fun _ => rfl) (i_lst (fun _ => rfl) (g_rvF (fun _ => rfl) (g_c (fun _ => rfl) (fun _ => hG) (fun _ => hR.mono (by decide)) (fun _ => c_sizes_of_2) bd_sizes_of_2 (a_cons (gv 1) (a_cons (gv 3) a_nil))) (o_some (g_neg g_int)))) (t_nm (fun _ => sc_products_mixed.nd) (fun _ => rfl) (fun _ => by first | exact Or.inl rfl | exact Or.inr rfl) (i := 5)) (s_one (s_set (n := 4) (fun _ => sc_products_mixed.nd) (fun _ => rfl) (fun _ => by first | exact Or.inl rfl | exact Or.inr rfl) (f_min2 (fun _ => rfl) (fun _ => rfl) (fun _ => m_min) (a_cons (g_c (fun _ => rfl) (fun _ => hG) (fun _ => hR.mono (by decide)) (fun _ => c_power_of) bd_power_of (a_cons (gv 5) (a_cons (gv 2) a_nil))) (a_cons (g_mul (gv 0) (gv 4)) a_nil))))))
    (s_one (s_ret (gv 4)))))) ?main, hm⟩
  case len => intro ds L post h; unfold fs_products_mixed at h; repeat (first | (obtain ⟨rfl, _⟩ := h; rfl) | (obtain ⟨_, h⟩ := h))
  case main =>
    rintro ds L post ⟨k, b, p, n, rfl, hk, hb, hb2, hp1, hn, hn2, hp⟩
    simp only [gSq, gNext, gRet, gRetN, gIfS, gAsg, gPar, gPar3, gDrop, gIfE, gTst, gNot, gAnd, gOr, gAndV, gOrV, gNotV, g2, gVar, gC, gNm, gTp, gTl, gGn, gGc, rN, rM, rQ, rNn, gaNil, gaCons, gTupD, gLstF, gLstO, gCall, gCallK, gCB, Gh.c1, Gh.c2, kInt, kInt2, kToInt, gNeg, lk, stt, startG, List.map, List.replicate, List.length, gAug_, dInt, List.cons_append, List.nil_append, gBreak, gCont, gDPut_, gSubD_, gSubL_, gDGet_, gDIn_, onP, onI, onK, onD, onL, onS, onN, gLM, gLM0, gSlF, gSlO, gNo, gPt, kLen, gNewK, gDs1_, Gh.rIxD, itS, itR, itL, itK, mApp, mExt, mPop, mApp1, mExt1, keyD, isLs, gFor, gWh, giL, giT, giR1, giR2, gRvF, gLrF, gLrO, kListF, kListO, gLc, gYes, gDc, wipeG, wipeG.stn, put_same, put_put, atI_last, at0, at1, at2, ix0, ix1, ix2, List.set_cons_zero, List.set_cons_succ, Option.some.injEq, Gh.O.lst.injEq, Gh.O.dic.injEq, Gh.D.ptr.injEq, exists_eq_left', exists_eq_left, exists_eq', exists_eq, true_and, and_true, Bool.false_xor, Bool.true_xor, decide_eq_true_eq, decide_eq_false_iff_not]
    refine ⟨b, n, rfl, hb, hb2, hn, hn2, fun a ha => ?_⟩
    simp only [gSq, gNext, gRet, gRetN, gIfS, gAsg, gPar, gPar3, gDrop, gIfE, gTst, gNot, gAnd, gOr, gAndV, gOrV, gNotV, g2, gVar, gC, gNm, gTp, gTl, gGn, gGc, rN, rM, rQ, rNn, gaNil, gaCons, gTupD, gLstF, gLstO, gCall, gCallK, gCB, Gh.c1, Gh.c2, kInt, kInt2, kToInt, gNeg, lk, stt, startG, List.map, List.replicate, List.length, gAug_, dInt, List.cons_append, List.nil_append, gBreak, gCont, gDPut_, gSubD_, gSubL_, gDGet_, gDIn_, onP, onI, onK, onD, onL, onS, onN, gLM, gLM0, gSlF, gSlO, gNo, gPt, kLen, gNewK, gDs1_, Gh.rIxD, itS, itR, itL, itK, mApp, mExt, mPop, mApp1, mExt1, keyD, isLs, gFor, gWh, giL, giT, giR1, giR2, gRvF, gLrF, gLrO, kListF, kListO, gLc, gYes, gDc, wipeG, wipeG.stn, put_same, put_put, atI_last, at0, at1, at2, ix0, ix1, ix2, List.set_cons_zero, List.set_cons_succ, Option.some.injEq, Gh.O.lst.injEq, Gh.O.dic.injEq, Gh.D.ptr.injEq, exists_eq_left', exists_eq_left, exists_eq', exists_eq, true_and, and_true, Bool.false_xor, Bool.true_xor, decide_eq_true_eq, decide_eq_false_iff_not]
    have e : ((nats (szl b n)).take (revAt (nats (szl b n)).length (some (-2)))).reverse = nats ((szl b n).dropLast.reverse) := by
      rw [rev_drop, ← List.dropLast_eq_take, nats, ← List.map_dropLast, ← List.map_reverse]
    rw [e]
    have W := mix_walk k b p hb n
    have hR := mix_done (k := k) (p := p) (n := n) hb
    generalize (szl b n).dropLast.reverse = R at *
    refine ⟨fun i Γ' L' => L' = put L a (.lst (nats (szl b n))) ∧ ∃ o, Γ' = [some (.int k), some (.int b), some (.int p), some (.int n), some (.int (mxAt k b p R i : Nat)), o], ⟨rfl, none, rfl⟩, fun _ _ _ _ => trivial, ?_, ?_⟩
    · rintro i d _ _ hd ⟨rfl, o, rfl⟩
      obtain ⟨x, hx, rfl⟩ := nats_get hd
      obtain ⟨h1, h2, h3⟩ := W i x hx
      simp only [gSq, gNext, gRet, gRetN, gIfS, gAsg, gPar, gPar3, gDrop, gIfE, gTst, gNot, gAnd, gOr, gAndV, gOrV, gNotV, g2, gVar, gC, gNm, gTp, gTl, gGn, gGc, rN, rM, rQ, rNn, gaNil, gaCons, gTupD, gLstF, gLstO, gCall, gCallK, gCB, Gh.c1, Gh.c2, kInt, kInt2, kToInt, gNeg, lk, stt, startG, List.map, List.replicate, List.length, gAug_, dInt, List.cons_append, List.nil_append, gBreak, gCont, gDPut_, gSubD_, gSubL_, gDGet_, gDIn_, onP, onI, onK, onD, onL, onS, onN, gLM, gLM0, gSlF, gSlO, gNo, gPt, kLen, gNewK, gDs1_, Gh.rIxD, itS, itR, itL, itK, mApp, mExt, mPop, mApp1, mExt1, keyD, isLs, gFor, gWh, giL, giT, giR1, giR2, gRvF, gLrF, gLrO, kListF, kListO, gLc, gYes, gDc, wipeG, wipeG.stn, put_same, put_put, atI_last, at0, at1, at2, ix0, ix1, ix2, List.set_cons_zero, List.set_cons_succ, Option.some.injEq, Gh.O.lst.injEq, Gh.O.dic.injEq, Gh.D.ptr.injEq, exists_eq_left', exists_eq_left, exists_eq', exists_eq, true_and, and_true, Bool.false_xor, Bool.true_xor, decide_eq_true_eq, decide_eq_false_iff_not]
      refine ⟨x, p, rfl, by omega, by omega, mulL (by omega) (by omega), rfl, some (.int x), ?_⟩
      rw [← Int.natCast_mul, mins, ← h3]
      show _ = [_, _, _, _, some (D.int (mix k b p (R.getD i 0) : Nat)), _]
      rw [List.getD_eq_getElem?_getD, hx]
      rfl
    · rintro _ _ ⟨rfl, o, rfl⟩
      simp only [gSq, gNext, gRet, gRetN, gIfS, gAsg, gPar, gPar3, gDrop, gIfE, gTst, gNot, gAnd, gOr, gAndV, gOrV, gNotV, g2, gVar, gC, gNm, gTp, gTl, gGn, gGc, rN, rM, rQ, rNn, gaNil, gaCons, gTupD, gLstF, gLstO, gCall, gCallK, gCB, Gh.c1, Gh.c2, kInt, kInt2, kToInt, gNeg, lk, stt, startG, List.map, List.replicate, List.length, gAug_, dInt, List.cons_append, List.nil_append, gBreak, gCont, gDPut_, gSubD_, gSubL_, gDGet_, gDIn_, onP, onI, onK, onD, onL, onS, onN, gLM, gLM0, gSlF, gSlO, gNo, gPt, kLen, gNewK, gDs1_, Gh.rIxD, itS, itR, itL, itK, mApp, mExt, mPop, mApp1, mExt1, keyD, isLs, gFor, gWh, giL, giT, giR1, giR2, gRvF, gLrF, gLrO, kListF, kListO, gLc, gYes, gDc, wipeG, wipeG.stn, put_same, put_put, atI_last, at0, at1, at2, ix0, ix1, ix2, List.set_cons_zero, List.set_cons_succ, Option.some.injEq, Gh.O.lst.injEq, Gh.O.dic.injEq, Gh.D.ptr.injEq, exists_eq_left', exists_eq_left, exists_eq', exists_eq, true_and, and_true, Bool.false_xor, Bool.true_xor, decide_eq_true_eq, decide_eq_false_iff_not]
      rw [nats_length, hR]
      exact ⟨L, Sub.put_new ha, hp⟩
def Chp (k b p : Nat) : D → Prop := fun d => (b ^ p ≤ k ∧ d = .non) ∨ ∃ m : Nat, 2 ≤ m ∧ m ≤ b ∧ k < m ^ p ∧ (∀ j, 2 ≤ j → j < m → j ^ p ≤ k) ∧ d = .int m
def fs_cheaper_from : FSp := fun ds L post => ∃ k b p : Nat, ds = [.int k, .int b, .int p] ∧ k < 2 ^ 64 ∧ 2 ≤ b ∧ b < 2 ^ 32 ∧ p < 2 ^ 32 ∧ ∀ d, Chp k b p d → post d L
set_option maxHeartbeats 0 in
theorem ok_cheaper_from (m_range : mg "range" = none) (c_power_of : Cal P w mg base 1 "power_of" "power_of" s_power_of ["number", "often"] fs_power_of) (i : ∃ (f : Addr) (fd : FuncData), FunD KK.K "cheaper_from" "cheaper_from" (defArgs s_cheaper_from) (defBody s_cheaper_from) (defScope s_cheaper_from) [] [] f fd ∧ mg "cheaper_from" = some (.ref f)) : Cal P w mg base 2 "cheaper_from" "cheaper_from" s_cheaper_from ["many", "base", "power"] fs_cheaper_from := by
  obtain ⟨f, fd, DD, hm⟩ := i
  refine ⟨f, fd, DD, fn_G (k := 1) DD sc_cheaper_from ?len (fun cdv A outer s H hG hR => (s_cons (s_if (b_ge (gv 0) (g_c (fun _ => rfl) (fun _ => hG) (fun _ => hR.mono (by decide)) (fun _ => c_power_of) bd_power_of (a_cons (gv 1) (a_cons (gv 2) a_nil)))) (s_one (s_ret g_non)) s_nil)
    (s_cons (s_for (fun _ => PassesOwn.never) (fun _ => rfl) (i_rng2 (fun _ => rfl) (fun _ => m_range) (a_cons g_int (a_cons (gv 1) a_nil))) (t_nm (fun _ => sc_cheaper_from.nd) (fun _ => rfl) (fun _ => by first | exact Or.inl rfl | exact Or.inr rfl) (i := 3)) (s_one (s_if (b_lt (gv 0) (g_c (fun _ => rfl) (fun _ => hG) (fun _ => hR.mono (by decide)) (fun _ => c_power_of) bd_power_of (a_cons (gv 3) (a_cons (gv 2) a_nil)))) (s_one (s_ret (gv 3))) s_nil)))
    (s_one (s_ret (gv 1)))))) ?main, hm⟩
  case len => intro ds L post h; unfold fs_cheaper_from at h; repeat (first | (obtain ⟨rfl, _⟩ := h; rfl) | (obtain ⟨_, h⟩ := h))
  case main =>
    rintro ds L post ⟨k, b, p, rfl, hk, hb, hb2, hp1, hp⟩
    simp only [gSq, gNext, gRet, gRetN, gIfS, gAsg, gPar, gPar3, gDrop, gIfE, gTst, gNot, gAnd, gOr, gAndV, gOrV, gNotV, g2, gVar, gC, gNm, gTp, gTl, gGn, gGc, rN, rM, rQ, rNn, gaNil, gaCons, gTupD, gLstF, gLstO, gCall, gCallK, gCB, Gh.c1, Gh.c2, kInt, kInt2, kToInt, gNeg, lk, stt, startG, List.map, List.replicate, List.length, gAug_, dInt, List.cons_append, List.nil_append, gBreak, gCont, gDPut_, gSubD_, gSubL_, gDGet_, gDIn_, onP, onI, onK, onD, onL, onS, onN, gLM, gLM0, gSlF, gSlO, gNo, gPt, kLen, gNewK, gDs1_, Gh.rIxD, itS, itR, itL, itK, mApp, mExt, mPop, mApp1, mExt1, keyD, isLs, gFor, gWh, giL, giT, giR1, giR2, gRvF, gLrF, gLrO, kListF, kListO, gLc, gYes, gDc, wipeG, wipeG.stn, put_same, put_put, atI_last, at0, at1, at2, ix0, ix1, ix2, List.set_cons_zero, List.set_cons_succ, Option.some.injEq, Gh.O.lst.injEq, Gh.O.dic.injEq, Gh.D.ptr.injEq, exists_eq_left', exists_eq_left, exists_eq', exists_eq, true_and, and_true, Bool.false_xor, Bool.true_xor, decide_eq_true_eq, decide_eq_false_iff_not]
    refine ⟨b, p, rfl, by omega, by omega, fun h => rt_in (hp _ (.inl ⟨Int.ofNat_le.1 h, rfl⟩)), fun h => ⟨⟨by omega, by omega, by omega, by omega⟩, ?_⟩⟩
    have hlt : k < b ^ p := by
      have : ¬ b ^ p ≤ k := fun q => h (Int.ofNat_le.2 q)
      omega
    refine ⟨fun i Γ' L' => L' = L ∧ (∀ j, 2 ≤ j → j < 2 + i → j ^ p ≤ k) ∧ ∃ o, Γ' = [some (.int k), some (.int b), some (.int p), o], ⟨rfl, fun j h1 h2 => by omega, none, rfl⟩, fun _ _ _ _ => trivial, ?_, ?_⟩
    · rintro i d _ _ hd ⟨rfl, hs, o, rfl⟩
      obtain ⟨hi, rfl⟩ := Gh.rngD_get hd
      simp only [gSq, gNext, gRet, gRetN, gIfS, gAsg, gPar, gPar3, gDrop, gIfE, gTst, gNot, gAnd, gOr, gAndV, gOrV, gNotV, g2, gVar, gC, gNm, gTp, gTl, gGn, gGc, rN, rM, rQ, rNn, gaNil, gaCons, gTupD, gLstF, gLstO, gCall, gCallK, gCB, Gh.c1, Gh.c2, kInt, kInt2, kToInt, gNeg, lk, stt, startG, List.map, List.replicate, List.length, gAug_, dInt, List.cons_append, List.nil_append, gBreak, gCont, gDPut_, gSubD_, gSubL_, gDGet_, gDIn_, onP, onI, onK, onD, onL, onS, onN, gLM, gLM0, gSlF, gSlO, gNo, gPt, kLen, gNewK, gDs1_, Gh.rIxD, itS, itR, itL, itK, mApp, mExt, mPop, mApp1, mExt1, keyD, isLs, gFor, gWh, giL, giT, giR1, giR2, gRvF, gLrF, gLrO, kListF, kListO, gLc, gYes, gDc, wipeG, wipeG.stn, put_same, put_put, atI_last, at0, at1, at2, ix0, ix1, ix2, List.set_cons_zero, List.set_cons_succ, Option.some.injEq, Gh.O.lst.injEq, Gh.O.dic.injEq, Gh.D.ptr.injEq, exists_eq_left', exists_eq_left, exists_eq', exists_eq, true_and, and_true, Bool.false_xor, Bool.true_xor, decide_eq_true_eq, decide_eq_false_iff_not]
      refine ⟨2 + i, p, by rw [Int.natCast_add]; rfl, by omega, by omega, fun h => rt_in (hp _ (.inr ⟨2 + i, by omega, by omega, Int.ofNat_lt.1 h, hs, by rw [Int.natCast_add]; rfl⟩)), fun h => ?_⟩
      refine ⟨rfl, fun j h1 h2 => ?_, _, rfl⟩
      rcases Nat.lt_or_ge j (2 + i) with q | q
      · exact hs j h1 q
      · have : j = 2 + i := by omega
        subst this
        have : ¬ k < (2 + i) ^ p := fun q => h (Int.ofNat_lt.2 q)
        omega
    · rintro _ _ ⟨rfl, hs, o, rfl⟩
      simp only [gSq, gNext, gRet, gRetN, gIfS, gAsg, gPar, gPar3, gDrop, gIfE, gTst, gNot, gAnd, gOr, gAndV, gOrV, gNotV, g2, gVar, gC, gNm, gTp, gTl, gGn, gGc, rN, rM, rQ, rNn, gaNil, gaCons, gTupD, gLstF, gLstO, gCall, gCallK, gCB, Gh.c1, Gh.c2, kInt, kInt2, kToInt, gNeg, lk, stt, startG, List.map, List.replicate, List.length, gAug_, dInt, List.cons_append, List.nil_append, gBreak, gCont, gDPut_, gSubD_, gSubL_, gDGet_, gDIn_, onP, onI, onK, onD, onL, onS, onN, gLM, gLM0, gSlF, gSlO, gNo, gPt, kLen, gNewK, gDs1_, Gh.rIxD, itS, itR, itL, itK, mApp, mExt, mPop, mApp1, mExt1, keyD, isLs, gFor, gWh, giL, giT, giR1, giR2, gRvF, gLrF, gLrO, kListF, kListO, gLc, gYes, gDc, wipeG, wipeG.stn, put_same, put_put, atI_last, at0, at1, at2, ix0, ix1, ix2, List.set_cons_zero, List.set_cons_succ, Option.some.injEq, Gh.O.lst.injEq, Gh.O.dic.injEq, Gh.D.ptr.injEq, exists_eq_left', exists_eq_left, exists_eq', exists_eq, true_and, and_true, Bool.false_xor, Bool.true_xor, decide_eq_true_eq, decide_eq_false_iff_not]
      rw [rngD_length] at hs
      exact rt_in (hp _ (.inr ⟨b, hb, Nat.le_refl _, hlt, fun j h1 h2 => hs j h1 (by omega), rfl⟩))
def fs__law_by : FSp := fun ds L post => ∃ k b n : Nat, ds = [.int k, .int b, .int n] ∧ k < 2 ^ 64 ∧ 2 ≤ b ∧ b < 2 ^ 32 ∧ 1 ≤ n ∧ n < 2 ^ 62 ∧ post (.int (byp k b n : Nat)) L
set_option maxHeartbeats 0 in
theorem ok__law_by (m_range : mg "range" = none) (c__law_up : Cal P w mg base 1 "_law_up" "_law_up" s__law_up ["n", "by"] fs__law_up) (i : ∃ (f : Addr) (fd : FuncData), FunD KK.K "_law_by" "_law_by" (defArgs s__law_by) (defBody s__law_by) (defScope s__law_by) [] [] f fd ∧ mg "_law_by" = some (.ref f)) : Cal P w mg base 2 "_law_by" "_law_by" s__law_by ["many", "base", "n"] fs__law_by := by
  obtain ⟨f, fd, DD, hm⟩ := i
  refine ⟨f, fd, DD, fn_G (k := 1) DD sc__law_by ?len (fun cdv A outer s H hG hR => (s_cons (s_set (n := 3) (fun _ => sc__law_by.nd) (fun _ => rfl) (fun _ => by first | exact Or.inl rfl | exact Or.inr rfl) g_int)
    (s_cons (s_for (fun _ => PassesOwn.never) (fun _ => rfl) (i_rng1 (fun _ => rfl) (fun _ => m_range) (a_cons g_int a_nil)) (t_nm (fun _ => sc__law_by.nd) (fun _ => rfl) (fun _ => by first | exact Or.inl rfl | exact Or.inr rfl) (i := 4)) (s_one (s_if (b_gt (gv 2) g_int) (s_one (s_par (n := 3) (m := 2) (fun _ => rfl) (fun _ => sc__law_by.nd) (fun _ => rfl) (fun _ => rfl) (by decide) (fun _ => rfl) (fun _ => rfl) (a_cons (g_mul (gv 3) (gv 0)) (a_cons (g_c (fun _ => rfl) (fun _ => hG) (fun _ => hR.mono (by decide)) (fun _ => c__law_up) bd__law_up (a_cons (gv 2) (a_cons (gv 1) a_nil))) a_nil)))) s_nil)))
    (s_one (s_ret (gv 3)))))) ?main, hm⟩
  case len => intro ds L post h; unfold fs__law_by at h; repeat (first | (obtain ⟨rfl, _⟩ := h; rfl) | (obtain ⟨_, h⟩ := h))
  case main =>
    rintro ds L post ⟨k, b, n, rfl, hk, hb, hb2, hn, hn2, hp⟩
    simp only [gSq, gNext, gRet, gRetN, gIfS, gAsg, gPar, gPar3, gDrop, gIfE, gTst, gNot, gAnd, gOr, gAndV, gOrV, gNotV, g2, gVar, gC, gNm, gTp, gTl, gGn, gGc, rN, rM, rQ, rNn, gaNil, gaCons, gTupD, gLstF, gLstO, gCall, gCallK, gCB, Gh.c1, Gh.c2, kInt, kInt2, kToInt, gNeg, lk, stt, startG, List.map, List.replicate, List.length, gAug_, dInt, List.cons_append, List.nil_append, gBreak, gCont, gDPut_, gSubD_, gSubL_, gDGet_, gDIn_, onP, onI, onK, onD, onL, onS, onN, gLM, gLM0, gSlF, gSlO, gNo, gPt, kLen, gNewK, gDs1_, Gh.rIxD, itS, itR, itL, itK, mApp, mExt, mPop, mApp1, mExt1, keyD, isLs, gFor, gWh, giL, giT, giR1, giR2, gRvF, gLrF, gLrO, kListF, kListO, gLc, gYes, gDc, wipeG, wipeG.stn, put_same, put_put, atI_last, at0, at1, at2, ix0, ix1, ix2, List.set_cons_zero, List.set_cons_succ, Option.some.injEq, Gh.O.lst.injEq, Gh.O.dic.injEq, Gh.D.ptr.injEq, exists_eq_left', exists_eq_left, exists_eq', exists_eq, true_and, and_true, Bool.false_xor, Bool.true_xor, decide_eq_true_eq, decide_eq_false_iff_not]
    refine ⟨⟨by omega, by omega⟩, fun i Γ' L' => L' = L ∧ ∃ (o : Option D) (f c : Nat), Γ' = [some (.int k), some (.int b), some (.int c), some (.int f), o] ∧ f * byp k b c = byp k b n ∧ 1 ≤ c ∧ (c - 1) * 2 ^ i ≤ n - 1, ⟨rfl, none, 1, n, rfl, Nat.one_mul _, hn, by simp⟩, fun _ _ _ _ => trivial, ?_, ?_⟩
    · rintro i d _ _ hd ⟨rfl, o, f, c, rfl, h1, h2, h3⟩
      simp only [gSq, gNext, gRet, gRetN, gIfS, gAsg, gPar, gPar3, gDrop, gIfE, gTst, gNot, gAnd, gOr, gAndV, gOrV, gNotV, g2, gVar, gC, gNm, gTp, gTl, gGn, gGc, rN, rM, rQ, rNn, gaNil, gaCons, gTupD, gLstF, gLstO, gCall, gCallK, gCB, Gh.c1, Gh.c2, kInt, kInt2, kToInt, gNeg, lk, stt, startG, List.map, List.replicate, List.length, gAug_, dInt, List.cons_append, List.nil_append, gBreak, gCont, gDPut_, gSubD_, gSubL_, gDGet_, gDIn_, onP, onI, onK, onD, onL, onS, onN, gLM, gLM0, gSlF, gSlO, gNo, gPt, kLen, gNewK, gDs1_, Gh.rIxD, itS, itR, itL, itK, mApp, mExt, mPop, mApp1, mExt1, keyD, isLs, gFor, gWh, giL, giT, giR1, giR2, gRvF, gLrF, gLrO, kListF, kListO, gLc, gYes, gDc, wipeG, wipeG.stn, put_same, put_put, atI_last, at0, at1, at2, ix0, ix1, ix2, List.set_cons_zero, List.set_cons_succ, Option.some.injEq, Gh.O.lst.injEq, Gh.O.dic.injEq, Gh.D.ptr.injEq, exists_eq_left', exists_eq_left, exists_eq', exists_eq, true_and, and_true, Bool.false_xor, Bool.true_xor, decide_eq_true_eq, decide_eq_false_iff_not]
      refine ⟨fun h => ⟨mulR (by omega) (by omega), c, b, rfl, by omega, by omega, rfl, _, f * k, up b c, by rw [Int.natCast_mul], ?_, up_pos (by omega) h2, turns_step hb h2 h3⟩, fun h => ⟨_, f, c, rfl, h1, h2, ?_⟩⟩
      · rw [← h1, byp_more (n := c) hb (by omega), Nat.mul_assoc]
      · have : c = 1 := by omega
        subst this; simp
    · rintro _ _ ⟨rfl, o, f, c, rfl, h1, h2, h3⟩
      simp only [gSq, gNext, gRet, gRetN, gIfS, gAsg, gPar, gPar3, gDrop, gIfE, gTst, gNot, gAnd, gOr, gAndV, gOrV, gNotV, g2, gVar, gC, gNm, gTp, gTl, gGn, gGc, rN, rM, rQ, rNn, gaNil, gaCons, gTupD, gLstF, gLstO, gCall, gCallK, gCB, Gh.c1, Gh.c2, kInt, kInt2, kToInt, gNeg, lk, stt, startG, List.map, List.replicate, List.length, gAug_, dInt, List.cons_append, List.nil_append, gBreak, gCont, gDPut_, gSubD_, gSubL_, gDGet_, gDIn_, onP, onI, onK, onD, onL, onS, onN, gLM, gLM0, gSlF, gSlO, gNo, gPt, kLen, gNewK, gDs1_, Gh.rIxD, itS, itR, itL, itK, mApp, mExt, mPop, mApp1, mExt1, keyD, isLs, gFor, gWh, giL, giT, giR1, giR2, gRvF, gLrF, gLrO, kListF, kListO, gLc, gYes, gDc, wipeG, wipeG.stn, put_same, put_put, atI_last, at0, at1, at2, ix0, ix1, ix2, List.set_cons_zero, List.set_cons_succ, Option.some.injEq, Gh.O.lst.injEq, Gh.O.dic.injEq, Gh.D.ptr.injEq, exists_eq_left', exists_eq_left, exists_eq', exists_eq, true_and, and_true, Bool.false_xor, Bool.true_xor, decide_eq_true_eq, decide_eq_false_iff_not]
      rw [rngD_length] at h3
      have hc : c ≤ 1 := turns_end h3 (by show n < 2 ^ 64; omega) hn
      rw [byp_end hc, Nat.mul_one] at h1
      rw [h1]
      exact rt_in hp
def fs__law_mixed : FSp := fun ds L post => ∃ k b p n : Nat, ds = [.int k, .int b, .int p, .int n] ∧ k < 2 ^ 64 ∧ 2 ≤ b ∧ b < 2 ^ 32 ∧ (p = 2 ∨ p = 3) ∧ 1 ≤ n ∧ n < 2 ^ 62 ∧ post (.int (mix k b p n : Nat)) L
set_option maxHeartbeats 0 in
theorem ok__law_mixed (m_list : mg "list" = none) (m_min : mg "min" = none) (m_range : mg "range" = none) (m_reversed : mg "reversed" = none) (c__law_up : Cal P w mg base 1 "_law_up" "_law_up" s__law_up ["n", "by"] fs__law_up) (c__law_power : Cal P w mg base 1 "_law_power" "_law_power" s__law_power ["n", "power"] fs__law_power) (i : ∃ (f : Addr) (fd : FuncData), FunD KK.K "_law_mixed" "_law_mixed" (defArgs s__law_mixed) (defBody s__law_mixed) (defScope s__law_mixed) [] [] f fd ∧ mg "_law_mixed" = some (.ref f)) : Cal P w mg base 2 "_law_mixed" "_law_mixed" s__law_mixed ["many", "base", "power", "n"] fs__law_mixed := by
  obtain ⟨f, fd, DD, hm⟩ := i
  refine ⟨f, fd, DD, fn_G (k := 1) DD sc__law_mixed ?len (fun cdv A outer s H hG hR => (s_cons (s_set (n := 4) (fun _ => sc__law_mixed.nd) (fun _ => rfl) (fun _ => by first | exact Or.inl rfl | exact Or.inr rfl) (g_lstO (a_cons (gv 3) a_nil)))
    (s_cons (s_for (fun _ => PassesOwn.never) (fun _ => rfl) (i_rng1 (fun _ => rfl) (fun _ => m_range) (a_cons g_int a_nil)) (t_nm (fun _ => sc__law_mixed.nd) (fun _ => rfl) (fun _ => by first | exact Or.inl rfl | exact Or.inr rfl) (i := 5)) (s_one (s_if (b_gt (g_ix (fun _ => rfl) (gv 4) (g_neg g_int) (fun _ _ => rfl)) g_int) (s_one (s_expr (g_app (fun _ => rfl) (gv 4) (a_cons (g_c (fun _ => rfl) (fun _ => hG) (fun _ => hR.mono (by decide)) (fun _ => c__law_up) bd__law_up (a_cons (g_ix (fun _ => rfl) (gv 4) (g_neg g_int) (fun _ _ => rfl)) (a_cons (gv 1) a_nil))) a_nil)))) s_nil)))
    (s_cons (s_set (n := 6) (fun _ => sc__law_mixed.nd) (fun _ => rfl) (fun _ => by first | exact Or.inl rfl | exact Or.inr rfl) g_int)
    (s_cons (s_for (fun _ => PassesOwn.never) (fun _ => rfl) (i_lst (fun _ => rfl) (g_slF (fun _ => rfl) (g_lrF (fun _ => rfl) (fun _ => rfl) (fun _ => rfl) (fun _ => m_list) (fun _ => rfl) (fun _ => m_reversed) (f_listF (fun _ => rfl) (fun _ => m_list) (a_cons (gv 4) a_nil))) (o_some g_int) o_none)) (t_nm (fun _ => sc__law_mixed.nd) (fun _ => rfl) (fun _ => by first | exact Or.inl rfl | exact Or.inr rfl) (i := 7)) (s_one (s_set (n := 6) (fun _ => sc__law_mixed.nd) (fun _ => rfl) (fun _ => by first | exact Or.inl rfl | exact Or.inr rfl) (f_min2 (fun _ => rfl) (fun _ => rfl) (fun _ => m_min) (a_cons (g_c (fun _ => rfl) (fun _ => hG) (fun _ => hR.mono (by decide)) (fun _ => c__law_power) bd__law_power (a_cons (gv 7) (a_cons (gv 2) a_nil))) (a_cons (g_mul (gv 0) (gv 6)) a_nil))))))
    (s_one (s_ret (gv 6)))))))) ?main, hm⟩
  case len => intro ds L post h; unfold fs__law_mixed at h; repeat (first | (obtain ⟨rfl, _⟩ := h; rfl) | (obtain ⟨_, h⟩ := h))
  case main =>
    rintro ds L post ⟨k, b, p, n, rfl, hk, hb, hb2, hp1, hn, hn2, hp⟩
    simp only [gSq, gNext, gRet, gRetN, gIfS, gAsg, gPar, gPar3, gDrop, gIfE, gTst, gNot, gAnd, gOr, gAndV, gOrV, gNotV, g2, gVar, gC, gNm, gTp, gTl, gGn, gGc, rN, rM, rQ, rNn, gaNil, gaCons, gTupD, gLstF, gLstO, gCall, gCallK, gCB, Gh.c1, Gh.c2, kInt, kInt2, kToInt, gNeg, lk, stt, startG, List.map, List.replicate, List.length, gAug_, dInt, List.cons_append, List.nil_append, gBreak, gCont, gDPut_, gSubD_, gSubL_, gDGet_, gDIn_, onP, onI, onK, onD, onL, onS, onN, gLM, gLM0, gSlF, gSlO, gNo, gPt, kLen, gNewK, gDs1_, Gh.rIxD, itS, itR, itL, itK, mApp, mExt, mPop, mApp1, mExt1, keyD, isLs, gFor, gWh, giL, giT, giR1, giR2, gRvF, gLrF, gLrO, kListF, kListO, gLc, gYes, gDc, wipeG, wipeG.stn, put_same, put_put, atI_last, at0, at1, at2, ix0, ix1, ix2, List.set_cons_zero, List.set_cons_succ, Option.some.injEq, Gh.O.lst.injEq, Gh.O.dic.injEq, Gh.D.ptr.injEq, exists_eq_left', exists_eq_left, exists_eq', exists_eq, true_and, and_true, Bool.false_xor, Bool.true_xor, decide_eq_true_eq, decide_eq_false_iff_not]
    refine ⟨by rw [sizeLine_eq]; omega, fun a ha => ⟨⟨by omega, by omega⟩, ?_⟩⟩
    refine ⟨fun i Γ' L' => ∃ o acc c, Γ' = [some (.int k), some (.int b), some (.int p), some (.int n), some (.ptr a), o, none, none] ∧ L' = put L a (.lst (nats acc ++ [.int (c : Nat)])) ∧ acc ++ szl b c = szl b n ∧ 1 ≤ c ∧ (c - 1) * 2 ^ i ≤ n - 1 ∧ acc.length ≤ i, ⟨none, [], n, rfl, rfl, rfl, hn, by simp, by simp⟩, fun _ _ _ _ => trivial, ?_, ?_⟩
    · rintro i d _ _ hd ⟨o, acc, c, rfl, rfl, hs, hc, hl, hal⟩
      obtain ⟨hi, rfl⟩ := Gh.rngD_get hd
      simp only [gSq, gNext, gRet, gRetN, gIfS, gAsg, gPar, gPar3, gDrop, gIfE, gTst, gNot, gAnd, gOr, gAndV, gOrV, gNotV, g2, gVar, gC, gNm, gTp, gTl, gGn, gGc, rN, rM, rQ, rNn, gaNil, gaCons, gTupD, gLstF, gLstO, gCall, gCallK, gCB, Gh.c1, Gh.c2, kInt, kInt2, kToInt, gNeg, lk, stt, startG, List.map, List.replicate, List.length, gAug_, dInt, List.cons_append, List.nil_append, gBreak, gCont, gDPut_, gSubD_, gSubL_, gDGet_, gDIn_, onP, onI, onK, onD, onL, onS, onN, gLM, gLM0, gSlF, gSlO, gNo, gPt, kLen, gNewK, gDs1_, Gh.rIxD, itS, itR, itL, itK, mApp, mExt, mPop, mApp1, mExt1, keyD, isLs, gFor, gWh, giL, giT, giR1, giR2, gRvF, gLrF, gLrO, kListF, kListO, gLc, gYes, gDc, wipeG, wipeG.stn, put_same, put_put, atI_last, at0, at1, at2, ix0, ix1, ix2, List.set_cons_zero, List.set_cons_succ, Option.some.injEq, Gh.O.lst.injEq, Gh.O.dic.injEq, Gh.D.ptr.injEq, exists_eq_left', exists_eq_left, exists_eq', exists_eq, true_and, and_true, Bool.false_xor, Bool.true_xor, decide_eq_true_eq, decide_eq_false_iff_not]
      refine ⟨fun h => ⟨c, b, rfl, by omega, by omega, ?_⟩, fun h => ?_⟩
      · simp only [gSq, gNext, gRet, gRetN, gIfS, gAsg, gPar, gPar3, gDrop, gIfE, gTst, gNot, gAnd, gOr, gAndV, gOrV, gNotV, g2, gVar, gC, gNm, gTp, gTl, gGn, gGc, rN, rM, rQ, rNn, gaNil, gaCons, gTupD, gLstF, gLstO, gCall, gCallK, gCB, Gh.c1, Gh.c2, kInt, kInt2, kToInt, gNeg, lk, stt, startG, List.map, List.replicate, List.length, gAug_, dInt, List.cons_append, List.nil_append, gBreak, gCont, gDPut_, gSubD_, gSubL_, gDGet_, gDIn_, onP, onI, onK, onD, onL, onS, onN, gLM, gLM0, gSlF, gSlO, gNo, gPt, kLen, gNewK, gDs1_, Gh.rIxD, itS, itR, itL, itK, mApp, mExt, mPop, mApp1, mExt1, keyD, isLs, gFor, gWh, giL, giT, giR1, giR2, gRvF, gLrF, gLrO, kListF, kListO, gLc, gYes, gDc, wipeG, wipeG.stn, put_same, put_put, atI_last, at0, at1, at2, ix0, ix1, ix2, List.set_cons_zero, List.set_cons_succ, Option.some.injEq, Gh.O.lst.injEq, Gh.O.dic.injEq, Gh.D.ptr.injEq, exists_eq_left', exists_eq_left, exists_eq', exists_eq, true_and, and_true, Bool.false_xor, Bool.true_xor, decide_eq_true_eq, decide_eq_false_iff_not]
        refine ⟨?_, _, acc ++ [c], up b c, rfl, ?_, ?_, up_pos (by omega) hc, turns_step hb hc hl, ?_⟩
        · rw [List.length_append, List.length_map, List.length_singleton]
          have hi : i < 64 := hi
          exact line64 (by omega)
        · rw [nats_app]; rfl
        · rw [List.append_assoc, ← hs, szl_more (n := c) hb (by omega)]; rfl
        · rw [List.length_append]; show acc.length + 1 ≤ i + 1; omega
      · have : c = 1 := by omega
        subst this
        exact ⟨_, acc, 1, rfl, rfl, hs, by omega, by simp, by omega⟩
    · rintro _ _ ⟨o, acc, c, rfl, rfl, hs, hc, hl, hal⟩
      simp only [gSq, gNext, gRet, gRetN, gIfS, gAsg, gPar, gPar3, gDrop, gIfE, gTst, gNot, gAnd, gOr, gAndV, gOrV, gNotV, g2, gVar, gC, gNm, gTp, gTl, gGn, gGc, rN, rM, rQ, rNn, gaNil, gaCons, gTupD, gLstF, gLstO, gCall, gCallK, gCB, Gh.c1, Gh.c2, kInt, kInt2, kToInt, gNeg, lk, stt, startG, List.map, List.replicate, List.length, gAug_, dInt, List.cons_append, List.nil_append, gBreak, gCont, gDPut_, gSubD_, gSubL_, gDGet_, gDIn_, onP, onI, onK, onD, onL, onS, onN, gLM, gLM0, gSlF, gSlO, gNo, gPt, kLen, gNewK, gDs1_, Gh.rIxD, itS, itR, itL, itK, mApp, mExt, mPop, mApp1, mExt1, keyD, isLs, gFor, gWh, giL, giT, giR1, giR2, gRvF, gLrF, gLrO, kListF, kListO, gLc, gYes, gDc, wipeG, wipeG.stn, put_same, put_put, atI_last, at0, at1, at2, ix0, ix1, ix2, List.set_cons_zero, List.set_cons_succ, Option.some.injEq, Gh.O.lst.injEq, Gh.O.dic.injEq, Gh.D.ptr.injEq, exists_eq_left', exists_eq_left, exists_eq', exists_eq, true_and, and_true, Bool.false_xor, Bool.true_xor, decide_eq_true_eq, decide_eq_false_iff_not]
      rw [rngD_length] at hl
      have hc : c ≤ 1 := turns_end hl (by show n < 2 ^ 64; omega) hn
      rw [szl_end hc] at hs
      have e : nats acc ++ [D.int (c : Nat)] = nats (szl b n) := by rw [← hs, nats_app]; rfl
      have e2 : List.map (fun n => D.int ((n : Nat) : Int)) acc ++ [D.int (c : Nat)] = nats (szl b n) := e
      rw [e2]
      have e3 : cutD (nats (szl b n)).reverse (some 1) none = nats ((szl b n).dropLast.reverse) := by
        rw [← szl_tail]
        have h1 : HT.sIx (nats (szl b n)).reverse.length 0 (some 1) = 1 := by
          have h2 := szl_pos b n
          have h3 := HT.sIx_nat (nats (szl b n)).reverse.length 0 1
          rw [List.length_reverse, nats_length] at h3 ⊢
          rw [show (some (1 : Int)) = some ((1 : Nat) : Int) from rfl, h3]
          omega
        unfold cutD
        rw [h1, HT.sIx_none]
        apply List.take_of_length_le
        rw [List.length_drop]
        omega
      rw [e3]
      have W := mix_walk k b p hb n
      have hR := mix_done (k := k) (p := p) (n := n) hb
      generalize (szl b n).dropLast.reverse = R at *
      refine ⟨fun i Γ' L' => L' = put L a (.lst (nats (szl b n))) ∧ ∃ o2, Γ' = [some (.int k), some (.int b), some (.int p), some (.int n), some (.ptr a), o, some (.int (mxAt k b p R i : Nat)), o2], ⟨rfl, none, rfl⟩, fun _ _ _ _ => trivial, ?_, ?_⟩
      · rintro i d _ _ hd ⟨rfl, o2, rfl⟩
        obtain ⟨x, hx, rfl⟩ := nats_get hd
        obtain ⟨h1, h2, h3⟩ := W i x hx
        simp only [gSq, gNext, gRet, gRetN, gIfS, gAsg, gPar, gPar3, gDrop, gIfE, gTst, gNot, gAnd, gOr, gAndV, gOrV, gNotV, g2, gVar, gC, gNm, gTp, gTl, gGn, gGc, rN, rM, rQ, rNn, gaNil, gaCons, gTupD, gLstF, gLstO, gCall, gCallK, gCB, Gh.c1, Gh.c2, kInt, kInt2, kToInt, gNeg, lk, stt, startG, List.map, List.replicate, List.length, gAug_, dInt, List.cons_append, List.nil_append, gBreak, gCont, gDPut_, gSubD_, gSubL_, gDGet_, gDIn_, onP, onI, onK, onD, onL, onS, onN, gLM, gLM0, gSlF, gSlO, gNo, gPt, kLen, gNewK, gDs1_, Gh.rIxD, itS, itR, itL, itK, mApp, mExt, mPop, mApp1, mExt1, keyD, isLs, gFor, gWh, giL, giT, giR1, giR2, gRvF, gLrF, gLrO, kListF, kListO, gLc, gYes, gDc, wipeG, wipeG.stn, put_same, put_put, atI_last, at0, at1, at2, ix0, ix1, ix2, List.set_cons_zero, List.set_cons_succ, Option.some.injEq, Gh.O.lst.injEq, Gh.O.dic.injEq, Gh.D.ptr.injEq, exists_eq_left', exists_eq_left, exists_eq', exists_eq, true_and, and_true, Bool.false_xor, Bool.true_xor, decide_eq_true_eq, decide_eq_false_iff_not]
        refine ⟨x, p, rfl, by omega, hp1, mulL (by omega) (by omega), rfl, some (.int x), ?_⟩
        rw [← Int.natCast_mul, mins, ← h3]
        show _ = [_, _, _, _, _, _, some (D.int (mix k b p (R.getD i 0) : Nat)), _]
        rw [List.getD_eq_getElem?_getD, hx]
        rfl
      · rintro _ _ ⟨rfl, o2, rfl⟩
        simp only [gSq, gNext, gRet, gRetN, gIfS, gAsg, gPar, gPar3, gDrop, gIfE, gTst, gNot, gAnd, gOr, gAndV, gOrV, gNotV, g2, gVar, gC, gNm, gTp, gTl, gGn, gGc, rN, rM, rQ, rNn, gaNil, gaCons, gTupD, gLstF, gLstO, gCall, gCallK, gCB, Gh.c1, Gh.c2, kInt, kInt2, kToInt, gNeg, lk, stt, startG, List.map, List.replicate, List.length, gAug_, dInt, List.cons_append, List.nil_append, gBreak, gCont, gDPut_, gSubD_, gSubL_, gDGet_, gDIn_, onP, onI, onK, onD, onL, onS, onN, gLM, gLM0, gSlF, gSlO, gNo, gPt, kLen, gNewK, gDs1_, Gh.rIxD, itS, itR, itL, itK, mApp, mExt, mPop, mApp1, mExt1, keyD, isLs, gFor, gWh, giL, giT, giR1, giR2, gRvF, gLrF, gLrO, kListF, kListO, gLc, gYes, gDc, wipeG, wipeG.stn, put_same, put_put, atI_last, at0, at1, at2, ix0, ix1, ix2, List.set_cons_zero, List.set_cons_succ, Option.some.injEq, Gh.O.lst.injEq, Gh.O.dic.injEq, Gh.D.ptr.injEq, exists_eq_left', exists_eq_left, exists_eq', exists_eq, true_and, and_true, Bool.false_xor, Bool.true_xor, decide_eq_true_eq, decide_eq_false_iff_not]
        rw [nats_length, hR]
        exact ⟨L, Sub.put_new ha, hp⟩
end
end K06

namespace K06
open PySem PySem.Spec L2 Gh
/-- the law's bag: its list of three, the list of what is not yet drawn -/
structure BagAt (a l : Addr) (L : Led) : Prop where
  ne : a ≠ l
  ex : ∃ (ns : List Nat) (d m : Nat), L a = some (.lst [.ptr l, .int (d : Nat), .int (m : Nat)]) ∧ L l = some (.lst (nats ns)) ∧ m < 2147483647
/-- all other places stay -/
def Fr (a l : Addr) (L L' : Led) : Prop := ∀ x, x ≠ a → x ≠ l → L' x = L x
theorem Fr.refl {a l : Addr} {L : Led} : Fr a l L L := fun _ _ _ => rfl
theorem Fr.trans {a l : Addr} {L L1 L2 : Led} (h : Fr a l L L1) (h2 : Fr a l L1 L2) : Fr a l L L2 := fun x q r => (h2 x q r).trans (h x q r)
theorem Fr.put_a [KK] {a l : Addr} {L L' : Led} {o : O} (h : Fr a l L L') : Fr a l L (put L' a o) := fun x q r => by rw [put_ne q]; exact h x q r
theorem Fr.put_l [KK] {a l : Addr} {L L' : Led} {o : O} (h : Fr a l L L') : Fr a l L (put L' l o) := fun x q r => by rw [put_ne r]; exact h x q r
theorem BagAt.off {a l : Addr} {L L' : Led} (h : BagAt a l L) (ea : L' a = L a) (el : L' l = L l) : BagAt a l L' := by
  obtain ⟨ns, d, m, h1, h2, h3⟩ := h.ex
  exact ⟨h.ne, ns, d, m, by rw [ea, h1], by rw [el, h2], h3⟩
mutual
theorem depth_ints : ∀ xs : List Int, PyData.depthAll (xs.map .int) = 0
  | [] => rfl
  | x :: xs => by
    show max (PyData.depth (.int x)) (PyData.depthAll (xs.map .int)) = 0
    rw [depth_ints xs]; rfl
end
theorem lay_ints : ∀ xs : List Int, PyData.canLayAll0 (xs.map .int) = true
  | [] => by simp only [List.map_nil, PyData.canLayAll0]
  | x :: xs => by
    rw [List.map_cons, PyData.canLayAll0, lay_ints xs, PyData.canLay0]; rfl
theorem shaped_ints (xs : List Int) : SeqAt.shaped (.list (xs.map .int)) = true := by
  unfold SeqAt.shaped
  rw [PyData.canLay0, lay_ints, PyData.depth, depth_ints]; rfl
theorem py_ints {L : Led} : ∀ xs : List Nat, PyA L (nats xs) ((xs.map fun n => ((n : Nat) : Int)).map .int)
  | [] => .nil
  | x :: xs => .cons (.int _) (py_ints xs)
variable [KK]
section
variable {P : Program} {w : World} {mg : Str → Option Value} {base : Heap}
theorem Py_of {L : Led} {d : D} {e : PyData} (h : Py L d e) : True := trivial
def fs__law_same : FSp := fun ds L post => ∃ (d1 d2 : D) (e : PyData), ds = [d1, d2] ∧ Py L d1 e ∧ Py L d2 e ∧ fine e ∧ post (.bl true) L
set_option maxHeartbeats 0 in
theorem ok__law_same (m_repr : mg "repr" = none)  (i : ∃ (f : Addr) (fd : FuncData), FunD KK.K "_law_same" "_law_same" (defArgs s__law_same) (defBody s__law_same) (defScope s__law_same) [] [] f fd ∧ mg "_law_same" = some (.ref f)) : Cal P w mg base 1 "_law_same" "_law_same" s__law_same ["told", "due"] fs__law_same := by
  obtain ⟨f, fd, DD, hm⟩ := i
  refine ⟨f, fd, DD, fn_G (k := 0) DD sc__law_same ?len (fun cdv A outer s H hG hR => (s_one (s_ret (g_and (g_eq (f_repr (fun _ => rfl) (fun _ => hG) (fun _ => hR.units) (fun _ => m_repr) (a_cons (gv 0) a_nil)) (f_repr (fun _ => rfl) (fun _ => hG) (fun _ => hR.units) (fun _ => m_repr) (a_cons (gv 1) a_nil))) (g_one (g_eqD (fun _ => rfl) (fun _ => hR.units) (gv 0) (gv 1))))))) ?main, hm⟩
  case len => intro ds L post h; unfold fs__law_same at h; repeat (first | (obtain ⟨rfl, _⟩ := h; rfl) | (obtain ⟨_, h⟩ := h))
  case main =>
    rintro ds L post ⟨d1, d2, e, rfl, h1, h2, h3, hp⟩
    simp only [gSq, gNext, gRet, gRetN, gIfS, gAsg, gPar, gPar3, gDrop, gIfE, gTst, gNot, gAnd, gOr, gAndV, gOrV, gNotV, g2, gVar, gC, gNm, gTp, gTl, gGn, gGc, rN, rM, rQ, rNn, gaNil, gaCons, gTupD, gLstF, gLstO, gCall, gCallK, gCB, Gh.c1, Gh.c2, kInt, kInt2, kToInt, gNeg, lk, stt, startG, List.map, List.replicate, List.length, gAug_, dInt, List.cons_append, List.nil_append, gBreak, gCont, gDPut_, gSubD_, gSubL_, gDGet_, gDIn_, onP, onI, onK, onD, onL, onS, onN, gLM, gLM0, gSlF, gSlO, gNo, gPt, kLen, gNewK, gDs1_, Gh.rIxD, itS, itR, itL, itK, mApp, mExt, mPop, mApp1, mExt1, keyD, isLs, gFor, gWh, giL, giT, giR1, giR2, gRvF, gLrF, gLrO, kListF, kListO, gLc, gYes, gDc, wipeG, wipeG.stn, put_same, put_put, atI_last, at0, at1, at2, ix0, ix1, ix2, List.set_cons_zero, List.set_cons_succ, Option.some.injEq, Gh.O.lst.injEq, Gh.O.dic.injEq, Gh.D.ptr.injEq, exists_eq_left', exists_eq_left, exists_eq', exists_eq, true_and, and_true, Bool.false_xor, Bool.true_xor, decide_eq_true_eq, decide_eq_false_iff_not]
    refine ⟨e, h1, h3, e, h2, h3, ?_⟩
    refine ⟨fun _ => ?_, fun h => by simp at h⟩
    refine ⟨e, e, h1, h2, h3.shaped, h3.shaped, rt_in ?_⟩
    rw [SeqAt.eqv_refl e (good.lay h3.1)]
    exact hp
def fs__law_draw : FSp := fun ds L post => ∃ (a l : Addr) (b : Nat), ds = [.ptr a, .int b] ∧ BagAt a l L ∧ 1 ≤ b ∧ b < 2 ^ 64 ∧ ∀ (r : Nat) L', r < b → BagAt a l L' → Fr a l L L' → post (.int (r : Nat)) L'
set_option maxHeartbeats 0 in
theorem ok__law_draw (m_int : mg "int" = none) (m_range : mg "range" = none)  (i : ∃ (f : Addr) (fd : FuncData), FunD KK.K "_law_draw" "_law_draw" (defArgs s__law_draw) (defBody s__law_draw) (defScope s__law_draw) [] [] f fd ∧ mg "_law_draw" = some (.ref f)) : Cal P w mg base 1 "_law_draw" "_law_draw" s__law_draw ["bag", "below"] fs__law_draw := by
  obtain ⟨f, fd, DD, hm⟩ := i
  refine ⟨f, fd, DD, fn_G (k := 0) DD sc__law_draw ?len (fun cdv A outer s H hG hR => (s_cons (s_for (fun _ => PassesOwn.never) (fun _ => rfl) (i_rng1 (fun _ => rfl) (fun _ => m_range) (a_cons g_int a_nil)) (t_nm (fun _ => sc__law_draw.nd) (fun _ => rfl) (fun _ => by first | exact Or.inl rfl | exact Or.inr rfl) (i := 2)) (s_cons (s_if (b_w (w_or (b_gt (g_ix (fun _ => rfl) (gv 0) g_int (fun _ _ => rfl)) g_int) (w_or1 (b_eqD (fun _ => rfl) (fun _ => hR.units) (g_ix (fun _ => rfl) (gv 0) g_int (fun _ _ => rfl)) (g_lstF a_nil))))) (s_one s_break) s_nil)
    (s_cons (s_set (n := 3) (fun _ => sc__law_draw.nd) (fun _ => rfl) (fun _ => by first | exact Or.inl rfl | exact Or.inr rfl) (g_pop (fun _ => rfl) (g_ix (fun _ => rfl) (gv 0) g_int (fun _ _ => rfl))))
    (s_one (s_asg (g_ite (b_gt (gv 3) (g_pow g_int g_int)) (gv 3) g_int) (t_subL (gv 0) g_int))))))
    (s_cons (s_if (b_gt (g_ix (fun _ => rfl) (gv 0) g_int (fun _ _ => rfl)) g_int) (s_cons (s_set (n := 4) (fun _ => sc__law_draw.nd) (fun _ => rfl) (fun _ => by first | exact Or.inl rfl | exact Or.inr rfl) (g_mod (f_int (fun _ => m_int) (a_cons (g_ix (fun _ => rfl) (gv 0) g_int (fun _ _ => rfl)) a_nil)) (gv 1)))
    (s_cons (s_asg (g_div (g_ix (fun _ => rfl) (gv 0) g_int (fun _ _ => rfl)) (gv 1)) (t_subL (gv 0) g_int))
    (s_one (s_ret (gv 4))))) s_nil)
    (s_cons (s_asg (g_mod (f_int (fun _ => m_int) (a_cons (g_add (g_mul (g_ix (fun _ => rfl) (gv 0) g_int (fun _ _ => rfl)) g_int) g_int) a_nil)) g_int) (t_subL (gv 0) g_int))
    (s_one (s_ret (g_mod (f_int (fun _ => m_int) (a_cons (g_div (g_mod (f_int (fun _ => m_int) (a_cons (g_mul (g_ix (fun _ => rfl) (gv 0) g_int (fun _ _ => rfl)) (g_ix (fun _ => rfl) (gv 0) g_int (fun _ _ => rfl))) a_nil)) g_int) g_int) a_nil)) (gv 1)))))))) ?main, hm⟩
  case len => intro ds L post h; unfold fs__law_draw at h; repeat (first | (obtain ⟨rfl, _⟩ := h; rfl) | (obtain ⟨_, h⟩ := h))
  case main =>
    rintro ds L post ⟨a, l, b, rfl, hB, hb, hb2, hp⟩
    refine seq_gen fun R hR => ?_
    have rest : ∀ L' o1 o2, BagAt a l L' → Fr a l L L' → R [some (.ptr a), some (.int b), o1, o2, none] L' := by
      intro L' o1 o2 hB1 hF1
      refine hR _ _ ?_
      obtain ⟨ns, d, m, h1, h2, h3⟩ := hB1.ex
      simp only [gSq, gNext, gRet, gRetN, gIfS, gAsg, gPar, gPar3, gDrop, gIfE, gTst, gNot, gAnd, gOr, gAndV, gOrV, gNotV, g2, gVar, gC, gNm, gTp, gTl, gGn, gGc, rN, rM, rQ, rNn, gaNil, gaCons, gTupD, gLstF, gLstO, gCall, gCallK, gCB, Gh.c1, Gh.c2, kInt, kInt2, kToInt, gNeg, lk, stt, startG, List.map, List.replicate, List.length, gAug_, dInt, List.cons_append, List.nil_append, gBreak, gCont, gDPut_, gSubD_, gSubL_, gDGet_, gDIn_, onP, onI, onK, onD, onL, onS, onN, gLM, gLM0, gSlF, gSlO, gNo, gPt, kLen, gNewK, gDs1_, Gh.rIxD, itS, itR, itL, itK, mApp, mExt, mPop, mApp1, mExt1, keyD, isLs, gFor, gWh, giL, giT, giR1, giR2, gRvF, gLrF, gLrO, kListF, kListO, gLc, gYes, gDc, wipeG, wipeG.stn, put_same, put_put, atI_last, at0, at1, at2, ix0, ix1, ix2, List.set_cons_zero, List.set_cons_succ, Option.some.injEq, Gh.O.lst.injEq, Gh.O.dic.injEq, Gh.D.ptr.injEq, exists_eq_left', exists_eq_left, exists_eq', exists_eq, true_and, and_true, Bool.false_xor, Bool.true_xor, decide_eq_true_eq, decide_eq_false_iff_not, h1, h2]
      refine ⟨fun hd => ⟨by omega, ⟨by omega, log_small (by omega)⟩, ?_⟩, fun hd => ?_⟩
      · have e : ((d : Int) % b) = ((d % b : Nat) : Int) := (Int.natCast_emod d b).symm
        have e2 : ((d : Int) / b) = ((d / b : Nat) : Int) := (Int.natCast_ediv d b).symm
        rw [e, e2]
        exact rt_in (hp _ _ (Nat.mod_lt _ hb) ⟨hB.ne, ns, d / b, m, put_same, by rw [put_ne hB.ne.symm, h2], h3⟩ hF1.put_a)
      · have e0 : ((m : Int) * 48271 + 11) % 2147483647 = (((m * 48271 + 11) % 2147483647 : Nat) : Int) := by rw [Int.natCast_emod]; rfl
        have hm : (m * 48271 + 11) % 2147483647 < 2147483647 := Nat.mod_lt _ (by decide)
        rw [e0]
        generalize (m * 48271 + 11) % 2147483647 = z at *
        have e1 : ((z : Int) * z % 2147483629 / 7 % b) = ((z * z % 2147483629 / 7 % b : Nat) : Int) := by
          rw [Int.natCast_emod, Int.natCast_ediv, Int.natCast_emod, Int.natCast_mul]; rfl
        refine ⟨mulR (by decide) (by decide), by decide, mulR (by omega) (by omega), by decide, divOk (by decide) (by decide), by omega, ?_⟩
        rw [e1]
        exact rt_in (hp _ _ (Nat.mod_lt _ hb) ⟨hB.ne, ns, d, z, put_same, by rw [put_ne hB.ne.symm, h2], hm⟩ hF1.put_a)
    simp only [gSq, gNext, gRet, gRetN, gIfS, gAsg, gPar, gPar3, gDrop, gIfE, gTst, gNot, gAnd, gOr, gAndV, gOrV, gNotV, g2, gVar, gC, gNm, gTp, gTl, gGn, gGc, rN, rM, rQ, rNn, gaNil, gaCons, gTupD, gLstF, gLstO, gCall, gCallK, gCB, Gh.c1, Gh.c2, kInt, kInt2, kToInt, gNeg, lk, stt, startG, List.map, List.replicate, List.length, gAug_, dInt, List.cons_append, List.nil_append, gBreak, gCont, gDPut_, gSubD_, gSubL_, gDGet_, gDIn_, onP, onI, onK, onD, onL, onS, onN, gLM, gLM0, gSlF, gSlO, gNo, gPt, kLen, gNewK, gDs1_, Gh.rIxD, itS, itR, itL, itK, mApp, mExt, mPop, mApp1, mExt1, keyD, isLs, gFor, gWh, giL, giT, giR1, giR2, gRvF, gLrF, gLrO, kListF, kListO, gLc, gYes, gDc, wipeG, wipeG.stn, put_same, put_put, atI_last, at0, at1, at2, ix0, ix1, ix2, List.set_cons_zero, List.set_cons_succ, Option.some.injEq, Gh.O.lst.injEq, Gh.O.dic.injEq, Gh.D.ptr.injEq, exists_eq_left', exists_eq_left, exists_eq', exists_eq, true_and, and_true, Bool.false_xor, Bool.true_xor, decide_eq_true_eq, decide_eq_false_iff_not]
    refine ⟨⟨by omega, by omega⟩, fun i Γ' L' => BagAt a l L' ∧ Fr a l L L' ∧ ∃ o1 o2, Γ' = [some (.ptr a), some (.int b), o1, o2, none], ⟨hB, Fr.refl, none, none, rfl⟩, fun _ _ _ _ => trivial, ?_, ?_⟩
    · rintro i d _ L1 hd ⟨hB1, hF1, o1, o2, rfl⟩
      obtain ⟨ns, d, m, h1, h2, h3⟩ := hB1.ex
      simp only [gSq, gNext, gRet, gRetN, gIfS, gAsg, gPar, gPar3, gDrop, gIfE, gTst, gNot, gAnd, gOr, gAndV, gOrV, gNotV, g2, gVar, gC, gNm, gTp, gTl, gGn, gGc, rN, rM, rQ, rNn, gaNil, gaCons, gTupD, gLstF, gLstO, gCall, gCallK, gCB, Gh.c1, Gh.c2, kInt, kInt2, kToInt, gNeg, lk, stt, startG, List.map, List.replicate, List.length, gAug_, dInt, List.cons_append, List.nil_append, gBreak, gCont, gDPut_, gSubD_, gSubL_, gDGet_, gDIn_, onP, onI, onK, onD, onL, onS, onN, gLM, gLM0, gSlF, gSlO, gNo, gPt, kLen, gNewK, gDs1_, Gh.rIxD, itS, itR, itL, itK, mApp, mExt, mPop, mApp1, mExt1, keyD, isLs, gFor, gWh, giL, giT, giR1, giR2, gRvF, gLrF, gLrO, kListF, kListO, gLc, gYes, gDc, wipeG, wipeG.stn, put_same, put_put, atI_last, at0, at1, at2, ix0, ix1, ix2, List.set_cons_zero, List.set_cons_succ, Option.some.injEq, Gh.O.lst.injEq, Gh.O.dic.injEq, Gh.D.ptr.injEq, exists_eq_left', exists_eq_left, exists_eq', exists_eq, true_and, and_true, Bool.false_xor, Bool.true_xor, decide_eq_true_eq, decide_eq_false_iff_not, h1, h2]
      refine ⟨fun h => ⟨fun _ => rest _ _ _ hB1 hF1, fun h => by cases h⟩, fun h => ⟨Nat.zero_le _, ?_⟩⟩
      refine ⟨.list ((ns.map fun n => ((n : Nat) : Int)).map .int), .list [], .ptr h2 (py_ints ns), .lst .nil, shaped_ints _, shaped_ints [], ?_⟩
      rcases List.eq_nil_or_concat ns with rfl | ⟨ms, x, e0⟩
      · exact ⟨fun _ => rest _ _ _ hB1 hF1, fun h => by cases h⟩
      · rw [List.concat_eq_append] at e0
        subst e0
        refine ⟨fun h => ?_, fun _ => ?_⟩
        · exfalso
          cases ms with
          | nil => cases h
          | cons y ys => cases h
        · simp only [gSq, gNext, gRet, gRetN, gIfS, gAsg, gPar, gPar3, gDrop, gIfE, gTst, gNot, gAnd, gOr, gAndV, gOrV, gNotV, g2, gVar, gC, gNm, gTp, gTl, gGn, gGc, rN, rM, rQ, rNn, gaNil, gaCons, gTupD, gLstF, gLstO, gCall, gCallK, gCB, Gh.c1, Gh.c2, kInt, kInt2, kToInt, gNeg, lk, stt, startG, List.map, List.replicate, List.length, gAug_, dInt, List.cons_append, List.nil_append, gBreak, gCont, gDPut_, gSubD_, gSubL_, gDGet_, gDIn_, onP, onI, onK, onD, onL, onS, onN, gLM, gLM0, gSlF, gSlO, gNo, gPt, kLen, gNewK, gDs1_, Gh.rIxD, itS, itR, itL, itK, mApp, mExt, mPop, mApp1, mExt1, keyD, isLs, gFor, gWh, giL, giT, giR1, giR2, gRvF, gLrF, gLrO, kListF, kListO, gLc, gYes, gDc, wipeG, wipeG.stn, put_same, put_put, atI_last, at0, at1, at2, ix0, ix1, ix2, List.set_cons_zero, List.set_cons_succ, Option.some.injEq, Gh.O.lst.injEq, Gh.O.dic.injEq, Gh.D.ptr.injEq, exists_eq_left', exists_eq_left, exists_eq', exists_eq, true_and, and_true, Bool.false_xor, Bool.true_xor, decide_eq_true_eq, decide_eq_false_iff_not, h1, h2]
          have e1 : (nats (ms ++ [x]))[(nats (ms ++ [x])).length - 1]? = some (.int (x : Nat)) := by
            rw [nats_length, List.length_append, nats_app]
            show (nats ms ++ [_])[ms.length + 1 - 1]? = _
            rw [show ms.length + 1 - 1 = (nats ms).length by rw [nats_length]; rfl, List.getElem?_concat_length]
          have e2 : (nats (ms ++ [x])).dropLast = nats ms := by rw [nats_app]; exact List.dropLast_concat
          refine ⟨_, _, rfl, e1, ⟨by decide, by decide, by decide⟩, ?_⟩
          rw [e2]
          simp only [gSq, gNext, gRet, gRetN, gIfS, gAsg, gPar, gPar3, gDrop, gIfE, gTst, gNot, gAnd, gOr, gAndV, gOrV, gNotV, g2, gVar, gC, gNm, gTp, gTl, gGn, gGc, rN, rM, rQ, rNn, gaNil, gaCons, gTupD, gLstF, gLstO, gCall, gCallK, gCB, Gh.c1, Gh.c2, kInt, kInt2, kToInt, gNeg, lk, stt, startG, List.map, List.replicate, List.length, gAug_, dInt, List.cons_append, List.nil_append, gBreak, gCont, gDPut_, gSubD_, gSubL_, gDGet_, gDIn_, onP, onI, onK, onD, onL, onS, onN, gLM, gLM0, gSlF, gSlO, gNo, gPt, kLen, gNewK, gDs1_, Gh.rIxD, itS, itR, itL, itK, mApp, mExt, mPop, mApp1, mExt1, keyD, isLs, gFor, gWh, giL, giT, giR1, giR2, gRvF, gLrF, gLrO, kListF, kListO, gLc, gYes, gDc, wipeG, wipeG.stn, put_same, put_put, atI_last, at0, at1, at2, ix0, ix1, ix2, List.set_cons_zero, List.set_cons_succ, Option.some.injEq, Gh.O.lst.injEq, Gh.O.dic.injEq, Gh.D.ptr.injEq, exists_eq_left', exists_eq_left, exists_eq', exists_eq, true_and, and_true, Bool.false_xor, Bool.true_xor, decide_eq_true_eq, decide_eq_false_iff_not, h1, put_ne hB1.ne]
          refine ⟨fun _ => ⟨⟨hB1.ne, ms, x, m, put_same, by rw [put_ne hB1.ne.symm, put_same], h3⟩, hF1.put_l.put_a, _, _, rfl⟩, fun _ => ⟨⟨hB1.ne, ms, 0, m, put_same, by rw [put_ne hB1.ne.symm, put_same], h3⟩, hF1.put_l.put_a, _, _, rfl⟩⟩
    · rintro _ L1 ⟨hB1, hF1, o1, o2, rfl⟩
      exact rest _ _ _ hB1 hF1
def fs__law_pick : FSp := fun ds L post => ∃ (a l : Addr) (xs : List D), ds = [.ptr a, .lst xs] ∧ BagAt a l L ∧ xs ≠ [] ∧ xs.length < 2 ^ 32 ∧ ∀ d L', d ∈ xs → BagAt a l L' → Fr a l L L' → post d L'
set_option maxHeartbeats 0 in
theorem ok__law_pick (m_len : mg "len" = none) (c__law_draw : Cal P w mg base 1 "_law_draw" "_law_draw" s__law_draw ["bag", "below"] fs__law_draw) (i : ∃ (f : Addr) (fd : FuncData), FunD KK.K "_law_pick" "_law_pick" (defArgs s__law_pick) (defBody s__law_pick) (defScope s__law_pick) [] [] f fd ∧ mg "_law_pick" = some (.ref f)) : Cal P w mg base 2 "_law_pick" "_law_pick" s__law_pick ["bag", "some"] fs__law_pick := by
  obtain ⟨f, fd, DD, hm⟩ := i
  refine ⟨f, fd, DD, fn_G (k := 1) DD sc__law_pick ?len (fun cdv A outer s H hG hR => (s_one (s_ret (g_ix (fun _ => rfl) (gv 1) (g_c (fun _ => rfl) (fun _ => hG) (fun _ => hR.mono (by decide)) (fun _ => c__law_draw) bd__law_draw (a_cons (gv 0) (a_cons (f_len (fun _ => rfl) (fun _ => m_len) (a_cons (gv 1) a_nil)) a_nil))) (fun _ _ => rfl))))) ?main, hm⟩
  case len => intro ds L post h; unfold fs__law_pick at h; repeat (first | (obtain ⟨rfl, _⟩ := h; rfl) | (obtain ⟨_, h⟩ := h))
  case main =>
    rintro ds L post ⟨a, l, xs, rfl, hB, hx, hx2, hp⟩
    simp only [gSq, gNext, gRet, gRetN, gIfS, gAsg, gPar, gPar3, gDrop, gIfE, gTst, gNot, gAnd, gOr, gAndV, gOrV, gNotV, g2, gVar, gC, gNm, gTp, gTl, gGn, gGc, rN, rM, rQ, rNn, gaNil, gaCons, gTupD, gLstF, gLstO, gCall, gCallK, gCB, Gh.c1, Gh.c2, kInt, kInt2, kToInt, gNeg, lk, stt, startG, List.map, List.replicate, List.length, gAug_, dInt, List.cons_append, List.nil_append, gBreak, gCont, gDPut_, gSubD_, gSubL_, gDGet_, gDIn_, onP, onI, onK, onD, onL, onS, onN, gLM, gLM0, gSlF, gSlO, gNo, gPt, kLen, gNewK, gDs1_, Gh.rIxD, itS, itR, itL, itK, mApp, mExt, mPop, mApp1, mExt1, keyD, isLs, gFor, gWh, giL, giT, giR1, giR2, gRvF, gLrF, gLrO, kListF, kListO, gLc, gYes, gDc, wipeG, wipeG.stn, put_same, put_put, atI_last, at0, at1, at2, ix0, ix1, ix2, List.set_cons_zero, List.set_cons_succ, Option.some.injEq, Gh.O.lst.injEq, Gh.O.dic.injEq, Gh.D.ptr.injEq, exists_eq_left', exists_eq_left, exists_eq', exists_eq, true_and, and_true, Bool.false_xor, Bool.true_xor, decide_eq_true_eq, decide_eq_false_iff_not]
    have h0 : 1 ≤ xs.length := by
      cases xs with
      | nil => exact absurd rfl hx
      | cons y ys => rw [List.length_cons]; omega
    refine ⟨a, l, xs.length, rfl, hB, h0, by omega, fun r L' hr hB1 hF1 => ?_⟩
    simp only [gSq, gNext, gRet, gRetN, gIfS, gAsg, gPar, gPar3, gDrop, gIfE, gTst, gNot, gAnd, gOr, gAndV, gOrV, gNotV, g2, gVar, gC, gNm, gTp, gTl, gGn, gGc, rN, rM, rQ, rNn, gaNil, gaCons, gTupD, gLstF, gLstO, gCall, gCallK, gCB, Gh.c1, Gh.c2, kInt, kInt2, kToInt, gNeg, lk, stt, startG, List.map, List.replicate, List.length, gAug_, dInt, List.cons_append, List.nil_append, gBreak, gCont, gDPut_, gSubD_, gSubL_, gDGet_, gDIn_, onP, onI, onK, onD, onL, onS, onN, gLM, gLM0, gSlF, gSlO, gNo, gPt, kLen, gNewK, gDs1_, Gh.rIxD, itS, itR, itL, itK, mApp, mExt, mPop, mApp1, mExt1, keyD, isLs, gFor, gWh, giL, giT, giR1, giR2, gRvF, gLrF, gLrO, kListF, kListO, gLc, gYes, gDc, wipeG, wipeG.stn, put_same, put_put, atI_last, at0, at1, at2, ix0, ix1, ix2, List.set_cons_zero, List.set_cons_succ, Option.some.injEq, Gh.O.lst.injEq, Gh.O.dic.injEq, Gh.D.ptr.injEq, exists_eq_left', exists_eq_left, exists_eq', exists_eq, true_and, and_true, Bool.false_xor, Bool.true_xor, decide_eq_true_eq, decide_eq_false_iff_not]
    rw [atI_nat (List.getElem?_eq_getElem hr)]
    exact rt_in (hp _ _ (List.getElem_mem hr) hB1 hF1)
def fs__law_own_bag : FSp := fun ds L post => ∃ (ns : List Int), ds = [.scr (ns.map .int)] ∧ ∀ a l L', BagAt a l L' → L a = none → L l = none → (∀ x o, L x = some o → L' x = some o) → post (.ptr a) L'
set_option maxHeartbeats 0 in
theorem ok__law_own_bag (m_abs : mg "abs" = none) (m_int : mg "int" = none) (m_len : mg "len" = none) (m_list : mg "list" = none) (m_reversed : mg "reversed" = none)  (i : ∃ (f : Addr) (fd : FuncData), FunD KK.K "_law_own_bag" "_law_own_bag" (defArgs s__law_own_bag) (defBody s__law_own_bag) (defScope s__law_own_bag) [] [] f fd ∧ mg "_law_own_bag" = some (.ref f)) : Cal P w mg base 1 "_law_own_bag" "_law_own_bag" s__law_own_bag ["script"] fs__law_own_bag := by
  obtain ⟨f, fd, DD, hm⟩ := i
  refine ⟨f, fd, DD, fn_G (k := 0) DD sc__law_own_bag ?len (fun cdv A outer s H hG hR => (s_cons (s_setLc (i := 1) (own := [("cell", 3)]) (fun _ => rfl) (fun _ => sc__law_own_bag.nd) (fun _ => rfl) (fun _ => rfl) (fun _ => sw_true rfl rfl rfl (by decide +kernel)) (i_lst (fun _ => rfl) (g_slF (fun _ => rfl) (gv 0) o_none (o_some g_int))) (fun _ => blkOk_by (own := [("cell", 3)]) (N := ["script", "cells", "mixed", "cell"]) (sc := defScope s__law_own_bag) (by decide +kernel)) (x_nm (fun _ => sc__law_own_bag.nd) (fun _ => rfl) (fun _ => by first | exact Or.inl rfl | exact Or.inr rfl) (fun _ => Or.inr rfl) (by decide) (i := 3)) if_nil (f_abs (fun _ => m_abs) (a_cons (f_int (fun _ => m_int) (a_cons (gv 3) a_nil)) a_nil)))
    (s_cons (s_set (n := 2) (fun _ => sc__law_own_bag.nd) (fun _ => rfl) (fun _ => by first | exact Or.inl rfl | exact Or.inr rfl) (g_add g_int (f_len (fun _ => rfl) (fun _ => m_len) (a_cons (gv 1) a_nil))))
    (s_cons (s_for (fun _ => PassesOwn.never) (fun _ => rfl) (i_lst (fun _ => rfl) (gv 1)) (t_nm (fun _ => sc__law_own_bag.nd) (fun _ => rfl) (fun _ => by first | exact Or.inl rfl | exact Or.inr rfl) (i := 3)) (s_one (s_set (n := 2) (fun _ => sc__law_own_bag.nd) (fun _ => rfl) (fun _ => by first | exact Or.inl rfl | exact Or.inr rfl) (g_mod (f_int (fun _ => m_int) (a_cons (g_add (g_add (g_mul (gv 2) g_int) (g_mod (f_int (fun _ => m_int) (a_cons (gv 3) a_nil)) g_int)) g_int) a_nil)) g_int))))
    (s_one (s_ret (g_lstO (a_cons (g_lrO (fun _ => rfl) (fun _ => rfl) (fun _ => rfl) (fun _ => m_list) (fun _ => rfl) (fun _ => m_reversed) (f_listF (fun _ => rfl) (fun _ => m_list) (a_cons (gv 1) a_nil))) (a_cons g_int (a_cons (gv 2) a_nil)))))))))) ?main, hm⟩
  case len => intro ds L post h; unfold fs__law_own_bag at h; repeat (first | (obtain ⟨rfl, _⟩ := h; rfl) | (obtain ⟨_, h⟩ := h))
  case main =>
    rintro ds L post ⟨ns, rfl, hp⟩
    refine seq_gen fun R hR => ?_
    have rest : ∀ Z (cs : List Nat), L Z = none → cs.length ≤ 63 → R [some (.scr (ns.map .int)), some (.ptr Z), none, none] (put L Z (.lst (nats cs))) := by
      intro Z cs hZ hcs
      refine hR _ _ ?_
      refine seq_gen fun R2 hR2 => ?_
      simp only [gSq, gNext, gRet, gRetN, gIfS, gAsg, gPar, gPar3, gDrop, gIfE, gTst, gNot, gAnd, gOr, gAndV, gOrV, gNotV, g2, gVar, gC, gNm, gTp, gTl, gGn, gGc, rN, rM, rQ, rNn, gaNil, gaCons, gTupD, gLstF, gLstO, gCall, gCallK, gCB, Gh.c1, Gh.c2, kInt, kInt2, kToInt, gNeg, lk, stt, startG, List.map, List.replicate, List.length, gAug_, dInt, List.cons_append, List.nil_append, gBreak, gCont, gDPut_, gSubD_, gSubL_, gDGet_, gDIn_, onP, onI, onK, onD, onL, onS, onN, gLM, gLM0, gSlF, gSlO, gNo, gPt, kLen, gNewK, gDs1_, Gh.rIxD, itS, itR, itL, itK, mApp, mExt, mPop, mApp1, mExt1, keyD, isLs, gFor, gWh, giL, giT, giR1, giR2, gRvF, gLrF, gLrO, kListF, kListO, gLc, gYes, gDc, wipeG, wipeG.stn, put_same, put_put, atI_last, at0, at1, at2, ix0, ix1, ix2, List.set_cons_zero, List.set_cons_succ, Option.some.injEq, Gh.O.lst.injEq, Gh.O.dic.injEq, Gh.D.ptr.injEq, exists_eq_left', exists_eq_left, exists_eq', exists_eq, true_and, and_true, Bool.false_xor, Bool.true_xor, decide_eq_true_eq, decide_eq_false_iff_not]
      refine hR2 _ _ ?_
      refine seq_gen fun R3 hR3 => ?_
      simp only [gSq, gNext, gRet, gRetN, gIfS, gAsg, gPar, gPar3, gDrop, gIfE, gTst, gNot, gAnd, gOr, gAndV, gOrV, gNotV, g2, gVar, gC, gNm, gTp, gTl, gGn, gGc, rN, rM, rQ, rNn, gaNil, gaCons, gTupD, gLstF, gLstO, gCall, gCallK, gCB, Gh.c1, Gh.c2, kInt, kInt2, kToInt, gNeg, lk, stt, startG, List.map, List.replicate, List.length, gAug_, dInt, List.cons_append, List.nil_append, gBreak, gCont, gDPut_, gSubD_, gSubL_, gDGet_, gDIn_, onP, onI, onK, onD, onL, onS, onN, gLM, gLM0, gSlF, gSlO, gNo, gPt, kLen, gNewK, gDs1_, Gh.rIxD, itS, itR, itL, itK, mApp, mExt, mPop, mApp1, mExt1, keyD, isLs, gFor, gWh, giL, giT, giR1, giR2, gRvF, gLrF, gLrO, kListF, kListO, gLc, gYes, gDc, wipeG, wipeG.stn, put_same, put_put, atI_last, at0, at1, at2, ix0, ix1, ix2, List.set_cons_zero, List.set_cons_succ, Option.some.injEq, Gh.O.lst.injEq, Gh.O.dic.injEq, Gh.D.ptr.injEq, exists_eq_left', exists_eq_left, exists_eq', exists_eq, true_and, and_true, Bool.false_xor, Bool.true_xor, decide_eq_true_eq, decide_eq_false_iff_not]
      refine ⟨fun i Γ' L' => L' = put L Z (.lst (nats cs)) ∧ ∃ (o : Option D) (m : Nat), m < 2147483647 ∧ Γ' = [some (.scr (ns.map .int)), some (.ptr Z), some (.int (m : Nat)), o], ⟨rfl, none, 17533 + cs.length, by omega, ?_⟩, ?_, ?_, ?_⟩
      · rw [nats_length, Int.natCast_add]; rfl
      · rintro _ _ _ ⟨rfl, _⟩
        exact put_same
      · rintro i d _ _ hd ⟨rfl, o, m, hm, rfl⟩
        obtain ⟨x, hx, rfl⟩ := nats_get hd
        simp only [gSq, gNext, gRet, gRetN, gIfS, gAsg, gPar, gPar3, gDrop, gIfE, gTst, gNot, gAnd, gOr, gAndV, gOrV, gNotV, g2, gVar, gC, gNm, gTp, gTl, gGn, gGc, rN, rM, rQ, rNn, gaNil, gaCons, gTupD, gLstF, gLstO, gCall, gCallK, gCB, Gh.c1, Gh.c2, kInt, kInt2, kToInt, gNeg, lk, stt, startG, List.map, List.replicate, List.length, gAug_, dInt, List.cons_append, List.nil_append, gBreak, gCont, gDPut_, gSubD_, gSubL_, gDGet_, gDIn_, onP, onI, onK, onD, onL, onS, onN, gLM, gLM0, gSlF, gSlO, gNo, gPt, kLen, gNewK, gDs1_, Gh.rIxD, itS, itR, itL, itK, mApp, mExt, mPop, mApp1, mExt1, keyD, isLs, gFor, gWh, giL, giT, giR1, giR2, gRvF, gLrF, gLrO, kListF, kListO, gLc, gYes, gDc, wipeG, wipeG.stn, put_same, put_put, atI_last, at0, at1, at2, ix0, ix1, ix2, List.set_cons_zero, List.set_cons_succ, Option.some.injEq, Gh.O.lst.injEq, Gh.O.dic.injEq, Gh.D.ptr.injEq, exists_eq_left', exists_eq_left, exists_eq', exists_eq, true_and, and_true, Bool.false_xor, Bool.true_xor, decide_eq_true_eq, decide_eq_false_iff_not]
        refine ⟨mulR (by decide) (by decide), by decide, by decide, some (.int x), (m * 48271 + x % 2147483629 + 7) % 2147483647, Nat.mod_lt _ (by decide), ?_⟩
        rw [Int.natCast_emod, Int.natCast_add, Int.natCast_add, Int.natCast_mul, Int.natCast_emod]
        rfl
      · rintro _ _ ⟨rfl, o, m, hm, rfl⟩
        refine hR3 _ _ ?_
        simp only [gSq, gNext, gRet, gRetN, gIfS, gAsg, gPar, gPar3, gDrop, gIfE, gTst, gNot, gAnd, gOr, gAndV, gOrV, gNotV, g2, gVar, gC, gNm, gTp, gTl, gGn, gGc, rN, rM, rQ, rNn, gaNil, gaCons, gTupD, gLstF, gLstO, gCall, gCallK, gCB, Gh.c1, Gh.c2, kInt, kInt2, kToInt, gNeg, lk, stt, startG, List.map, List.replicate, List.length, gAug_, dInt, List.cons_append, List.nil_append, gBreak, gCont, gDPut_, gSubD_, gSubL_, gDGet_, gDIn_, onP, onI, onK, onD, onL, onS, onN, gLM, gLM0, gSlF, gSlO, gNo, gPt, kLen, gNewK, gDs1_, Gh.rIxD, itS, itR, itL, itK, mApp, mExt, mPop, mApp1, mExt1, keyD, isLs, gFor, gWh, giL, giT, giR1, giR2, gRvF, gLrF, gLrO, kListF, kListO, gLc, gYes, gDc, wipeG, wipeG.stn, put_same, put_put, atI_last, at0, at1, at2, ix0, ix1, ix2, List.set_cons_zero, List.set_cons_succ, Option.some.injEq, Gh.O.lst.injEq, Gh.O.dic.injEq, Gh.D.ptr.injEq, exists_eq_left', exists_eq_left, exists_eq', exists_eq, true_and, and_true, Bool.false_xor, Bool.true_xor, decide_eq_true_eq, decide_eq_false_iff_not]
        intro l hl
        refine ⟨by rw [sizeLine_eq]; decide, fun a ha => ?_⟩
        have n1 : a ≠ l := fun e => by rw [e, put_same] at ha; cases ha
        have n2 : l ≠ Z := fun e => by rw [e, put_same] at hl; cases hl
        have n3 : a ≠ Z := fun e => by rw [e, put_ne n2.symm, put_same] at ha; cases ha
        rw [put_ne n2] at hl
        rw [put_ne n1, put_ne n3] at ha
        refine rt_in (hp a l _ ⟨n1, cs.reverse, 0, m, put_same, ?_, hm⟩ ha hl ?_)
        · rw [put_ne n1.symm, put_same, nats, nats, List.map_reverse]
        · intro x o ho
          have x1 : x ≠ a := fun e => by rw [e, ha] at ho; cases ho
          have x2 : x ≠ l := fun e => by rw [e, hl] at ho; cases ho
          have x3 : x ≠ Z := fun e => by rw [e, hZ] at ho; cases ho
          rw [put_ne x1, put_ne x2, put_ne x3, ho]
    simp only [gSq, gNext, gRet, gRetN, gIfS, gAsg, gPar, gPar3, gDrop, gIfE, gTst, gNot, gAnd, gOr, gAndV, gOrV, gNotV, g2, gVar, gC, gNm, gTp, gTl, gGn, gGc, rN, rM, rQ, rNn, gaNil, gaCons, gTupD, gLstF, gLstO, gCall, gCallK, gCB, Gh.c1, Gh.c2, kInt, kInt2, kToInt, gNeg, lk, stt, startG, List.map, List.replicate, List.length, gAug_, dInt, List.cons_append, List.nil_append, gBreak, gCont, gDPut_, gSubD_, gSubL_, gDGet_, gDIn_, onP, onI, onK, onD, onL, onS, onN, gLM, gLM0, gSlF, gSlO, gNo, gPt, kLen, gNewK, gDs1_, Gh.rIxD, itS, itR, itL, itK, mApp, mExt, mPop, mApp1, mExt1, keyD, isLs, gFor, gWh, giL, giT, giR1, giR2, gRvF, gLrF, gLrO, kListF, kListO, gLc, gYes, gDc, wipeG, wipeG.stn, put_same, put_put, atI_last, at0, at1, at2, ix0, ix1, ix2, List.set_cons_zero, List.set_cons_succ, Option.some.injEq, Gh.O.lst.injEq, Gh.O.dic.injEq, Gh.D.ptr.injEq, exists_eq_left', exists_eq_left, exists_eq', exists_eq, true_and, and_true, Bool.false_xor, Bool.true_xor, decide_eq_true_eq, decide_eq_false_iff_not]
    intro Z hZ
    have hlen : (cutD (ns.map D.int) none (some 63)).length ≤ 63 := by
      unfold cutD
      rw [List.length_take, show (some (63 : Int)) = some ((63 : Nat) : Int) from rfl, HT.sIx_nat, HT.sIx_none]
      omega
    have hint : ∀ (i : Nat) (d : D), (cutD (ns.map D.int) none (some 63))[i]? = some d → i < 63 ∧ ∃ z : Int, d = .int z := by
      intro i d h
      have hi := (List.getElem?_eq_some_iff.1 h).1
      have hm : d ∈ cutD (ns.map D.int) none (some 63) := List.mem_of_getElem? h
      obtain ⟨z, _, e⟩ := List.mem_map.1 (List.mem_of_mem_drop (List.mem_of_mem_take hm))
      exact ⟨by omega, z, e.symm⟩
    refine ⟨fun i acc L' => ∃ cs : List Nat, acc = nats cs ∧ cs.length = i ∧ L' = put L Z (.lst (nats cs)), ⟨[], rfl, rfl, rfl⟩, ?_, ?_, ?_⟩
    · rintro i _ _ ⟨cs, rfl, rfl, rfl⟩
      simp only [gSq, gNext, gRet, gRetN, gIfS, gAsg, gPar, gPar3, gDrop, gIfE, gTst, gNot, gAnd, gOr, gAndV, gOrV, gNotV, g2, gVar, gC, gNm, gTp, gTl, gGn, gGc, rN, rM, rQ, rNn, gaNil, gaCons, gTupD, gLstF, gLstO, gCall, gCallK, gCB, Gh.c1, Gh.c2, kInt, kInt2, kToInt, gNeg, lk, stt, startG, List.map, List.replicate, List.length, gAug_, dInt, List.cons_append, List.nil_append, gBreak, gCont, gDPut_, gSubD_, gSubL_, gDGet_, gDIn_, onP, onI, onK, onD, onL, onS, onN, gLM, gLM0, gSlF, gSlO, gNo, gPt, kLen, gNewK, gDs1_, Gh.rIxD, itS, itR, itL, itK, mApp, mExt, mPop, mApp1, mExt1, keyD, isLs, gFor, gWh, giL, giT, giR1, giR2, gRvF, gLrF, gLrO, kListF, kListO, gLc, gYes, gDc, wipeG, wipeG.stn, put_same, put_put, atI_last, at0, at1, at2, ix0, ix1, ix2, List.set_cons_zero, List.set_cons_succ, Option.some.injEq, Gh.O.lst.injEq, Gh.O.dic.injEq, Gh.D.ptr.injEq, exists_eq_left', exists_eq_left, exists_eq', exists_eq, true_and, and_true, Bool.false_xor, Bool.true_xor, decide_eq_true_eq, decide_eq_false_iff_not]
    · rintro _ d _ _ hd ⟨cs, rfl, rfl, rfl⟩
      obtain ⟨hi, z, rfl⟩ := hint _ _ hd
      simp only [gSq, gNext, gRet, gRetN, gIfS, gAsg, gPar, gPar3, gDrop, gIfE, gTst, gNot, gAnd, gOr, gAndV, gOrV, gNotV, g2, gVar, gC, gNm, gTp, gTl, gGn, gGc, rN, rM, rQ, rNn, gaNil, gaCons, gTupD, gLstF, gLstO, gCall, gCallK, gCB, Gh.c1, Gh.c2, kInt, kInt2, kToInt, gNeg, lk, stt, startG, List.map, List.replicate, List.length, gAug_, dInt, List.cons_append, List.nil_append, gBreak, gCont, gDPut_, gSubD_, gSubL_, gDGet_, gDIn_, onP, onI, onK, onD, onL, onS, onN, gLM, gLM0, gSlF, gSlO, gNo, gPt, kLen, gNewK, gDs1_, Gh.rIxD, itS, itR, itL, itK, mApp, mExt, mPop, mApp1, mExt1, keyD, isLs, gFor, gWh, giL, giT, giR1, giR2, gRvF, gLrF, gLrO, kListF, kListO, gLc, gYes, gDc, wipeG, wipeG.stn, put_same, put_put, atI_last, at0, at1, at2, ix0, ix1, ix2, List.set_cons_zero, List.set_cons_succ, Option.some.injEq, Gh.O.lst.injEq, Gh.O.dic.injEq, Gh.D.ptr.injEq, exists_eq_left', exists_eq_left, exists_eq', exists_eq, true_and, and_true, Bool.false_xor, Bool.true_xor, decide_eq_true_eq, decide_eq_false_iff_not]
      have e : nats cs ++ [D.int (if z < 0 then -z else z)] = nats (cs ++ [z.natAbs]) := by
        have : (if z < 0 then -z else z) = ((z.natAbs : Nat) : Int) := by split <;> omega
        rw [this, nats_app]; rfl
      refine ⟨fun _ => ⟨by rw [nats_length]; exact line64 (by omega), cs ++ [z.natAbs], e, ?_, ?_⟩, fun h => by cases h⟩
      · rw [List.length_append]; rfl
      · rw [e]
    · rintro _ _ ⟨cs, rfl, h1, rfl⟩
      exact rest Z cs hZ (by omega)
def fs__law_size : FSp := fun ds L post => ∃ (a l : Addr) (b t : Nat), ds = [.ptr a, .int b, .int t] ∧ BagAt a l L ∧ 2 ≤ b ∧ b < 2 ^ 32 ∧ 100 ≤ t ∧ t < 2 ^ 62 ∧ ∀ (r : Nat) L', 1 ≤ r → r ≤ t → BagAt a l L' → Fr a l L L' → post (.int (r : Nat)) L'
set_option maxHeartbeats 0 in
theorem ok__law_size (m_max : mg "max" = none) (m_min : mg "min" = none) (m_range : mg "range" = none) (c__law_draw : Cal P w mg base 1 "_law_draw" "_law_draw" s__law_draw ["bag", "below"] fs__law_draw) (i : ∃ (f : Addr) (fd : FuncData), FunD KK.K "_law_size" "_law_size" (defArgs s__law_size) (defBody s__law_size) (defScope s__law_size) [] [] f fd ∧ mg "_law_size" = some (.ref f)) : Cal P w mg base 2 "_law_size" "_law_size" s__law_size ["bag", "base", "most"] fs__law_size := by
  obtain ⟨f, fd, DD, hm⟩ := i
  refine ⟨f, fd, DD, fn_G (k := 1) DD sc__law_size ?len (fun cdv A outer s H hG hR => (s_cons (s_par (n := 3) (m := 4) (fun _ => rfl) (fun _ => sc__law_size.nd) (fun _ => rfl) (fun _ => rfl) (by decide) (fun _ => rfl) (fun _ => rfl) (a_cons (g_c (fun _ => rfl) (fun _ => hG) (fun _ => hR.mono (by decide)) (fun _ => c__law_draw) bd__law_draw (a_cons (gv 0) (a_cons g_int a_nil))) (a_cons g_int a_nil)))
    (s_cons (s_if (b_lt (gv 3) g_int) (s_cons (s_for (fun _ => PassesOwn.never) (fun _ => rfl) (i_rng1 (fun _ => rfl) (fun _ => m_range) (a_cons (g_c (fun _ => rfl) (fun _ => hG) (fun _ => hR.mono (by decide)) (fun _ => c__law_draw) bd__law_draw (a_cons (gv 0) (a_cons g_int a_nil))) a_nil)) (t_nm (fun _ => sc__law_size.nd) (fun _ => rfl) (fun _ => by first | exact Or.inl rfl | exact Or.inr rfl) (i := 5)) (s_one (s_set (n := 4) (fun _ => sc__law_size.nd) (fun _ => rfl) (fun _ => by first | exact Or.inl rfl | exact Or.inr rfl) (g_ite (b_le (g_mul (gv 4) (gv 1)) (gv 2)) (g_mul (gv 4) (gv 1)) (gv 4)))))
    (s_one (s_ret (f_max2 (fun _ => rfl) (fun _ => rfl) (fun _ => m_max) (a_cons g_int (a_cons (f_min2 (fun _ => rfl) (fun _ => rfl) (fun _ => m_min) (a_cons (gv 2) (a_cons (g_sub (g_add (gv 4) (gv 3)) g_int) a_nil))) a_nil)))))) s_nil)
    (s_cons (s_if (b_eq (gv 3) g_int) (s_one (s_ret (g_add g_int (g_c (fun _ => rfl) (fun _ => hG) (fun _ => hR.mono (by decide)) (fun _ => c__law_draw) bd__law_draw (a_cons (gv 0) (a_cons g_int a_nil)))))) s_nil)
    (s_one (s_ret (g_add g_int (g_c (fun _ => rfl) (fun _ => hG) (fun _ => hR.mono (by decide)) (fun _ => c__law_draw) bd__law_draw (a_cons (gv 0) (a_cons (g_ite (b_eq (gv 3) g_int) (gv 2) (f_min2 (fun _ => rfl) (fun _ => rfl) (fun _ => m_min) (a_cons (gv 2) (a_cons (g_pow g_int g_int) a_nil)))) a_nil)))))))))) ?main, hm⟩
  case len => intro ds L post h; unfold fs__law_size at h; repeat (first | (obtain ⟨rfl, _⟩ := h; rfl) | (obtain ⟨_, h⟩ := h))
  case main =>
    rintro ds L post ⟨a, l, b, t, rfl, hB, hb, hb2, ht, ht2, hp⟩
    simp only [gSq, gNext, gRet, gRetN, gIfS, gAsg, gPar, gPar3, gDrop, gIfE, gTst, gNot, gAnd, gOr, gAndV, gOrV, gNotV, g2, gVar, gC, gNm, gTp, gTl, gGn, gGc, rN, rM, rQ, rNn, gaNil, gaCons, gTupD, gLstF, gLstO, gCall, gCallK, gCB, Gh.c1, Gh.c2, kInt, kInt2, kToInt, gNeg, lk, stt, startG, List.map, List.replicate, List.length, gAug_, dInt, List.cons_append, List.nil_append, gBreak, gCont, gDPut_, gSubD_, gSubL_, gDGet_, gDIn_, onP, onI, onK, onD, onL, onS, onN, gLM, gLM0, gSlF, gSlO, gNo, gPt, kLen, gNewK, gDs1_, Gh.rIxD, itS, itR, itL, itK, mApp, mExt, mPop, mApp1, mExt1, keyD, isLs, gFor, gWh, giL, giT, giR1, giR2, gRvF, gLrF, gLrO, kListF, kListO, gLc, gYes, gDc, wipeG, wipeG.stn, put_same, put_put, atI_last, at0, at1, at2, ix0, ix1, ix2, List.set_cons_zero, List.set_cons_succ, Option.some.injEq, Gh.O.lst.injEq, Gh.O.dic.injEq, Gh.D.ptr.injEq, exists_eq_left', exists_eq_left, exists_eq', exists_eq, true_and, and_true, Bool.false_xor, Bool.true_xor, decide_eq_true_eq, decide_eq_false_iff_not]
    refine ⟨a, l, 6, rfl, hB, by decide, by decide, fun way L1 hw hB1 hF1 => ?_⟩
    simp only [gSq, gNext, gRet, gRetN, gIfS, gAsg, gPar, gPar3, gDrop, gIfE, gTst, gNot, gAnd, gOr, gAndV, gOrV, gNotV, g2, gVar, gC, gNm, gTp, gTl, gGn, gGc, rN, rM, rQ, rNn, gaNil, gaCons, gTupD, gLstF, gLstO, gCall, gCallK, gCB, Gh.c1, Gh.c2, kInt, kInt2, kToInt, gNeg, lk, stt, startG, List.map, List.replicate, List.length, gAug_, dInt, List.cons_append, List.nil_append, gBreak, gCont, gDPut_, gSubD_, gSubL_, gDGet_, gDIn_, onP, onI, onK, onD, onL, onS, onN, gLM, gLM0, gSlF, gSlO, gNo, gPt, kLen, gNewK, gDs1_, Gh.rIxD, itS, itR, itL, itK, mApp, mExt, mPop, mApp1, mExt1, keyD, isLs, gFor, gWh, giL, giT, giR1, giR2, gRvF, gLrF, gLrO, kListF, kListO, gLc, gYes, gDc, wipeG, wipeG.stn, put_same, put_put, atI_last, at0, at1, at2, ix0, ix1, ix2, List.set_cons_zero, List.set_cons_succ, Option.some.injEq, Gh.O.lst.injEq, Gh.O.dic.injEq, Gh.D.ptr.injEq, exists_eq_left', exists_eq_left, exists_eq', exists_eq, true_and, and_true, Bool.false_xor, Bool.true_xor, decide_eq_true_eq, decide_eq_false_iff_not]
    refine ⟨fun hw3 => ?_, fun hw3 => ⟨fun _ => ?_, fun _ => ⟨fun _ => ?_, fun _ => ?_⟩⟩⟩
    · refine ⟨a, l, 60, rfl, hB1, by decide, by decide, fun z L2 hz hB2 hF2 => ?_⟩
      simp only [gSq, gNext, gRet, gRetN, gIfS, gAsg, gPar, gPar3, gDrop, gIfE, gTst, gNot, gAnd, gOr, gAndV, gOrV, gNotV, g2, gVar, gC, gNm, gTp, gTl, gGn, gGc, rN, rM, rQ, rNn, gaNil, gaCons, gTupD, gLstF, gLstO, gCall, gCallK, gCB, Gh.c1, Gh.c2, kInt, kInt2, kToInt, gNeg, lk, stt, startG, List.map, List.replicate, List.length, gAug_, dInt, List.cons_append, List.nil_append, gBreak, gCont, gDPut_, gSubD_, gSubL_, gDGet_, gDIn_, onP, onI, onK, onD, onL, onS, onN, gLM, gLM0, gSlF, gSlO, gNo, gPt, kLen, gNewK, gDs1_, Gh.rIxD, itS, itR, itL, itK, mApp, mExt, mPop, mApp1, mExt1, keyD, isLs, gFor, gWh, giL, giT, giR1, giR2, gRvF, gLrF, gLrO, kListF, kListO, gLc, gYes, gDc, wipeG, wipeG.stn, put_same, put_put, atI_last, at0, at1, at2, ix0, ix1, ix2, List.set_cons_zero, List.set_cons_succ, Option.some.injEq, Gh.O.lst.injEq, Gh.O.dic.injEq, Gh.D.ptr.injEq, exists_eq_left', exists_eq_left, exists_eq', exists_eq, true_and, and_true, Bool.false_xor, Bool.true_xor, decide_eq_true_eq, decide_eq_false_iff_not]
      refine ⟨⟨by omega, by omega⟩, fun i Γ' L' => L' = L2 ∧ ∃ (o : Option D) (n : Nat), n ≤ t ∧ Γ' = [some (.ptr a), some (.int b), some (.int t), some (.int way), some (.int n), o], ⟨rfl, none, 1, by omega, rfl⟩, fun _ _ _ _ => trivial, ?_, ?_⟩
      · rintro i d _ _ hd ⟨rfl, o, n, hn, rfl⟩
        simp only [gSq, gNext, gRet, gRetN, gIfS, gAsg, gPar, gPar3, gDrop, gIfE, gTst, gNot, gAnd, gOr, gAndV, gOrV, gNotV, g2, gVar, gC, gNm, gTp, gTl, gGn, gGc, rN, rM, rQ, rNn, gaNil, gaCons, gTupD, gLstF, gLstO, gCall, gCallK, gCB, Gh.c1, Gh.c2, kInt, kInt2, kToInt, gNeg, lk, stt, startG, List.map, List.replicate, List.length, gAug_, dInt, List.cons_append, List.nil_append, gBreak, gCont, gDPut_, gSubD_, gSubL_, gDGet_, gDIn_, onP, onI, onK, onD, onL, onS, onN, gLM, gLM0, gSlF, gSlO, gNo, gPt, kLen, gNewK, gDs1_, Gh.rIxD, itS, itR, itL, itK, mApp, mExt, mPop, mApp1, mExt1, keyD, isLs, gFor, gWh, giL, giT, giR1, giR2, gRvF, gLrF, gLrO, kListF, kListO, gLc, gYes, gDc, wipeG, wipeG.stn, put_same, put_put, atI_last, at0, at1, at2, ix0, ix1, ix2, List.set_cons_zero, List.set_cons_succ, Option.some.injEq, Gh.O.lst.injEq, Gh.O.dic.injEq, Gh.D.ptr.injEq, exists_eq_left', exists_eq_left, exists_eq', exists_eq, true_and, and_true, Bool.false_xor, Bool.true_xor, decide_eq_true_eq, decide_eq_false_iff_not]
        refine ⟨mulR (by omega) (by omega), fun h => ⟨mulR (by omega) (by omega), _, n * b, ?_, by rw [Int.natCast_mul]⟩, fun h => ⟨_, n, hn, rfl⟩⟩
        rw [← Int.natCast_mul] at h
        exact Int.ofNat_le.1 h
      · rintro _ _ ⟨rfl, o, n, hn, rfl⟩
        simp only [gSq, gNext, gRet, gRetN, gIfS, gAsg, gPar, gPar3, gDrop, gIfE, gTst, gNot, gAnd, gOr, gAndV, gOrV, gNotV, g2, gVar, gC, gNm, gTp, gTl, gGn, gGc, rN, rM, rQ, rNn, gaNil, gaCons, gTupD, gLstF, gLstO, gCall, gCallK, gCB, Gh.c1, Gh.c2, kInt, kInt2, kToInt, gNeg, lk, stt, startG, List.map, List.replicate, List.length, gAug_, dInt, List.cons_append, List.nil_append, gBreak, gCont, gDPut_, gSubD_, gSubL_, gDGet_, gDIn_, onP, onI, onK, onD, onL, onS, onN, gLM, gLM0, gSlF, gSlO, gNo, gPt, kLen, gNewK, gDs1_, Gh.rIxD, itS, itR, itL, itK, mApp, mExt, mPop, mApp1, mExt1, keyD, isLs, gFor, gWh, giL, giT, giR1, giR2, gRvF, gLrF, gLrO, kListF, kListO, gLc, gYes, gDc, wipeG, wipeG.stn, put_same, put_put, atI_last, at0, at1, at2, ix0, ix1, ix2, List.set_cons_zero, List.set_cons_succ, Option.some.injEq, Gh.O.lst.injEq, Gh.O.dic.injEq, Gh.D.ptr.injEq, exists_eq_left', exists_eq_left, exists_eq', exists_eq, true_and, and_true, Bool.false_xor, Bool.true_xor, decide_eq_true_eq, decide_eq_false_iff_not]
        have e : (if (if (n : Int) + way - 1 < t then (n : Int) + way - 1 else (t : Int)) > 1 then if (n : Int) + way - 1 < t then (n : Int) + way - 1 else (t : Int) else 1) = ((max 1 (min t (n + way - 1)) : Nat) : Int) := by
          split <;> split <;> omega
        rw [e]
        exact rt_in (hp _ _ (by omega) (by omega) hB2 (hF1.trans hF2))
    · refine ⟨a, l, 30, rfl, hB1, by decide, by decide, fun z L2 hz hB2 hF2 => ?_⟩
      simp only [gSq, gNext, gRet, gRetN, gIfS, gAsg, gPar, gPar3, gDrop, gIfE, gTst, gNot, gAnd, gOr, gAndV, gOrV, gNotV, g2, gVar, gC, gNm, gTp, gTl, gGn, gGc, rN, rM, rQ, rNn, gaNil, gaCons, gTupD, gLstF, gLstO, gCall, gCallK, gCB, Gh.c1, Gh.c2, kInt, kInt2, kToInt, gNeg, lk, stt, startG, List.map, List.replicate, List.length, gAug_, dInt, List.cons_append, List.nil_append, gBreak, gCont, gDPut_, gSubD_, gSubL_, gDGet_, gDIn_, onP, onI, onK, onD, onL, onS, onN, gLM, gLM0, gSlF, gSlO, gNo, gPt, kLen, gNewK, gDs1_, Gh.rIxD, itS, itR, itL, itK, mApp, mExt, mPop, mApp1, mExt1, keyD, isLs, gFor, gWh, giL, giT, giR1, giR2, gRvF, gLrF, gLrO, kListF, kListO, gLc, gYes, gDc, wipeG, wipeG.stn, put_same, put_put, atI_last, at0, at1, at2, ix0, ix1, ix2, List.set_cons_zero, List.set_cons_succ, Option.some.injEq, Gh.O.lst.injEq, Gh.O.dic.injEq, Gh.D.ptr.injEq, exists_eq_left', exists_eq_left, exists_eq', exists_eq, true_and, and_true, Bool.false_xor, Bool.true_xor, decide_eq_true_eq, decide_eq_false_iff_not]
      rw [show (1 : Int) + (z : Int) = ((1 + z : Nat) : Int) by omega]
      exact rt_in (hp _ _ (by omega) (by omega) hB2 (hF1.trans hF2))
    · refine ⟨a, l, t, rfl, hB1, by omega, by omega, fun z L2 hz hB2 hF2 => ?_⟩
      simp only [gSq, gNext, gRet, gRetN, gIfS, gAsg, gPar, gPar3, gDrop, gIfE, gTst, gNot, gAnd, gOr, gAndV, gOrV, gNotV, g2, gVar, gC, gNm, gTp, gTl, gGn, gGc, rN, rM, rQ, rNn, gaNil, gaCons, gTupD, gLstF, gLstO, gCall, gCallK, gCB, Gh.c1, Gh.c2, kInt, kInt2, kToInt, gNeg, lk, stt, startG, List.map, List.replicate, List.length, gAug_, dInt, List.cons_append, List.nil_append, gBreak, gCont, gDPut_, gSubD_, gSubL_, gDGet_, gDIn_, onP, onI, onK, onD, onL, onS, onN, gLM, gLM0, gSlF, gSlO, gNo, gPt, kLen, gNewK, gDs1_, Gh.rIxD, itS, itR, itL, itK, mApp, mExt, mPop, mApp1, mExt1, keyD, isLs, gFor, gWh, giL, giT, giR1, giR2, gRvF, gLrF, gLrO, kListF, kListO, gLc, gYes, gDc, wipeG, wipeG.stn, put_same, put_put, atI_last, at0, at1, at2, ix0, ix1, ix2, List.set_cons_zero, List.set_cons_succ, Option.some.injEq, Gh.O.lst.injEq, Gh.O.dic.injEq, Gh.D.ptr.injEq, exists_eq_left', exists_eq_left, exists_eq', exists_eq, true_and, and_true, Bool.false_xor, Bool.true_xor, decide_eq_true_eq, decide_eq_false_iff_not]
      rw [show (1 : Int) + (z : Int) = ((1 + z : Nat) : Int) by omega]
      exact rt_in (hp _ _ (by omega) (by omega) hB2 (hF1.trans hF2))
    · have e : (if (10 : Int) ^ Int.toNat 4 < (t : Int) then (10 : Int) ^ Int.toNat 4 else (t : Int)) = ((min t 10000 : Nat) : Int) := by
        have : (10 : Int) ^ Int.toNat 4 = 10000 := by decide
        rw [this]
        split <;> omega
      rw [e]
      refine ⟨⟨by decide, by decide, by decide⟩, a, l, min t 10000, rfl, hB1, by omega, by omega, fun z L2 hz hB2 hF2 => ?_⟩
      simp only [gSq, gNext, gRet, gRetN, gIfS, gAsg, gPar, gPar3, gDrop, gIfE, gTst, gNot, gAnd, gOr, gAndV, gOrV, gNotV, g2, gVar, gC, gNm, gTp, gTl, gGn, gGc, rN, rM, rQ, rNn, gaNil, gaCons, gTupD, gLstF, gLstO, gCall, gCallK, gCB, Gh.c1, Gh.c2, kInt, kInt2, kToInt, gNeg, lk, stt, startG, List.map, List.replicate, List.length, gAug_, dInt, List.cons_append, List.nil_append, gBreak, gCont, gDPut_, gSubD_, gSubL_, gDGet_, gDIn_, onP, onI, onK, onD, onL, onS, onN, gLM, gLM0, gSlF, gSlO, gNo, gPt, kLen, gNewK, gDs1_, Gh.rIxD, itS, itR, itL, itK, mApp, mExt, mPop, mApp1, mExt1, keyD, isLs, gFor, gWh, giL, giT, giR1, giR2, gRvF, gLrF, gLrO, kListF, kListO, gLc, gYes, gDc, wipeG, wipeG.stn, put_same, put_put, atI_last, at0, at1, at2, ix0, ix1, ix2, List.set_cons_zero, List.set_cons_succ, Option.some.injEq, Gh.O.lst.injEq, Gh.O.dic.injEq, Gh.D.ptr.injEq, exists_eq_left', exists_eq_left, exists_eq', exists_eq, true_and, and_true, Bool.false_xor, Bool.true_xor, decide_eq_true_eq, decide_eq_false_iff_not]
      rw [show (1 : Int) + (z : Int) = ((1 + z : Nat) : Int) by omega]
      exact rt_in (hp _ _ (by omega) (by omega) hB2 (hF1.trans hF2))
end
end K06

namespace K06
open PySem PySem.Spec L2 Gh
/-! dicts whose values follow from their keys -/
def dk (f : Nat → D) (ks : List Nat) : List (Key × D) := ks.map fun (n : Nat) => ((Sum.inl ((n : Nat) : Int) : Key), f n)
def hasN (ks : List Nat) (n : Nat) : List Nat := if n ∈ ks then ks else ks ++ [n]
theorem dk_length (f : Nat → D) (ks : List Nat) : (dk f ks).length = ks.length := List.length_map _
theorem dk_find (f : Nat → D) (n : Nat) : ∀ ks : List Nat, findD (dk f ks) (.inl (n : Int)) = if n ∈ ks then some (f n) else none
  | [] => by rw [if_neg (by simp)]; rfl
  | k :: ks => by
    have ih := dk_find f n ks
    unfold findD dk at ih ⊢
    rw [List.map_cons, List.find?_cons]
    by_cases e : k = n
    · subst e
      rw [decide_eq_true rfl, if_pos (by simp)]
      rfl
    · have e2 : ¬ ((Sum.inl (k : Int) : Key) = Sum.inl (n : Int)) := fun q => by
        have := Sum.inl.inj q
        omega
      rw [decide_eq_false e2]
      show Option.map _ (List.find? _ _) = _
      rw [ih]
      by_cases q : n ∈ ks
      · rw [if_pos q, if_pos (List.mem_cons_of_mem _ q)]
      · rw [if_neg q, if_neg (by rw [List.mem_cons]; rintro (z | z); exact e z.symm; exact q z)]
theorem dk_any (f : Nat → D) (n : Nat) (ks : List Nat) : ((dk f ks).any fun kv => decide (kv.1 = Sum.inl (n : Int))) = decide (n ∈ ks) := by
  induction ks with
  | nil => rfl
  | cons k ks ih =>
    unfold dk at ih ⊢
    rw [List.map_cons, List.any_cons, ih]
    by_cases e : k = n
    · subst e; simp
    · have e2 : ¬ ((Sum.inl (k : Int) : Key) = Sum.inl (n : Int)) := fun q => by
        have := Sum.inl.inj q
        omega
      have e3 : ¬ n = k := fun q => e q.symm
      simp [e2, e3, List.mem_cons]
theorem dk_put (f : Nat → D) (n : Nat) (ks : List Nat) : putD (dk f ks) (.inl (n : Int)) (f n) = dk f (hasN ks n) := by
  unfold putD hasN
  rw [dk_any]
  by_cases q : n ∈ ks
  · rw [if_pos (decide_eq_true q), if_pos q]
    unfold dk
    rw [List.map_map]
    apply List.map_congr_left
    intro k hk
    show (if (Sum.inl (k : Int) : Key) = Sum.inl (n : Int) then _ else _) = _
    by_cases e : k = n
    · subst e; rw [if_pos rfl]
    · rw [if_neg fun q => e (by have := Sum.inl.inj q; omega)]
  · rw [if_neg (by simp [q]), if_neg q]
    unfold dk
    rw [List.map_append]; rfl
theorem dk_new (f : Nat → D) (n : Nat) : [((Sum.inl (n : Int) : Key), f n)] = dk f [n] := rfl
theorem mem_hasN {ks : List Nat} {n x : Nat} : x ∈ hasN ks n ↔ x ∈ ks ∨ x = n := by
  unfold hasN
  split
  · exact ⟨.inl, fun h => h.elim id fun e => e ▸ by assumption⟩
  · rw [List.mem_append, List.mem_singleton]
theorem nodup_hasN {ks : List Nat} {n : Nat} (h : ks.Nodup) : (hasN ks n).Nodup := by
  unfold hasN
  split
  · exact h
  · rename_i q
    rw [List.nodup_append]
    exact ⟨h, by simp, fun a ha b hb => by rw [List.mem_singleton] at hb; subst hb; exact fun e => q (e ▸ ha)⟩
theorem length_hasN {ks : List Nat} {n : Nat} : ks.length ≤ (hasN ks n).length := by unfold hasN; split <;> simp
theorem length_hasN_new {ks : List Nat} {n : Nat} (h : n ∉ ks) : (hasN ks n).length = ks.length + 1 := by unfold hasN; rw [if_neg h]; simp
/-! the sizes that may come up -/
def fam (N : Nat) : List Nat := (List.range 64).flatMap fun a => (List.range 44).flatMap fun b => (List.range 3).map fun e => N / (2 ^ a * 3 ^ b) + e
theorem fam_length (N : Nat) : (fam N).length = 8448 := by
  unfold fam
  simp only [List.length_flatMap, List.length_map, List.length_range, List.map_const', List.sum_replicate_nat]
theorem mem_fam {N x : Nat} : x ∈ fam N ↔ ∃ a b e, a < 64 ∧ b < 44 ∧ e < 3 ∧ x = N / (2 ^ a * 3 ^ b) + e := by
  unfold fam
  simp only [List.mem_flatMap, List.mem_map, List.mem_range]
  exact ⟨fun ⟨a, ha, b, hb, e, he, h⟩ => ⟨a, b, e, ha, hb, he, h.symm⟩, fun ⟨a, b, e, ha, hb, he, h⟩ => ⟨a, ha, b, hb, e, he, h.symm⟩⟩
theorem fam_top {N e : Nat} (h : e < 3) : N + e ∈ fam N := mem_fam.2 ⟨0, 0, e, by decide, by decide, h, by simp⟩
theorem fam_room {N a b : Nat} (hN : N < 2 ^ 61) (h : 1 ≤ N / (2 ^ a * 3 ^ b)) : a + 1 < 64 ∧ b + 1 < 44 := by
  have h1 : 2 ^ a * 3 ^ b ≤ N := by
    have hp : 0 < 2 ^ a * 3 ^ b := Nat.mul_pos (Nat.two_pow_pos a) (Nat.pow_pos (by decide))
    have := (Nat.le_div_iff_mul_le hp).1 h
    omega
  have h2 : 2 ^ a ≤ 2 ^ a * 3 ^ b := Nat.le_mul_of_pos_right _ (Nat.pow_pos (by decide))
  have h3 : 3 ^ b ≤ 2 ^ a * 3 ^ b := Nat.le_mul_of_pos_left _ (Nat.two_pow_pos a)
  constructor
  · rcases Nat.lt_or_ge (a + 1) 64 with q | q
    · exact q
    · exfalso
      have : (2 : Nat) ^ 63 ≤ 2 ^ a := Nat.pow_le_pow_right (by decide) (by omega)
      omega
  · rcases Nat.lt_or_ge (b + 1) 44 with q | q
    · exact q
    · exfalso
      have : (3 : Nat) ^ 43 ≤ 3 ^ b := Nat.pow_le_pow_right (by decide) (by omega)
      omega
theorem fam_half {N x i : Nat} (hN : N < 2 ^ 61) (h : x ∈ fam N) (hi : i < 2) : (x + i) / 2 ∈ fam N := by
  obtain ⟨a, b, e, ha, hb, he, rfl⟩ := mem_fam.1 h
  rcases Nat.eq_zero_or_pos (N / (2 ^ a * 3 ^ b)) with q | q
  · exact mem_fam.2 ⟨a, b, (e + i) / 2, ha, hb, by omega, by rw [q]; omega⟩
  · obtain ⟨h1, h2⟩ := fam_room hN q
    have e2 : N / (2 ^ (a + 1) * 3 ^ b) = N / (2 ^ a * 3 ^ b) / 2 := by
      rw [Nat.div_div_eq_div_mul, Nat.pow_succ]
      congr 1
      rw [Nat.mul_assoc, Nat.mul_comm 2, ← Nat.mul_assoc]
    refine mem_fam.2 ⟨a + 1, b, (N / (2 ^ a * 3 ^ b) + e + i) / 2 - N / (2 ^ a * 3 ^ b) / 2, h1, hb, by omega, ?_⟩
    rw [e2]; omega
theorem fam_third {N x i : Nat} (hN : N < 2 ^ 61) (h : x ∈ fam N) (hi : i < 3) : (x + i) / 3 ∈ fam N := by
  obtain ⟨a, b, e, ha, hb, he, rfl⟩ := mem_fam.1 h
  rcases Nat.eq_zero_or_pos (N / (2 ^ a * 3 ^ b)) with q | q
  · exact mem_fam.2 ⟨a, b, (e + i) / 3, ha, hb, by omega, by rw [q]; omega⟩
  · obtain ⟨h1, h2⟩ := fam_room hN q
    have e2 : N / (2 ^ a * 3 ^ (b + 1)) = N / (2 ^ a * 3 ^ b) / 3 := by
      rw [Nat.div_div_eq_div_mul, Nat.pow_succ, Nat.mul_assoc]
    refine mem_fam.2 ⟨a, b + 1, (N / (2 ^ a * 3 ^ b) + e + i) / 3 - N / (2 ^ a * 3 ^ b) / 3, ha, h2, by omega, ?_⟩
    rw [e2]; omega
/-- keys of a dict: none twice, all of one family -/
structure Keys (N : Nat) (ks : List Nat) : Prop where
  nd : ks.Nodup
  sub : ∀ x ∈ ks, x ∈ fam N
theorem Keys.nil {N : Nat} : Keys N [] := ⟨by simp, by simp⟩
theorem Keys.add {N n : Nat} {ks : List Nat} (h : Keys N ks) (hn : n ∈ fam N) : Keys N (hasN ks n) := ⟨nodup_hasN h.nd, fun x hx => (mem_hasN.1 hx).elim (h.sub x) fun e => e ▸ hn⟩
theorem Keys.len {N : Nat} {ks : List Nat} (h : Keys N ks) : ks.length ≤ 8448 := by
  have := h.nd.length_le_of_subset (l₂ := fam N) h.sub
  rw [fam_length] at this
  exact this
theorem Keys.line {N : Nat} {ks : List Nat} (h : Keys N ks) : ks.length < sizeLine := by
  have := h.len
  rw [sizeLine_eq]; omega
/-! products by halves -/
def hv (n : Nat) : Nat := if h : 1 < n then 2 * hv ((n + 1) / 2) + hv (n / 2) else 1
termination_by n
decreasing_by all_goals omega
theorem hv_more {n : Nat} (h : 1 < n) : hv n = 2 * hv ((n + 1) / 2) + hv (n / 2) := by rw [hv, dif_pos h]
theorem hv_end {n : Nat} (h : n ≤ 1) : hv n = 1 := by rw [hv, dif_neg (by omega)]
def sm (n : Nat) : Int := if h : 1 < n then 2 * sm ((n + 1) / 2) + sm (n / 2) + 4 * n - 4 else ((n : Int) - 1) * ((n : Int) - 1)
termination_by n
decreasing_by all_goals omega
theorem sm_more {n : Nat} (h : 1 < n) : sm n = 2 * sm ((n + 1) / 2) + sm (n / 2) + 4 * n - 4 := by rw [sm, dif_pos h]
theorem sm_end {n : Nat} (h : n ≤ 1) : sm n = ((n : Int) - 1) * ((n : Int) - 1) := by rw [sm, dif_neg (by omega)]
theorem hv_pos (n : Nat) : 1 ≤ hv n := by
  induction n using Nat.strongRecOn with
  | _ n ih =>
    rcases Nat.lt_or_ge 1 n with q | q
    · rw [hv_more q]
      have := ih (n / 2) (by omega)
      omega
    · rw [hv_end q]; omega
theorem hv_mono {n m : Nat} (h : n ≤ m) : hv n ≤ hv m := by
  induction m using Nat.strongRecOn generalizing n with
  | _ m ih =>
    rcases Nat.lt_or_ge 1 n with q | q
    · rw [hv_more q, hv_more (show 1 < m by omega)]
      have h1 := ih ((m + 1) / 2) (by omega) (n := (n + 1) / 2) (by omega)
      have h2 := ih (m / 2) (by omega) (n := n / 2) (by omega)
      omega
    · rw [hv_end q]; exact hv_pos m
theorem hv_le_byp (n : Nat) : hv n ≤ byp 3 2 n := by
  induction n using Nat.strongRecOn with
  | _ n ih =>
    rcases Nat.lt_or_ge 1 n with q | q
    · rw [hv_more q, byp_more (by decide) q]
      have e : up 2 n = (n + 1) / 2 := rfl
      have h1 := ih ((n + 1) / 2) (by omega)
      have h2 : hv (n / 2) ≤ hv ((n + 1) / 2) := hv_mono (by omega)
      rw [e]
      omega
    · rw [hv_end q, byp_end q]; exact Nat.le_refl _
theorem hv_two (k : Nat) : hv (2 ^ k) = byp 3 2 (2 ^ k) := by
  induction k with
  | zero => rw [hv_end (by decide), byp_end (by decide)]
  | succ k ih =>
    have q : 1 < 2 ^ (k + 1) := by rw [Nat.pow_succ]; have := Nat.two_pow_pos k; omega
    have e1 : (2 ^ (k + 1) + 1) / 2 = 2 ^ k := by rw [Nat.pow_succ]; omega
    have e2 : 2 ^ (k + 1) / 2 = 2 ^ k := by rw [Nat.pow_succ]; omega
    have e : up 2 (2 ^ (k + 1)) = 2 ^ k := e1
    rw [hv_more q, byp_more (by decide) q, e, e1, e2, ih]
    omega
end K06

namespace K06
open PySem PySem.Spec L2 Gh
def hD (n : Nat) : D := .int (hv n : Nat)
variable [KK]
section
variable {P : Program} {w : World} {mg : Str → Option Value} {base : Heap}
def fs__law_halves (d : Nat) : FSp := fun ds L post => ∃ (n N : Nat) (q : Addr) (ks : List Nat), ds = [.int n, .ptr q] ∧ (∃ e, d = e + 1 ∧ n ≤ 2 ^ e) ∧ L q = some (.dic (dk hD ks)) ∧ Keys N ks ∧ N < 2 ^ 61 ∧ n ∈ fam N ∧ 1 ≤ n ∧
  ∀ ks', Keys N ks' → post (.int (hv n : Nat)) (put L q (.dic (dk hD ks')))
set_option maxHeartbeats 0 in
theorem st__law_halves (d : Nat)  (c__law_up : Cal P w mg base 1 "_law_up" "_law_up" s__law_up ["n", "by"] fs__law_up) (c__law_halves : Cal P w mg base (d + 2) "_law_halves" "_law_halves" s__law_halves ["n", "known"] (fs__law_halves d)) (i : ∃ (f : Addr) (fd : FuncData), FunD KK.K "_law_halves" "_law_halves" (defArgs s__law_halves) (defBody s__law_halves) (defScope s__law_halves) [] [] f fd ∧ mg "_law_halves" = some (.ref f)) : Cal P w mg base (d + 3) "_law_halves" "_law_halves" s__law_halves ["n", "known"] (fs__law_halves (d + 1)) := by
  obtain ⟨f, fd, DD, hm⟩ := i
  refine ⟨f, fd, DD, fn_G (k := d + 3 - 1) DD sc__law_halves ?len (fun cdv A outer s H hG hR => (s_cons (s_if (b_eq (gv 0) g_int) (s_one (s_ret g_int)) s_nil)
    (s_cons (s_if (b_dnin (fun _ => hu_of hR) (gv 0) (gv 1)) (s_one (s_dput (fun _ => hu_of hR) (gv 1) (gv 0) (g_add (g_mul g_int (g_c (fun _ => rfl) (fun _ => hG) (fun _ => hR.mono (by omega)) (fun _ => c__law_halves) bd__law_halves (a_cons (g_c (fun _ => rfl) (fun _ => hG) (fun _ => hR.mono (by omega)) (fun _ => c__law_up) bd__law_up (a_cons (gv 0) (a_cons g_int a_nil))) (a_cons (gv 1) a_nil)))) (g_c (fun _ => rfl) (fun _ => hG) (fun _ => hR.mono (by omega)) (fun _ => c__law_halves) bd__law_halves (a_cons (g_div (gv 0) g_int) (a_cons (gv 1) a_nil)))))) s_nil)
    (s_one (s_ret (g_dget (fun _ => hu_of hR) (gv 1) (gv 0) (fun _ _ => rfl))))))) ?main, hm⟩
  case len => intro ds L post h; unfold fs__law_halves at h; repeat (first | (obtain ⟨rfl, _⟩ := h; rfl) | (obtain ⟨_, h⟩ := h))
  case main =>
    rintro ds L post ⟨n, N, q, ks, rfl, ⟨e, he, hn2⟩, hL, hK, hN, hf, hn, hp⟩
    simp only [gSq, gNext, gRet, gRetN, gIfS, gAsg, gPar, gPar3, gDrop, gIfE, gTst, gNot, gAnd, gOr, gAndV, gOrV, gNotV, g2, gVar, gC, gNm, gTp, gTl, gGn, gGc, rN, rM, rQ, rNn, gaNil, gaCons, gTupD, gLstF, gLstO, gCall, gCallK, gCB, Gh.c1, Gh.c2, kInt, kInt2, kToInt, gNeg, lk, stt, startG, List.map, List.replicate, List.length, gAug_, dInt, List.cons_append, List.nil_append, gBreak, gCont, gDPut_, gSubD_, gSubL_, gDGet_, gDIn_, onP, onI, onK, onD, onL, onS, onN, gLM, gLM0, gSlF, gSlO, gNo, gPt, kLen, gNewK, gDs1_, Gh.rIxD, itS, itR, itL, itK, mApp, mExt, mPop, mApp1, mExt1, keyD, isLs, gFor, gWh, giL, giT, giR1, giR2, gRvF, gLrF, gLrO, kListF, kListO, gLc, gYes, gDc, wipeG, wipeG.stn, put_same, put_put, atI_last, at0, at1, at2, ix0, ix1, ix2, List.set_cons_zero, List.set_cons_succ, Option.some.injEq, Gh.O.lst.injEq, Gh.O.dic.injEq, Gh.D.ptr.injEq, exists_eq_left', exists_eq_left, exists_eq', exists_eq, true_and, and_true, Bool.false_xor, Bool.true_xor, decide_eq_true_eq, decide_eq_false_iff_not, hL]
    have e1 : D.int ((n : Int)) = D.int ((n : Nat) : Int) := rfl
    refine ⟨fun h => ?_, fun h => ⟨fun h2 => ?_, fun h2 => ?_⟩⟩
    · have h1 : n = 1 := by omega
      subst h1
      have := hp ks hK
      rw [put_id hL, hv_end (by decide)] at this
      exact rt_in this
    · have q1 : 1 < n := by omega
      have he1 : 1 ≤ e := by
        rcases Nat.eq_zero_or_pos e with z | z
        · subst z; simp at hn2; omega
        · exact z
      have hde : d = e := by omega
      have hp2 : 2 ^ e = 2 * 2 ^ (e - 1) := by rw [← Nat.pow_succ', show (e - 1).succ = e by omega]
      refine ⟨n, 2, rfl, by decide, by decide, ?_⟩
      refine ⟨up 2 n, N, q, ks, rfl, ⟨e - 1, by omega, by show (n + 1) / 2 ≤ _; omega⟩, hL, hK, hN, fam_half hN hf (i := 1) (by decide), by show 1 ≤ (n + 1) / 2; omega, fun ks1 hK1 => ?_⟩
      simp only [gSq, gNext, gRet, gRetN, gIfS, gAsg, gPar, gPar3, gDrop, gIfE, gTst, gNot, gAnd, gOr, gAndV, gOrV, gNotV, g2, gVar, gC, gNm, gTp, gTl, gGn, gGc, rN, rM, rQ, rNn, gaNil, gaCons, gTupD, gLstF, gLstO, gCall, gCallK, gCB, Gh.c1, Gh.c2, kInt, kInt2, kToInt, gNeg, lk, stt, startG, List.map, List.replicate, List.length, gAug_, dInt, List.cons_append, List.nil_append, gBreak, gCont, gDPut_, gSubD_, gSubL_, gDGet_, gDIn_, onP, onI, onK, onD, onL, onS, onN, gLM, gLM0, gSlF, gSlO, gNo, gPt, kLen, gNewK, gDs1_, Gh.rIxD, itS, itR, itL, itK, mApp, mExt, mPop, mApp1, mExt1, keyD, isLs, gFor, gWh, giL, giT, giR1, giR2, gRvF, gLrF, gLrO, kListF, kListO, gLc, gYes, gDc, wipeG, wipeG.stn, put_same, put_put, atI_last, at0, at1, at2, ix0, ix1, ix2, List.set_cons_zero, List.set_cons_succ, Option.some.injEq, Gh.O.lst.injEq, Gh.O.dic.injEq, Gh.D.ptr.injEq, exists_eq_left', exists_eq_left, exists_eq', exists_eq, true_and, and_true, Bool.false_xor, Bool.true_xor, decide_eq_true_eq, decide_eq_false_iff_not]
      refine ⟨mulL (by decide) (by decide), divOk (by decide) (by decide), n / 2, N, q, ks1, rfl, ⟨e - 1, by omega, by omega⟩, put_same, hK1, hN, fam_half hN hf (i := 0) (by decide), by omega, fun ks2 hK2 => ?_⟩
      have ev : (D.int (2 * ((hv (up 2 n) : Nat) : Int) + ((hv (n / 2) : Nat) : Int))) = hD n := by
        unfold hD
        rw [hv_more q1, Int.natCast_add, Int.natCast_mul]; rfl
      simp only [gSq, gNext, gRet, gRetN, gIfS, gAsg, gPar, gPar3, gDrop, gIfE, gTst, gNot, gAnd, gOr, gAndV, gOrV, gNotV, g2, gVar, gC, gNm, gTp, gTl, gGn, gGc, rN, rM, rQ, rNn, gaNil, gaCons, gTupD, gLstF, gLstO, gCall, gCallK, gCB, Gh.c1, Gh.c2, kInt, kInt2, kToInt, gNeg, lk, stt, startG, List.map, List.replicate, List.length, gAug_, dInt, List.cons_append, List.nil_append, gBreak, gCont, gDPut_, gSubD_, gSubL_, gDGet_, gDIn_, onP, onI, onK, onD, onL, onS, onN, gLM, gLM0, gSlF, gSlO, gNo, gPt, kLen, gNewK, gDs1_, Gh.rIxD, itS, itR, itL, itK, mApp, mExt, mPop, mApp1, mExt1, keyD, isLs, gFor, gWh, giL, giT, giR1, giR2, gRvF, gLrF, gLrO, kListF, kListO, gLc, gYes, gDc, wipeG, wipeG.stn, put_same, put_put, atI_last, at0, at1, at2, ix0, ix1, ix2, List.set_cons_zero, List.set_cons_succ, Option.some.injEq, Gh.O.lst.injEq, Gh.O.dic.injEq, Gh.D.ptr.injEq, exists_eq_left', exists_eq_left, exists_eq', exists_eq, true_and, and_true, Bool.false_xor, Bool.true_xor, decide_eq_true_eq, decide_eq_false_iff_not]
      rw [ev, dk_put, dk_find, if_pos (mem_hasN.2 (.inr rfl))]
      exact ⟨by rw [dk_length]; exact hK2.line, rt_in (hp _ (hK2.add hf))⟩
    · rw [dk_find] at h2 ⊢
      by_cases hm : n ∈ ks
      · rw [if_pos hm] at h2 ⊢
        have := hp ks hK
        rw [put_id hL] at this
        exact rt_in this
      · rw [if_neg hm] at h2
        cases h2
theorem ok__law_halves (c__law_up : Cal P w mg base 1 "_law_up" "_law_up" s__law_up ["n", "by"] fs__law_up) (i : ∃ (f : Addr) (fd : FuncData), FunD KK.K "_law_halves" "_law_halves" (defArgs s__law_halves) (defBody s__law_halves) (defScope s__law_halves) [] [] f fd ∧ mg "_law_halves" = some (.ref f)) :
    ∀ d, Cal P w mg base (d + 2) "_law_halves" "_law_halves" s__law_halves ["n", "known"] (fs__law_halves d)
  | 0 => by
    obtain ⟨f, fd, DD, hm⟩ := i
    have no : ∀ ds L post, ¬ fs__law_halves 0 ds L post := fun ds L post ⟨_, _, _, _, _, ⟨e, h, _⟩, _⟩ => by omega
    exact ⟨f, fd, DD, FnG.never no, hm⟩
  | d + 1 => st__law_halves d c__law_up (ok__law_halves c__law_up i d) i
theorem half0 (x : Nat) : (x : Int) / 2 = ((x / 2 : Nat) : Int) := by omega
theorem half1 (x : Nat) : ((x : Int) + 1) / 2 = (((x + 1) / 2 : Nat) : Int) := by omega
def tD (n : Nat) : D := .bl true
/-- sizes that hold their halves -/
structure Closed (n : Nat) (xs : List Nat) : Prop where
  top : n ∈ xs
  asc : xs.Pairwise (· < ·)
  pos : ∀ x ∈ xs, 1 ≤ x
  fam : ∀ x ∈ xs, x ∈ fam n
  hi : ∀ x ∈ xs, 1 < x → (x + 1) / 2 ∈ xs
  lo : ∀ x ∈ xs, 1 < x → x / 2 ∈ xs
theorem shaped_nil : SeqAt.shaped (.list []) = true := shaped_ints []
def eqNil (xs : List Nat) : Bool := PyData.eqv (.list ((xs.map fun n => ((n : Nat) : Int)).map .int)) (.list [])
theorem eqNil_nil : eqNil [] = true := rfl
theorem eqNil_app (xs : List Nat) (x : Nat) : eqNil (xs ++ [x]) = false := by
  cases xs with
  | nil => rfl
  | cons y ys => rfl
theorem nats_last {xs : List Nat} {x : Nat} : (nats (xs ++ [x]))[(nats (xs ++ [x])).length - 1]? = some (.int (x : Nat)) := by
  rw [nats_length, List.length_append, nats_app]
  show (nats xs ++ [_])[xs.length + 1 - 1]? = _
  rw [show xs.length + 1 - 1 = (nats xs).length by rw [nats_length]; rfl, List.getElem?_concat_length]
theorem nats_dropLast {xs : List Nat} {x : Nat} : (nats (xs ++ [x])).dropLast = nats xs := by rw [nats_app]; exact List.dropLast_concat
/-- two places of one's own -/
structure Two (p q : Addr) (L L' : Led) (A B : O) : Prop where
  ne : p ≠ q
  a : L' p = some A
  b : L' q = some B
  fr : Fr p q L L'
theorem Two.sa {p q : Addr} {L L' : Led} {A B : O} (h : Two p q L L' A B) (A' : O) : Two p q L (put L' p A') A' B := ⟨h.ne, put_same, by rw [put_ne h.ne.symm, h.b], h.fr.put_a⟩
theorem Two.sb {p q : Addr} {L L' : Led} {A B : O} (h : Two p q L L' A B) (B' : O) : Two p q L (put L' q B') A B' := ⟨h.ne, by rw [put_ne h.ne, h.a], put_same, h.fr.put_l⟩
theorem Two.sub {p q : Addr} {L L' : Led} {A B : O} (h : Two p q L L' A B) (hp : L p = none) (hq : L q = none) : Gh.Sub L L' := fun x o e => by
  have h1 : x ≠ p := fun q => by rw [q, hp] at e; cases e
  have h2 : x ≠ q := fun r => by rw [r, hq] at e; cases e
  rw [h.fr x h1 h2, e]
theorem Two.new {p q : Addr} {L : Led} {A B : O} (hp : L p = none) (hq : (put L p A) q = none) : Two p q L (put (put L p A) q B) A B := by
  have hpq : p ≠ q := fun e => by rw [← e, put_same] at hq; cases hq
  exact ⟨hpq, by rw [put_ne hpq, put_same], put_same, (Fr.refl.put_a).put_l⟩
theorem new_ne {p q : Addr} {L : Led} {A : O} (hq : (put L p A) q = none) : p ≠ q := fun e => by rw [← e, put_same] at hq; cases hq
theorem new_old {p q : Addr} {L : Led} {A : O} (hq : (put L p A) q = none) : L q = none := by rw [put_ne (new_ne hq).symm] at hq; exact hq
def fs_sizes_of : FSp := fun ds L post => ∃ n : Nat, ds = [.int n, .int 1] ∧ 1 ≤ n ∧ n < 2 ^ 61 ∧ ∀ xs, Closed n xs → post (.lst (nats xs)) L
set_option maxHeartbeats 0 in
theorem ok_sizes_of (m_sorted : mg "sorted" = none)  (i : ∃ (f : Addr) (fd : FuncData), FunD KK.K "sizes_of" "sizes_of" (defArgs s_sizes_of) (defBody s_sizes_of) (defScope s_sizes_of) [] [] f fd ∧ mg "sizes_of_figurecounts" = some (.ref f)) : Cal P w mg base 1 "sizes_of_figurecounts" "sizes_of" s_sizes_of ["n", "least"] fs_sizes_of := by
  obtain ⟨f, fd, DD, hm⟩ := i
  refine ⟨f, fd, DD, fn_G (k := 0) DD sc_sizes_of ?len (fun cdv A outer s H hG hR => (s_cons (s_par (n := 2) (m := 3) (fun _ => rfl) (fun _ => sc_sizes_of.nd) (fun _ => rfl) (fun _ => rfl) (by decide) (fun _ => rfl) (fun _ => rfl) (a_cons g_newK (a_cons (g_lstO (a_cons (gv 0) a_nil)) a_nil)))
    (s_cons (s_while (fun _ => PassesOwn.never) (b_neD (fun _ => rfl) (fun _ => hR.units) (gv 3) (g_lstF a_nil)) (s_cons (s_set (n := 4) (fun _ => sc_sizes_of.nd) (fun _ => rfl) (fun _ => by first | exact Or.inl rfl | exact Or.inr rfl) (g_pop (fun _ => rfl) (gv 3)))
    (s_one (s_if (b_dnin (fun _ => hu_of hR) (gv 4) (gv 2)) (s_cons (s_dput (fun _ => hu_of hR) (gv 2) (gv 4) g_bl)
    (s_one (s_if (b_gt (gv 4) (gv 1)) (s_one (s_expr (g_ext (fun _ => rfl) (gv 3) (a_cons (g_lstF (a_cons (g_div (g_add (gv 4) g_int) g_int) (a_cons (g_div (gv 4) g_int) a_nil))) a_nil)))) s_nil))) s_nil))))
    (s_one (s_ret (f_sortD (fun _ => rfl) (fun _ => m_sorted) (a_cons (gv 2) a_nil))))))) ?main, hm⟩
  case len => intro ds L post h; unfold fs_sizes_of at h; repeat (first | (obtain ⟨rfl, _⟩ := h; rfl) | (obtain ⟨_, h⟩ := h))
  case main =>
    rintro ds L post ⟨n, rfl, hn, hN, hp⟩
    simp only [gSq, gNext, gRet, gRetN, gIfS, gAsg, gPar, gPar3, gDrop, gIfE, gTst, gNot, gAnd, gOr, gAndV, gOrV, gNotV, g2, gVar, gC, gNm, gTp, gTl, gGn, gGc, rN, rM, rQ, rNn, gaNil, gaCons, gTupD, gLstF, gLstO, gCall, gCallK, gCB, Gh.c1, Gh.c2, kInt, kInt2, kToInt, gNeg, lk, stt, startG, List.map, List.replicate, List.length, gAug_, dInt, List.cons_append, List.nil_append, gBreak, gCont, gDPut_, gSubD_, gSubL_, gDGet_, gDIn_, onP, onI, onK, onD, onL, onS, onN, gLM, gLM0, gSlF, gSlO, gNo, gPt, kLen, gNewK, gDs1_, Gh.rIxD, itS, itR, itL, itK, mApp, mExt, mPop, mApp1, mExt1, keyD, isLs, gFor, gWh, giL, giT, giR1, giR2, gRvF, gLrF, gLrO, kListF, kListO, gLc, gYes, gDc, wipeG, wipeG.stn, put_same, put_put, atI_last, at0, at1, at2, ix0, ix1, ix2, List.set_cons_zero, List.set_cons_succ, Option.some.injEq, Gh.O.lst.injEq, Gh.O.dic.injEq, Gh.D.ptr.injEq, exists_eq_left', exists_eq_left, exists_eq', exists_eq, true_and, and_true, Bool.false_xor, Bool.true_xor, decide_eq_true_eq, decide_eq_false_iff_not, kSortD]
    intro p hpn
    refine ⟨by rw [sizeLine_eq]; decide, fun q hqn => ?_⟩
    refine ⟨fun m Γ' L' => ∃ (ks as : List Nat) (o : Option D), Γ' = [some (.int n), some (.int 1), some (.ptr p), some (.ptr q), o] ∧ Two p q L L' (.dic (dk tD ks)) (.lst (nats as)) ∧ Keys n ks ∧
      (∀ x ∈ as, x ∈ fam n ∧ 1 ≤ x) ∧ (∀ x ∈ ks, 1 ≤ x) ∧ (∀ x ∈ ks, 1 < x → ((x + 1) / 2 ∈ ks ∨ (x + 1) / 2 ∈ as) ∧ (x / 2 ∈ ks ∨ x / 2 ∈ as)) ∧ (n ∈ ks ∨ n ∈ as) ∧ as.length ≤ ks.length + 1 ∧ m = 3 * (8448 - ks.length) + as.length,
      ⟨_, [], [n], none, rfl, Two.new hpn hqn, Keys.nil, fun x hx => ?_, by simp, by simp, .inr (by simp), by simp, rfl⟩, ?_⟩
    · rw [List.mem_singleton] at hx
      subst hx
      exact ⟨fam_top (e := 0) (by decide), hn⟩
    · rintro m _ L1 ⟨ks, as, o, rfl, T, hK, hA, hP, hC, hT, hl, rfl⟩
      simp only [gSq, gNext, gRet, gRetN, gIfS, gAsg, gPar, gPar3, gDrop, gIfE, gTst, gNot, gAnd, gOr, gAndV, gOrV, gNotV, g2, gVar, gC, gNm, gTp, gTl, gGn, gGc, rN, rM, rQ, rNn, gaNil, gaCons, gTupD, gLstF, gLstO, gCall, gCallK, gCB, Gh.c1, Gh.c2, kInt, kInt2, kToInt, gNeg, lk, stt, startG, List.map, List.replicate, List.length, gAug_, dInt, List.cons_append, List.nil_append, gBreak, gCont, gDPut_, gSubD_, gSubL_, gDGet_, gDIn_, onP, onI, onK, onD, onL, onS, onN, gLM, gLM0, gSlF, gSlO, gNo, gPt, kLen, gNewK, gDs1_, Gh.rIxD, itS, itR, itL, itK, mApp, mExt, mPop, mApp1, mExt1, keyD, isLs, gFor, gWh, giL, giT, giR1, giR2, gRvF, gLrF, gLrO, kListF, kListO, gLc, gYes, gDc, wipeG, wipeG.stn, put_same, put_put, atI_last, at0, at1, at2, ix0, ix1, ix2, List.set_cons_zero, List.set_cons_succ, Option.some.injEq, Gh.O.lst.injEq, Gh.O.dic.injEq, Gh.D.ptr.injEq, exists_eq_left', exists_eq_left, exists_eq', exists_eq, true_and, and_true, Bool.false_xor, Bool.true_xor, decide_eq_true_eq, decide_eq_false_iff_not]
      refine ⟨Nat.zero_le _, _, _, .ptr T.b (py_ints as), .lst .nil, shaped_ints _, shaped_nil, ?_⟩
      show ((true ^^ eqNil as) = true → _) ∧ ((true ^^ eqNil as) = false → _)
      have hkl := hK.len
      rcases List.eq_nil_or_concat as with rfl | ⟨bs, x, e0⟩
      · rw [eqNil_nil]
        refine ⟨fun h => (by cases h), fun _ => ?_⟩
        simp only [gSq, gNext, gRet, gRetN, gIfS, gAsg, gPar, gPar3, gDrop, gIfE, gTst, gNot, gAnd, gOr, gAndV, gOrV, gNotV, g2, gVar, gC, gNm, gTp, gTl, gGn, gGc, rN, rM, rQ, rNn, gaNil, gaCons, gTupD, gLstF, gLstO, gCall, gCallK, gCB, Gh.c1, Gh.c2, kInt, kInt2, kToInt, gNeg, lk, stt, startG, List.map, List.replicate, List.length, gAug_, dInt, List.cons_append, List.nil_append, gBreak, gCont, gDPut_, gSubD_, gSubL_, gDGet_, gDIn_, onP, onI, onK, onD, onL, onS, onN, gLM, gLM0, gSlF, gSlO, gNo, gPt, kLen, gNewK, gDs1_, Gh.rIxD, itS, itR, itL, itK, mApp, mExt, mPop, mApp1, mExt1, keyD, isLs, gFor, gWh, giL, giT, giR1, giR2, gRvF, gLrF, gLrO, kListF, kListO, gLc, gYes, gDc, wipeG, wipeG.stn, put_same, put_put, atI_last, at0, at1, at2, ix0, ix1, ix2, List.set_cons_zero, List.set_cons_succ, Option.some.injEq, Gh.O.lst.injEq, Gh.O.dic.injEq, Gh.D.ptr.injEq, exists_eq_left', exists_eq_left, exists_eq', exists_eq, true_and, and_true, Bool.false_xor, Bool.true_xor, decide_eq_true_eq, decide_eq_false_iff_not, T.a]
        refine ⟨ks.map fun n => ((n : Nat) : Int), by unfold dk; rw [List.map_map, List.map_map]; rfl, fun ns hperm hasc => ?_⟩
        obtain ⟨xs, rfl⟩ : ∃ xs : List Nat, ns = xs.map fun n => ((n : Nat) : Int) := by
          refine ⟨ns.map Int.toNat, ?_⟩
          rw [List.map_map]
          refine (List.map_id' ns).symm.trans (List.map_congr_left fun z hz => ?_)
          have := hperm.mem_iff.1 hz
          obtain ⟨y, _, rfl⟩ := List.mem_map.1 this
          show ((y : Nat) : Int) = (((y : Nat) : Int).toNat : Int)
          omega
        have hmem : ∀ x : Nat, x ∈ xs ↔ x ∈ ks := by
          intro x
          have := hperm.mem_iff (a := ((x : Nat) : Int))
          rw [List.mem_map, List.mem_map] at this
          constructor
          · intro hx
            obtain ⟨y, hy, e⟩ := this.1 ⟨x, hx, rfl⟩
            have : y = x := by omega
            exact this ▸ hy
          · intro hx
            obtain ⟨y, hy, e⟩ := this.2 ⟨x, hx, rfl⟩
            have : y = x := by omega
            exact this ▸ hy
        have hnd : xs.Nodup := by
          have h1 : (ks.map fun n => ((n : Nat) : Int)).Nodup := by
            rw [List.nodup_iff_pairwise_ne, List.pairwise_map]
            exact (List.nodup_iff_pairwise_ne.1 hK.nd).imp fun h e => h (by omega)
          have h2 := hperm.nodup_iff.2 h1
          rw [List.nodup_iff_pairwise_ne, List.pairwise_map] at h2
          exact List.nodup_iff_pairwise_ne.2 (h2.imp fun h e => h (by rw [e]))
        have hasc2 : xs.Pairwise (· < ·) := by
          rw [List.pairwise_map] at hasc
          exact (List.pairwise_and_iff.2 ⟨hasc, List.nodup_iff_pairwise_ne.1 hnd⟩).imp fun ⟨h1, h2⟩ => by omega
        have e : (xs.map fun n => ((n : Nat) : Int)).map D.int = nats xs := by rw [List.map_map]; rfl
        rw [e]
        refine ⟨L, T.sub hpn (new_old hqn), hp xs ⟨(hmem n).2 (hT.elim id fun h => by cases h), hasc2, fun x hx => hP x ((hmem x).1 hx), fun x hx => hK.sub x ((hmem x).1 hx), fun x hx h1 => (hmem _).2 (((hC x ((hmem x).1 hx) h1).1).elim id fun h => by cases h), fun x hx h1 => (hmem _).2 (((hC x ((hmem x).1 hx) h1).2).elim id fun h => by cases h)⟩⟩
      · rw [List.concat_eq_append] at e0
        subst e0
        rw [eqNil_app]
        refine ⟨fun _ => ⟨⟨_, T.b⟩, _, _, T.b, nats_last, ?_⟩, fun h => by cases h⟩
        rw [nats_dropLast]
        have T1 := T.sb (.lst (nats bs))
        simp only [gSq, gNext, gRet, gRetN, gIfS, gAsg, gPar, gPar3, gDrop, gIfE, gTst, gNot, gAnd, gOr, gAndV, gOrV, gNotV, g2, gVar, gC, gNm, gTp, gTl, gGn, gGc, rN, rM, rQ, rNn, gaNil, gaCons, gTupD, gLstF, gLstO, gCall, gCallK, gCB, Gh.c1, Gh.c2, kInt, kInt2, kToInt, gNeg, lk, stt, startG, List.map, List.replicate, List.length, gAug_, dInt, List.cons_append, List.nil_append, gBreak, gCont, gDPut_, gSubD_, gSubL_, gDGet_, gDIn_, onP, onI, onK, onD, onL, onS, onN, gLM, gLM0, gSlF, gSlO, gNo, gPt, kLen, gNewK, gDs1_, Gh.rIxD, itS, itR, itL, itK, mApp, mExt, mPop, mApp1, mExt1, keyD, isLs, gFor, gWh, giL, giT, giR1, giR2, gRvF, gLrF, gLrO, kListF, kListO, gLc, gYes, gDc, wipeG, wipeG.stn, put_same, put_put, atI_last, at0, at1, at2, ix0, ix1, ix2, List.set_cons_zero, List.set_cons_succ, Option.some.injEq, Gh.O.lst.injEq, Gh.O.dic.injEq, Gh.D.ptr.injEq, exists_eq_left', exists_eq_left, exists_eq', exists_eq, true_and, and_true, Bool.false_xor, Bool.true_xor, decide_eq_true_eq, decide_eq_false_iff_not, T1.a, dk_find]
        obtain ⟨hxf, hx1⟩ := hA x (by simp)
        have hlb : (bs ++ [x]).length = bs.length + 1 := by simp
        by_cases hm : x ∈ ks
        · rw [if_pos hm]
          refine ⟨fun h => (by cases h), fun _ => ⟨_, (by omega : 3 * (8448 - ks.length) + bs.length < _), ks, bs, _, rfl, T1, hK, fun y hy => hA y (by simp [hy]), hP, fun y hy h1 => ?_, ?_, by omega, rfl⟩⟩
          · have tr : ∀ z : Nat, (z ∈ ks ∨ z ∈ bs ++ [x]) → (z ∈ ks ∨ z ∈ bs) := fun z h => by
              rcases h with h | h
              · exact .inl h
              · rw [List.mem_append, List.mem_singleton] at h
                rcases h with h | rfl
                · exact .inr h
                · exact .inl hm
            exact ⟨tr _ (hC y hy h1).1, tr _ (hC y hy h1).2⟩
          · rcases hT with h | h
            · exact .inl h
            · rw [List.mem_append, List.mem_singleton] at h
              rcases h with h | rfl
              · exact .inr h
              · exact .inl hm
        · rw [if_neg hm]
          have hl2 := length_hasN_new hm
          have hK2 := hK.add hxf
          have hkl2 := hK2.len
          have T2 := T1.sa (.dic (dk tD (hasN ks x)))
          have ep : putD (dk tD ks) (.inl (x : Int)) (.bl true) = dk tD (hasN ks x) := dk_put tD x ks
          refine ⟨fun _ => ⟨by rw [dk_length]; exact hK.line, ?_⟩, fun h => by cases h⟩
          rw [ep]
          refine ⟨fun h1 => ⟨⟨_, T2.b⟩, divOk (by decide) (by decide), divOk (by decide) (by decide), by rw [sizeLine_eq]; decide, _, T2.b, ?_, ?_⟩, fun h1 => ?_⟩
          · rw [nats_length, sizeLine_eq]; omega
          · have e3 : nats bs ++ [D.int (((x : Int) + 1) / 2), D.int ((x : Int) / 2)] = nats (bs ++ [(x + 1) / 2, x / 2]) := by
              rw [half0, half1, nats_app]; rfl
            rw [e3]
            refine ⟨_, ?_, hasN ks x, bs ++ [(x + 1) / 2, x / 2], _, rfl, T2.sb _, hK2, fun y hy => ?_, fun y hy => ?_, fun y hy h2 => ?_, ?_, ?_, rfl⟩
            · rw [List.length_append]
              show 3 * (8448 - (hasN ks x).length) + (bs.length + 2) < _
              omega
            · rw [List.mem_append] at hy
              rcases hy with hy | hy
              · exact hA y (by simp [hy])
              · simp only [List.mem_cons, List.not_mem_nil, or_false] at hy
                rcases hy with rfl | rfl
                · exact ⟨fam_half hN hxf (i := 1) (by decide), by omega⟩
                · exact ⟨fam_half hN hxf (i := 0) (by decide), by omega⟩
            · rcases mem_hasN.1 hy with h | rfl
              · exact hP y h
              · exact hx1
            · rcases mem_hasN.1 hy with h | rfl
              · have tr : ∀ z : Nat, (z ∈ ks ∨ z ∈ bs ++ [x]) → (z ∈ hasN ks x ∨ z ∈ bs ++ [(x + 1) / 2, x / 2]) := fun z h => by
                  rcases h with h | h
                  · exact .inl (mem_hasN.2 (.inl h))
                  · rw [List.mem_append, List.mem_singleton] at h
                    rcases h with h | rfl
                    · exact .inr (by simp [h])
                    · exact .inl (mem_hasN.2 (.inr rfl))
                exact ⟨tr _ (hC y h h2).1, tr _ (hC y h h2).2⟩
              · exact ⟨.inr (by simp), .inr (by simp)⟩
            · rcases hT with h | h
              · exact .inl (mem_hasN.2 (.inl h))
              · rw [List.mem_append, List.mem_singleton] at h
                rcases h with h | rfl
                · exact .inr (by simp [h])
                · exact .inl (mem_hasN.2 (.inr rfl))
            · rw [List.length_append]
              show bs.length + 2 ≤ _
              omega
          · refine ⟨_, ?_, hasN ks x, bs, _, rfl, T2, hK2, fun y hy => hA y (by simp [hy]), fun y hy => ?_, fun y hy h2 => ?_, ?_, by omega, rfl⟩
            · omega
            · rcases mem_hasN.1 hy with h | rfl
              · exact hP y h
              · exact hx1
            · rcases mem_hasN.1 hy with h | rfl
              · have tr : ∀ z : Nat, (z ∈ ks ∨ z ∈ bs ++ [x]) → (z ∈ hasN ks x ∨ z ∈ bs) := fun z h => by
                  rcases h with h | h
                  · exact .inl (mem_hasN.2 (.inl h))
                  · rw [List.mem_append, List.mem_singleton] at h
                    rcases h with h | rfl
                    · exact .inr h
                    · exact .inl (mem_hasN.2 (.inr rfl))
                exact ⟨tr _ (hC y h h2).1, tr _ (hC y h h2).2⟩
              · omega
            · rcases hT with h | h
              · exact .inl (mem_hasN.2 (.inl h))
              · rw [List.mem_append, List.mem_singleton] at h
                rcases h with h | rfl
                · exact .inr h
                · exact .inl (mem_hasN.2 (.inr rfl))
def sD (n : Nat) : D := .int (sm n)
theorem Closed.nd {n : Nat} {xs : List Nat} (h : Closed n xs) : xs.Nodup := List.nodup_iff_pairwise_ne.2 (h.asc.imp fun h e => by omega)
theorem asc_take {xs : List Nat} (h : xs.Pairwise (· < ·)) {i x k : Nat} (hx : xs[i]? = some x) (hk : k ∈ xs) (hl : k < x) : k ∈ xs.take i := by
  obtain ⟨j, hj⟩ := List.getElem?_of_mem hk
  obtain ⟨hi, ei⟩ := List.getElem?_eq_some_iff.1 hx
  obtain ⟨hj2, ej⟩ := List.getElem?_eq_some_iff.1 hj
  have hji : j < i := by
    rcases Nat.lt_or_ge j i with q | q
    · exact q
    · exfalso
      rcases Nat.lt_or_ge i j with z | z
      · have := List.pairwise_iff_getElem.1 h i j hi hj2 z
        omega
      · have : i = j := by omega
        subst this; omega
  exact List.mem_of_getElem? (i := j) (by rw [List.getElem?_take, if_pos hji]; exact hj)
theorem hasN_take {xs : List Nat} (h : xs.Nodup) {i x : Nat} (hx : xs[i]? = some x) : hasN (xs.take i) x = xs.take (i + 1) := by
  obtain ⟨hi, ei⟩ := List.getElem?_eq_some_iff.1 hx
  have hn : x ∉ xs.take i := fun hm => by
    obtain ⟨j, hj⟩ := List.getElem?_of_mem hm
    rw [List.getElem?_take] at hj
    split at hj
    · rename_i hji
      obtain ⟨hj2, ej⟩ := List.getElem?_eq_some_iff.1 hj
      exact List.pairwise_iff_getElem.1 (List.nodup_iff_pairwise_ne.1 h) j i hj2 hi hji (by rw [ej, ei])
    · cases hj
  unfold hasN
  rw [if_neg hn, List.take_add_one, hx]; rfl
theorem Closed.keys {n : Nat} {xs : List Nat} (h : Closed n xs) (i : Nat) : Keys n (xs.take i) := ⟨h.nd.sublist (List.take_sublist _ _), fun x hx => h.fam x (List.mem_of_mem_take hx)⟩
def fs_made_by : FSp := fun ds L post => ∃ n : Nat, ds = [.int n, .int 1] ∧ 1 ≤ n ∧ n < 2 ^ 61 ∧ post (.tup [.int (hv n : Nat), .int (sm n)]) L
set_option maxHeartbeats 0 in
theorem ok_made_by  (c_sizes_of : Cal P w mg base 1 "sizes_of_figurecounts" "sizes_of" s_sizes_of ["n", "least"] fs_sizes_of) (i : ∃ (f : Addr) (fd : FuncData), FunD KK.K "made_by" "made_by" (defArgs s_made_by) (defBody s_made_by) (defScope s_made_by) [] [] f fd ∧ mg "made_by" = some (.ref f)) : Cal P w mg base 2 "made_by" "made_by" s_made_by ["n", "least"] fs_made_by := by
  obtain ⟨f, fd, DD, hm⟩ := i
  refine ⟨f, fd, DD, fn_G (k := 1) DD sc_made_by ?len (fun cdv A outer s H hG hR => (s_cons (s_par (n := 2) (m := 3) (fun _ => rfl) (fun _ => sc_made_by.nd) (fun _ => rfl) (fun _ => rfl) (by decide) (fun _ => rfl) (fun _ => rfl) (a_cons g_newK (a_cons g_newK a_nil)))
    (s_cons (s_for (fun _ => PassesOwn.never) (fun _ => rfl) (i_lst (fun _ => rfl) (g_c (fun _ => rfl) (fun _ => hG) (fun _ => hR.mono (by decide)) (fun _ => c_sizes_of) bd_sizes_of (a_cons (gv 0) (a_cons (gv 1) a_nil)))) (t_nm (fun _ => sc_made_by.nd) (fun _ => rfl) (fun _ => by first | exact Or.inl rfl | exact Or.inr rfl) (i := 4)) (s_one (s_if (b_le (gv 4) (gv 1)) (s_one (s_asg (g_tup (a_cons (g_mul (gv 4) (gv 4)) (a_cons (g_mul (g_sub (gv 4) g_int) (g_sub (gv 4) g_int)) a_nil))) (t_tp (n := 2) (fun _ => rfl) (fun _ => rfl) (ts_cons (t_subD (fun _ => hu_of hR) (gv 2) (gv 4)) (ts_cons (t_subD (fun _ => hu_of hR) (gv 3) (gv 4)) ts_nil))))) (s_cons (s_par (n := 5) (m := 6) (fun _ => rfl) (fun _ => sc_made_by.nd) (fun _ => rfl) (fun _ => rfl) (by decide) (fun _ => rfl) (fun _ => rfl) (a_cons (g_div (g_add (gv 4) g_int) g_int) (a_cons (g_div (gv 4) g_int) a_nil)))
    (s_cons (s_dput (fun _ => hu_of hR) (gv 2) (gv 4) (g_add (g_mul g_int (g_dget (fun _ => hu_of hR) (gv 2) (gv 5) (fun _ _ => rfl))) (g_dget (fun _ => hu_of hR) (gv 2) (gv 6) (fun _ _ => rfl))))
    (s_one (s_dput (fun _ => hu_of hR) (gv 3) (gv 4) (g_sub (g_add (g_add (g_mul g_int (g_dget (fun _ => hu_of hR) (gv 3) (gv 5) (fun _ _ => rfl))) (g_dget (fun _ => hu_of hR) (gv 3) (gv 6) (fun _ _ => rfl))) (g_mul g_int (gv 4))) g_int))))))))
    (s_one (s_ret (g_tup (a_cons (g_dget (fun _ => hu_of hR) (gv 2) (gv 0) (fun _ _ => rfl)) (a_cons (g_dget (fun _ => hu_of hR) (gv 3) (gv 0) (fun _ _ => rfl)) a_nil)))))))) ?main, hm⟩
  case len => intro ds L post h; unfold fs_made_by at h; repeat (first | (obtain ⟨rfl, _⟩ := h; rfl) | (obtain ⟨_, h⟩ := h))
  case main =>
    rintro ds L post ⟨n, rfl, hn, hN, hp⟩
    simp only [gSq, gNext, gRet, gRetN, gIfS, gAsg, gPar, gPar3, gDrop, gIfE, gTst, gNot, gAnd, gOr, gAndV, gOrV, gNotV, g2, gVar, gC, gNm, gTp, gTl, gGn, gGc, rN, rM, rQ, rNn, gaNil, gaCons, gTupD, gLstF, gLstO, gCall, gCallK, gCB, Gh.c1, Gh.c2, kInt, kInt2, kToInt, gNeg, lk, stt, startG, List.map, List.replicate, List.length, gAug_, dInt, List.cons_append, List.nil_append, gBreak, gCont, gDPut_, gSubD_, gSubL_, gDGet_, gDIn_, onP, onI, onK, onD, onL, onS, onN, gLM, gLM0, gSlF, gSlO, gNo, gPt, kLen, gNewK, gDs1_, Gh.rIxD, itS, itR, itL, itK, mApp, mExt, mPop, mApp1, mExt1, keyD, isLs, gFor, gWh, giL, giT, giR1, giR2, gRvF, gLrF, gLrO, kListF, kListO, gLc, gYes, gDc, wipeG, wipeG.stn, put_same, put_put, atI_last, at0, at1, at2, ix0, ix1, ix2, List.set_cons_zero, List.set_cons_succ, Option.some.injEq, Gh.O.lst.injEq, Gh.O.dic.injEq, Gh.D.ptr.injEq, exists_eq_left', exists_eq_left, exists_eq', exists_eq, true_and, and_true, Bool.false_xor, Bool.true_xor, decide_eq_true_eq, decide_eq_false_iff_not]
    intro p hpn q hqn
    refine ⟨n, rfl, hn, hN, fun xs hC => ?_⟩
    have T0 := Two.new (B := .dic (dk sD [])) hpn hqn
    refine ⟨fun i Γ' L' => Two p q L L' (.dic (dk hD (xs.take i))) (.dic (dk sD (xs.take i))) ∧ ∃ o1 o2 o3, Γ' = [some (.int n), some (.int 1), some (.ptr p), some (.ptr q), o1, o2, o3], ⟨T0, none, none, none, rfl⟩, fun _ _ _ _ => trivial, ?_, ?_⟩
    · rintro i d _ L1 hd ⟨T, o1, o2, o3, rfl⟩
      obtain ⟨x, hx, rfl⟩ := nats_get hd
      have hxm : x ∈ xs := List.mem_of_getElem? hx
      have hx1 := hC.pos x hxm
      have hxN : x < 2 ^ 62 := by
        obtain ⟨a, b, e, _, _, he, h⟩ := mem_fam.1 (hC.fam x hxm)
        have := Nat.div_le_self n (2 ^ a * 3 ^ b)
        omega
      have hlen : ∀ f, (dk f (xs.take i)).length < sizeLine := fun f => by rw [dk_length]; exact (hC.keys i).line
      have hh := hasN_take hC.nd hx
      simp only [gSq, gNext, gRet, gRetN, gIfS, gAsg, gPar, gPar3, gDrop, gIfE, gTst, gNot, gAnd, gOr, gAndV, gOrV, gNotV, g2, gVar, gC, gNm, gTp, gTl, gGn, gGc, rN, rM, rQ, rNn, gaNil, gaCons, gTupD, gLstF, gLstO, gCall, gCallK, gCB, Gh.c1, Gh.c2, kInt, kInt2, kToInt, gNeg, lk, stt, startG, List.map, List.replicate, List.length, gAug_, dInt, List.cons_append, List.nil_append, gBreak, gCont, gDPut_, gSubD_, gSubL_, gDGet_, gDIn_, onP, onI, onK, onD, onL, onS, onN, gLM, gLM0, gSlF, gSlO, gNo, gPt, kLen, gNewK, gDs1_, Gh.rIxD, itS, itR, itL, itK, mApp, mExt, mPop, mApp1, mExt1, keyD, isLs, gFor, gWh, giL, giT, giR1, giR2, gRvF, gLrF, gLrO, kListF, kListO, gLc, gYes, gDc, wipeG, wipeG.stn, put_same, put_put, atI_last, at0, at1, at2, ix0, ix1, ix2, List.set_cons_zero, List.set_cons_succ, Option.some.injEq, Gh.O.lst.injEq, Gh.O.dic.injEq, Gh.D.ptr.injEq, exists_eq_left', exists_eq_left, exists_eq', exists_eq, true_and, and_true, Bool.false_xor, Bool.true_xor, decide_eq_true_eq, decide_eq_false_iff_not, T.a, T.b]
      refine ⟨fun h => ?_, fun h => ?_⟩
      · have h1 : x = 1 := by omega
        subst h1
        refine ⟨mulL (by decide) (by decide), mulL (by decide) (by decide), by rw [sizeLine_eq]; decide, hlen _, ?_⟩
        have e1 : D.int (((1 : Nat) : Int) * ((1 : Nat) : Int)) = hD 1 := by unfold hD; rw [hv_end (by decide)]; rfl
        have e2 : D.int ((((1 : Nat) : Int) - 1) * (((1 : Nat) : Int) - 1)) = sD 1 := by unfold sD; rw [sm_end (by decide)]
        rw [e1, e2, dk_put, hh]
        have T1 := T.sa (.dic (dk hD (xs.take (i + 1))))
        simp only [gSq, gNext, gRet, gRetN, gIfS, gAsg, gPar, gPar3, gDrop, gIfE, gTst, gNot, gAnd, gOr, gAndV, gOrV, gNotV, g2, gVar, gC, gNm, gTp, gTl, gGn, gGc, rN, rM, rQ, rNn, gaNil, gaCons, gTupD, gLstF, gLstO, gCall, gCallK, gCB, Gh.c1, Gh.c2, kInt, kInt2, kToInt, gNeg, lk, stt, startG, List.map, List.replicate, List.length, gAug_, dInt, List.cons_append, List.nil_append, gBreak, gCont, gDPut_, gSubD_, gSubL_, gDGet_, gDIn_, onP, onI, onK, onD, onL, onS, onN, gLM, gLM0, gSlF, gSlO, gNo, gPt, kLen, gNewK, gDs1_, Gh.rIxD, itS, itR, itL, itK, mApp, mExt, mPop, mApp1, mExt1, keyD, isLs, gFor, gWh, giL, giT, giR1, giR2, gRvF, gLrF, gLrO, kListF, kListO, gLc, gYes, gDc, wipeG, wipeG.stn, put_same, put_put, atI_last, at0, at1, at2, ix0, ix1, ix2, List.set_cons_zero, List.set_cons_succ, Option.some.injEq, Gh.O.lst.injEq, Gh.O.dic.injEq, Gh.D.ptr.injEq, exists_eq_left', exists_eq_left, exists_eq', exists_eq, true_and, and_true, Bool.false_xor, Bool.true_xor, decide_eq_true_eq, decide_eq_false_iff_not, T1.b]
        rw [dk_put, hh]
        exact ⟨hlen _, T1.sb _, _, _, _, rfl⟩
      · have h1 : 1 < x := by omega
        have m1 := asc_take hC.asc hx (hC.hi x hxm h1) (by omega)
        have m2 := asc_take hC.asc hx (hC.lo x hxm h1) (by omega)
        refine ⟨divOk (by decide) (by decide), divOk (by decide) (by decide), ?_⟩
        rw [half0, half1]
        simp only [gSq, gNext, gRet, gRetN, gIfS, gAsg, gPar, gPar3, gDrop, gIfE, gTst, gNot, gAnd, gOr, gAndV, gOrV, gNotV, g2, gVar, gC, gNm, gTp, gTl, gGn, gGc, rN, rM, rQ, rNn, gaNil, gaCons, gTupD, gLstF, gLstO, gCall, gCallK, gCB, Gh.c1, Gh.c2, kInt, kInt2, kToInt, gNeg, lk, stt, startG, List.map, List.replicate, List.length, gAug_, dInt, List.cons_append, List.nil_append, gBreak, gCont, gDPut_, gSubD_, gSubL_, gDGet_, gDIn_, onP, onI, onK, onD, onL, onS, onN, gLM, gLM0, gSlF, gSlO, gNo, gPt, kLen, gNewK, gDs1_, Gh.rIxD, itS, itR, itL, itK, mApp, mExt, mPop, mApp1, mExt1, keyD, isLs, gFor, gWh, giL, giT, giR1, giR2, gRvF, gLrF, gLrO, kListF, kListO, gLc, gYes, gDc, wipeG, wipeG.stn, put_same, put_put, atI_last, at0, at1, at2, ix0, ix1, ix2, List.set_cons_zero, List.set_cons_succ, Option.some.injEq, Gh.O.lst.injEq, Gh.O.dic.injEq, Gh.D.ptr.injEq, exists_eq_left', exists_eq_left, exists_eq', exists_eq, true_and, and_true, Bool.false_xor, Bool.true_xor, decide_eq_true_eq, decide_eq_false_iff_not, T.a, T.b, dk_find, if_pos m1, if_pos m2, hD]
        refine ⟨mulL (by decide) (by decide), hlen _, ?_⟩
        have e1 : D.int (2 * ((hv ((x + 1) / 2) : Nat) : Int) + ((hv (x / 2) : Nat) : Int)) = hD x := by
          unfold hD
          rw [hv_more h1, Int.natCast_add, Int.natCast_mul]; rfl
        have T1 := T.sa (.dic (dk hD (xs.take (i + 1))))
        have ep := dk_put hD x (xs.take i)
        rw [e1, ep, hh]
        simp only [gSq, gNext, gRet, gRetN, gIfS, gAsg, gPar, gPar3, gDrop, gIfE, gTst, gNot, gAnd, gOr, gAndV, gOrV, gNotV, g2, gVar, gC, gNm, gTp, gTl, gGn, gGc, rN, rM, rQ, rNn, gaNil, gaCons, gTupD, gLstF, gLstO, gCall, gCallK, gCB, Gh.c1, Gh.c2, kInt, kInt2, kToInt, gNeg, lk, stt, startG, List.map, List.replicate, List.length, gAug_, dInt, List.cons_append, List.nil_append, gBreak, gCont, gDPut_, gSubD_, gSubL_, gDGet_, gDIn_, onP, onI, onK, onD, onL, onS, onN, gLM, gLM0, gSlF, gSlO, gNo, gPt, kLen, gNewK, gDs1_, Gh.rIxD, itS, itR, itL, itK, mApp, mExt, mPop, mApp1, mExt1, keyD, isLs, gFor, gWh, giL, giT, giR1, giR2, gRvF, gLrF, gLrO, kListF, kListO, gLc, gYes, gDc, wipeG, wipeG.stn, put_same, put_put, atI_last, at0, at1, at2, ix0, ix1, ix2, List.set_cons_zero, List.set_cons_succ, Option.some.injEq, Gh.O.lst.injEq, Gh.O.dic.injEq, Gh.D.ptr.injEq, exists_eq_left', exists_eq_left, exists_eq', exists_eq, true_and, and_true, Bool.false_xor, Bool.true_xor, decide_eq_true_eq, decide_eq_false_iff_not, T1.b, dk_find, if_pos m1, if_pos m2, sD]
        have e2 : D.int (2 * sm ((x + 1) / 2) + sm (x / 2) + 4 * (x : Int) - 4) = sD x := by
          unfold sD
          rw [sm_more h1]
        have ep2 := dk_put sD x (xs.take i)
        rw [e2, ep2, hh]
        exact ⟨mulL (by decide) (by decide), mulL (by decide) (by decide), hlen _, T1.sb _, _, _, _, rfl⟩
    · rintro _ L1 ⟨T, o1, o2, o3, rfl⟩
      rw [nats_length, List.take_length] at T
      simp only [gSq, gNext, gRet, gRetN, gIfS, gAsg, gPar, gPar3, gDrop, gIfE, gTst, gNot, gAnd, gOr, gAndV, gOrV, gNotV, g2, gVar, gC, gNm, gTp, gTl, gGn, gGc, rN, rM, rQ, rNn, gaNil, gaCons, gTupD, gLstF, gLstO, gCall, gCallK, gCB, Gh.c1, Gh.c2, kInt, kInt2, kToInt, gNeg, lk, stt, startG, List.map, List.replicate, List.length, gAug_, dInt, List.cons_append, List.nil_append, gBreak, gCont, gDPut_, gSubD_, gSubL_, gDGet_, gDIn_, onP, onI, onK, onD, onL, onS, onN, gLM, gLM0, gSlF, gSlO, gNo, gPt, kLen, gNewK, gDs1_, Gh.rIxD, itS, itR, itL, itK, mApp, mExt, mPop, mApp1, mExt1, keyD, isLs, gFor, gWh, giL, giT, giR1, giR2, gRvF, gLrF, gLrO, kListF, kListO, gLc, gYes, gDc, wipeG, wipeG.stn, put_same, put_put, atI_last, at0, at1, at2, ix0, ix1, ix2, List.set_cons_zero, List.set_cons_succ, Option.some.injEq, Gh.O.lst.injEq, Gh.O.dic.injEq, Gh.D.ptr.injEq, exists_eq_left', exists_eq_left, exists_eq', exists_eq, true_and, and_true, Bool.false_xor, Bool.true_xor, decide_eq_true_eq, decide_eq_false_iff_not, T.a, T.b, dk_find, if_pos hC.top]
      exact ⟨by rw [sizeLine_eq]; decide, L, T.sub hpn (new_old hqn), hp⟩
def fs_products_made : FSp := fun ds L post => ∃ n : Nat, ds = [.int n, .int 1] ∧ 1 ≤ n ∧ n < 2 ^ 61 ∧ post (.int (hv n : Nat)) L
set_option maxHeartbeats 0 in
theorem ok_products_made  (c_made_by : Cal P w mg base 2 "made_by" "made_by" s_made_by ["n", "least"] fs_made_by) (i : ∃ (f : Addr) (fd : FuncData), FunD KK.K "products_made" "products_made" (defArgs s_products_made) (defBody s_products_made) (defScope s_products_made) [] [] f fd ∧ mg "products_made" = some (.ref f)) : Cal P w mg base 3 "products_made" "products_made" s_products_made ["n", "least"] fs_products_made := by
  obtain ⟨f, fd, DD, hm⟩ := i
  refine ⟨f, fd, DD, fn_G (k := 2) DD sc_products_made ?len (fun cdv A outer s H hG hR => (s_one (s_ret (g_ix (fun _ => rfl) (g_c (fun _ => rfl) (fun _ => hG) (fun _ => hR.mono (by decide)) (fun _ => c_made_by) bd_made_by (a_cons (gv 0) (a_cons (gv 1) a_nil))) g_int (fun _ _ => rfl))))) ?main, hm⟩
  case len => intro ds L post h; unfold fs_products_made at h; repeat (first | (obtain ⟨rfl, _⟩ := h; rfl) | (obtain ⟨_, h⟩ := h))
  case main =>
    rintro ds L post ⟨n, rfl, hn, hN, hp⟩
    simp only [gSq, gNext, gRet, gRetN, gIfS, gAsg, gPar, gPar3, gDrop, gIfE, gTst, gNot, gAnd, gOr, gAndV, gOrV, gNotV, g2, gVar, gC, gNm, gTp, gTl, gGn, gGc, rN, rM, rQ, rNn, gaNil, gaCons, gTupD, gLstF, gLstO, gCall, gCallK, gCB, Gh.c1, Gh.c2, kInt, kInt2, kToInt, gNeg, lk, stt, startG, List.map, List.replicate, List.length, gAug_, dInt, List.cons_append, List.nil_append, gBreak, gCont, gDPut_, gSubD_, gSubL_, gDGet_, gDIn_, onP, onI, onK, onD, onL, onS, onN, gLM, gLM0, gSlF, gSlO, gNo, gPt, kLen, gNewK, gDs1_, Gh.rIxD, itS, itR, itL, itK, mApp, mExt, mPop, mApp1, mExt1, keyD, isLs, gFor, gWh, giL, giT, giR1, giR2, gRvF, gLrF, gLrO, kListF, kListO, gLc, gYes, gDc, wipeG, wipeG.stn, put_same, put_put, atI_last, at0, at1, at2, ix0, ix1, ix2, List.set_cons_zero, List.set_cons_succ, Option.some.injEq, Gh.O.lst.injEq, Gh.O.dic.injEq, Gh.D.ptr.injEq, exists_eq_left', exists_eq_left, exists_eq', exists_eq, true_and, and_true, Bool.false_xor, Bool.true_xor, decide_eq_true_eq, decide_eq_false_iff_not]
    exact ⟨n, rfl, hn, hN, rt_in hp⟩
/-- the two sizes of each level -/
def lev (n : Nat) : Nat → Nat × Nat
  | 0 => (n, n)
  | i + 1 => ((lev n i).1 / 2, ((lev n i).2 + 1) / 2)
theorem lev_near (n i : Nat) : (lev n i).1 ≤ (lev n i).2 ∧ (lev n i).2 ≤ (lev n i).1 + 1 := by
  induction i with
  | zero => exact ⟨Nat.le_refl _, Nat.le_succ _⟩
  | succ i ih => show (lev n i).1 / 2 ≤ ((lev n i).2 + 1) / 2 ∧ ((lev n i).2 + 1) / 2 ≤ (lev n i).1 / 2 + 1; omega
theorem lev_pos {n : Nat} (hn : 1 ≤ n) (i : Nat) : 1 ≤ (lev n i).2 := by
  induction i with
  | zero => exact hn
  | succ i ih => show 1 ≤ ((lev n i).2 + 1) / 2; omega
theorem lev_small (n i : Nat) : ((lev n i).2 - 1) * 2 ^ i ≤ n - 1 := by
  induction i with
  | zero => show (n - 1) * 1 ≤ _; omega
  | succ i ih =>
    have h : (((lev n i).2 + 1) / 2 - 1) * 2 ≤ (lev n i).2 - 1 := by omega
    show (((lev n i).2 + 1) / 2 - 1) * 2 ^ (i + 1) ≤ _
    rw [show (((lev n i).2 + 1) / 2 - 1) * 2 ^ (i + 1) = (((lev n i).2 + 1) / 2 - 1) * 2 * 2 ^ i by rw [Nat.pow_succ, Nat.mul_comm (2 ^ i) 2, Nat.mul_assoc]]
    exact Nat.le_trans (Nat.mul_le_mul_right _ h) ih
def lvD (x : Nat × Nat) : D := .tup [.int (x.1 : Nat), .int (x.2 : Nat)]
def lvs (n i : Nat) : List D := (List.range i).map fun j => lvD (lev n j)
theorem lvs_succ (n i : Nat) : lvs n (i + 1) = lvs n i ++ [lvD (lev n i)] := by unfold lvs; rw [List.range_succ, List.map_append]; rfl
theorem lvs_length (n i : Nat) : (lvs n i).length = i := by unfold lvs; rw [List.length_map, List.length_range]
theorem lvs_rev {n i j : Nat} {d : D} (h : (lvs n i).reverse[j]? = some d) : j < i ∧ d = lvD (lev n (i - 1 - j)) := by
  have hj := (List.getElem?_eq_some_iff.1 h).1
  rw [List.length_reverse, lvs_length] at hj
  refine ⟨hj, ?_⟩
  rw [List.getElem?_reverse (by rw [lvs_length]; exact hj), lvs_length] at h
  unfold lvs at h
  rw [List.getElem?_map, List.getElem?_range (by omega)] at h
  cases h; rfl
/-- the dict of a level knows its sizes -/
def Knows (K : List (Key × D)) (y : Nat × Nat) : Prop := ∀ x, y.1 ≤ x → x ≤ y.2 → 1 ≤ x → findD K (.inl (x : Int)) = some (hD x)
theorem find_put_same (K : List (Key × D)) (k : Key) (v : D) : findD (putD K k v) k = some v := by
  unfold findD putD
  split
  · rename_i h
    induction K with
    | nil => cases h
    | cons x xs ih =>
      rw [List.map_cons, List.find?_cons]
      by_cases e : x.1 = k
      · rw [if_pos e, decide_eq_true (show (x.1, v).1 = k from e)]; rfl
      · rw [if_neg e, decide_eq_false e]
        refine ih ?_
        rw [List.any_cons, decide_eq_false e, Bool.false_or] at h
        exact h
  · rename_i h
    rw [List.find?_append]
    have : List.find? (fun kv => decide (kv.1 = k)) K = none := by
      rw [List.find?_eq_none]
      intro x hx e
      exact h (List.any_eq_true.2 ⟨x, hx, e⟩)
    rw [this, Option.none_or, List.find?_cons, decide_eq_true rfl]; rfl
theorem find_put_ne (K : List (Key × D)) {k k2 : Key} (v : D) (hne : k2 ≠ k) : findD (putD K k v) k2 = findD K k2 := by
  unfold findD putD
  split
  · induction K with
    | nil => rfl
    | cons x xs ih =>
      rw [List.map_cons, List.find?_cons, List.find?_cons]
      rename_i h
      by_cases e : x.1 = k
      · have e2 : ¬ x.1 = k2 := fun q => hne (q.symm.trans e)
        rw [if_pos e, decide_eq_false e2]
        show Option.map _ (List.find? _ _) = Option.map _ (List.find? _ _)
        by_cases h2 : (xs.any fun kv => decide (kv.1 = k)) = true
        · exact ih h2
        · have : xs.map (fun kv => if kv.1 = k then (kv.1, v) else kv) = xs := by
            refine (List.map_congr_left fun y hy => ?_).trans (List.map_id' xs)
            rw [if_neg fun q => h2 (List.any_eq_true.2 ⟨y, hy, decide_eq_true q⟩)]
          rw [this]
      · rw [if_neg e]
        by_cases e2 : x.1 = k2
        · rw [decide_eq_true e2]
        · rw [decide_eq_false e2]
          refine ih ?_
          rw [List.any_cons, decide_eq_false e, Bool.false_or] at h
          exact h
  · rw [List.find?_append, List.find?_cons, decide_eq_false fun q => hne q.symm]
    show Option.map _ (Option.or _ none) = _
    rw [Option.or_none]
theorem length_put_le (K : List (Key × D)) (k : Key) (v : D) : (putD K k v).length ≤ K.length + 1 := by
  unfold putD
  split
  · rw [List.length_map]; omega
  · rw [List.length_append]; exact Nat.le_refl _
theorem key_ne {x y : Nat} (h : x ≠ y) : (Sum.inl (x : Int) : Key) ≠ Sum.inl (y : Int) := fun e => by have := Sum.inl.inj e; omega
def fs_halves_count : FSp := fun ds L post => ∃ n : Nat, ds = [.int n] ∧ 1 ≤ n ∧ n < 2 ^ 61 ∧ post (.int (hv n : Nat)) L
set_option maxHeartbeats 0 in
theorem ok_halves_count   (i : ∃ (f : Addr) (fd : FuncData), FunD KK.K "halves_count" "halves_count" (defArgs s_halves_count) (defBody s_halves_count) (defScope s_halves_count) [] [] f fd ∧ mg "halves_count" = some (.ref f)) : Cal P w mg base 1 "halves_count" "halves_count" s_halves_count ["n"] fs_halves_count := by
  obtain ⟨f, fd, DD, hm⟩ := i
  refine ⟨f, fd, DD, fn_G (k := 0) DD sc_halves_count ?len (fun cdv A outer s H hG hR => (s_cons (s_par (n := 1) (m := 2) (fun _ => rfl) (fun _ => sc_halves_count.nd) (fun _ => rfl) (fun _ => rfl) (by decide) (fun _ => rfl) (fun _ => rfl) (a_cons (gv 0) (a_cons (gv 0) a_nil)))
    (s_cons (s_set (n := 3) (fun _ => sc_halves_count.nd) (fun _ => rfl) (fun _ => by first | exact Or.inl rfl | exact Or.inr rfl) (g_lstO a_nil))
    (s_cons (s_while (fun _ => PassesOwn.never) (b_gt (gv 2) g_int) (s_cons (s_expr (g_app (fun _ => rfl) (gv 3) (a_cons (g_tup (a_cons (gv 1) (a_cons (gv 2) a_nil))) a_nil)))
    (s_one (s_par (n := 1) (m := 2) (fun _ => rfl) (fun _ => sc_halves_count.nd) (fun _ => rfl) (fun _ => rfl) (by decide) (fun _ => rfl) (fun _ => rfl) (a_cons (g_div (gv 1) g_int) (a_cons (g_div (g_add (gv 2) g_int) g_int) a_nil))))))
    (s_cons (s_setDc (i := 4) (own := [("number", 6)]) (fun _ => rfl) (fun _ => sc_halves_count.nd) (fun _ => rfl) (fun _ => rfl) (fun _ => sw_trueD rfl rfl rfl (by decide +kernel)) (i_tup (fun _ => rfl) (g_tup (a_cons (gv 1) (a_cons (gv 2) a_nil)))) (fun _ => blkOk_by (own := [("number", 6)]) (N := ["n", "low", "high", "levels", "known", "ahead", "number"]) (sc := defScope s_halves_count) (by decide +kernel)) (x_nm (fun _ => sc_halves_count.nd) (fun _ => rfl) (fun _ => by first | exact Or.inl rfl | exact Or.inr rfl) (fun _ => Or.inr rfl) (by decide) (i := 6)) if_nil (gv 6) (gv 6))
    (s_cons (s_for (fun _ => PassesOwn.never) (fun _ => rfl) (i_lst (fun _ => rfl) (g_rvF (fun _ => rfl) (gv 3) o_none)) (t_tp (n := 2) (fun _ => rfl) (fun _ => rfl) (ts_cons (t_nm (fun _ => sc_halves_count.nd) (fun _ => rfl) (fun _ => by first | exact Or.inl rfl | exact Or.inr rfl) (i := 1)) (ts_cons (t_nm (fun _ => sc_halves_count.nd) (fun _ => rfl) (fun _ => by first | exact Or.inl rfl | exact Or.inr rfl) (i := 2)) ts_nil))) (s_cons (s_set (n := 5) (fun _ => sc_halves_count.nd) (fun _ => rfl) (fun _ => by first | exact Or.inl rfl | exact Or.inr rfl) (gv 4))
    (s_cons (s_set (n := 4) (fun _ => sc_halves_count.nd) (fun _ => rfl) (fun _ => by first | exact Or.inl rfl | exact Or.inr rfl) g_newK)
    (s_one (s_for (fun _ => PassesOwn.never) (fun _ => rfl) (i_tup (fun _ => rfl) (g_tup (a_cons (gv 1) (a_cons (gv 2) a_nil)))) (t_nm (fun _ => sc_halves_count.nd) (fun _ => rfl) (fun _ => by first | exact Or.inl rfl | exact Or.inr rfl) (i := 6)) (s_one (s_dput (fun _ => hu_of hR) (gv 4) (gv 6) (g_ite (b_eq (gv 6) g_int) g_int (g_add (g_mul g_int (g_dget (fun _ => hu_of hR) (gv 5) (g_div (g_add (gv 6) g_int) g_int) (fun _ _ => rfl))) (g_dget (fun _ => hu_of hR) (gv 5) (g_div (gv 6) g_int) (fun _ _ => rfl)))))))))))
    (s_one (s_ret (g_dget (fun _ => hu_of hR) (gv 4) (gv 0) (fun _ _ => rfl)))))))))) ?main, hm⟩
  case len => intro ds L post h; unfold fs_halves_count at h; repeat (first | (obtain ⟨rfl, _⟩ := h; rfl) | (obtain ⟨_, h⟩ := h))
  case main =>
    rintro ds L post ⟨n, rfl, hn, hN, hp⟩
    refine seq_gen fun R1 hR1 => ?_
    simp only [gSq, gNext, gRet, gRetN, gIfS, gAsg, gPar, gPar3, gDrop, gIfE, gTst, gNot, gAnd, gOr, gAndV, gOrV, gNotV, g2, gVar, gC, gNm, gTp, gTl, gGn, gGc, rN, rM, rQ, rNn, gaNil, gaCons, gTupD, gLstF, gLstO, gCall, gCallK, gCB, Gh.c1, Gh.c2, kInt, kInt2, kToInt, gNeg, lk, stt, startG, List.map, List.replicate, List.length, gAug_, dInt, List.cons_append, List.nil_append, gBreak, gCont, gDPut_, gSubD_, gSubL_, gDGet_, gDIn_, onP, onI, onK, onD, onL, onS, onN, gLM, gLM0, gSlF, gSlO, gNo, gPt, kLen, gNewK, gDs1_, Gh.rIxD, itS, itR, itL, itK, mApp, mExt, mPop, mApp1, mExt1, keyD, isLs, gFor, gWh, giL, giT, giR1, giR2, gRvF, gLrF, gLrO, kListF, kListO, gLc, gYes, gDc, wipeG, wipeG.stn, put_same, put_put, atI_last, at0, at1, at2, ix0, ix1, ix2, List.set_cons_zero, List.set_cons_succ, Option.some.injEq, Gh.O.lst.injEq, Gh.O.dic.injEq, Gh.D.ptr.injEq, exists_eq_left', exists_eq_left, exists_eq', exists_eq, true_and, and_true, Bool.false_xor, Bool.true_xor, decide_eq_true_eq, decide_eq_false_iff_not]
    refine hR1 _ _ ?_
    refine seq_gen fun R2 hR2 => ?_
    simp only [gSq, gNext, gRet, gRetN, gIfS, gAsg, gPar, gPar3, gDrop, gIfE, gTst, gNot, gAnd, gOr, gAndV, gOrV, gNotV, g2, gVar, gC, gNm, gTp, gTl, gGn, gGc, rN, rM, rQ, rNn, gaNil, gaCons, gTupD, gLstF, gLstO, gCall, gCallK, gCB, Gh.c1, Gh.c2, kInt, kInt2, kToInt, gNeg, lk, stt, startG, List.map, List.replicate, List.length, gAug_, dInt, List.cons_append, List.nil_append, gBreak, gCont, gDPut_, gSubD_, gSubL_, gDGet_, gDIn_, onP, onI, onK, onD, onL, onS, onN, gLM, gLM0, gSlF, gSlO, gNo, gPt, kLen, gNewK, gDs1_, Gh.rIxD, itS, itR, itL, itK, mApp, mExt, mPop, mApp1, mExt1, keyD, isLs, gFor, gWh, giL, giT, giR1, giR2, gRvF, gLrF, gLrO, kListF, kListO, gLc, gYes, gDc, wipeG, wipeG.stn, put_same, put_put, atI_last, at0, at1, at2, ix0, ix1, ix2, List.set_cons_zero, List.set_cons_succ, Option.some.injEq, Gh.O.lst.injEq, Gh.O.dic.injEq, Gh.D.ptr.injEq, exists_eq_left', exists_eq_left, exists_eq', exists_eq, true_and, and_true, Bool.false_xor, Bool.true_xor, decide_eq_true_eq, decide_eq_false_iff_not]
    refine ⟨Nat.zero_le _, fun p hpn => ?_⟩
    refine hR2 _ _ ?_
    refine seq_gen fun R3 hR3 => ?_
    simp only [gSq, gNext, gRet, gRetN, gIfS, gAsg, gPar, gPar3, gDrop, gIfE, gTst, gNot, gAnd, gOr, gAndV, gOrV, gNotV, g2, gVar, gC, gNm, gTp, gTl, gGn, gGc, rN, rM, rQ, rNn, gaNil, gaCons, gTupD, gLstF, gLstO, gCall, gCallK, gCB, Gh.c1, Gh.c2, kInt, kInt2, kToInt, gNeg, lk, stt, startG, List.map, List.replicate, List.length, gAug_, dInt, List.cons_append, List.nil_append, gBreak, gCont, gDPut_, gSubD_, gSubL_, gDGet_, gDIn_, onP, onI, onK, onD, onL, onS, onN, gLM, gLM0, gSlF, gSlO, gNo, gPt, kLen, gNewK, gDs1_, Gh.rIxD, itS, itR, itL, itK, mApp, mExt, mPop, mApp1, mExt1, keyD, isLs, gFor, gWh, giL, giT, giR1, giR2, gRvF, gLrF, gLrO, kListF, kListO, gLc, gYes, gDc, wipeG, wipeG.stn, put_same, put_put, atI_last, at0, at1, at2, ix0, ix1, ix2, List.set_cons_zero, List.set_cons_succ, Option.some.injEq, Gh.O.lst.injEq, Gh.O.dic.injEq, Gh.D.ptr.injEq, exists_eq_left', exists_eq_left, exists_eq', exists_eq, true_and, and_true, Bool.false_xor, Bool.true_xor, decide_eq_true_eq, decide_eq_false_iff_not]
    refine ⟨fun m Γ' L' => ∃ i, Γ' = [some (.int n), some (.int (lev n i).1), some (.int (lev n i).2), some (.ptr p), none, none, none] ∧ L' = put L p (.lst (lvs n i)) ∧ (∀ j, j < i → 1 < (lev n j).2) ∧ m = (lev n i).2, ⟨n, 0, rfl, rfl, fun j h => by omega, rfl⟩, ?_⟩
    rintro m _ _ ⟨i, rfl, rfl, hi, rfl⟩
    simp only [gSq, gNext, gRet, gRetN, gIfS, gAsg, gPar, gPar3, gDrop, gIfE, gTst, gNot, gAnd, gOr, gAndV, gOrV, gNotV, g2, gVar, gC, gNm, gTp, gTl, gGn, gGc, rN, rM, rQ, rNn, gaNil, gaCons, gTupD, gLstF, gLstO, gCall, gCallK, gCB, Gh.c1, Gh.c2, kInt, kInt2, kToInt, gNeg, lk, stt, startG, List.map, List.replicate, List.length, gAug_, dInt, List.cons_append, List.nil_append, gBreak, gCont, gDPut_, gSubD_, gSubL_, gDGet_, gDIn_, onP, onI, onK, onD, onL, onS, onN, gLM, gLM0, gSlF, gSlO, gNo, gPt, kLen, gNewK, gDs1_, Gh.rIxD, itS, itR, itL, itK, mApp, mExt, mPop, mApp1, mExt1, keyD, isLs, gFor, gWh, giL, giT, giR1, giR2, gRvF, gLrF, gLrO, kListF, kListO, gLc, gYes, gDc, wipeG, wipeG.stn, put_same, put_put, atI_last, at0, at1, at2, ix0, ix1, ix2, List.set_cons_zero, List.set_cons_succ, Option.some.injEq, Gh.O.lst.injEq, Gh.O.dic.injEq, Gh.D.ptr.injEq, exists_eq_left', exists_eq_left, exists_eq', exists_eq, true_and, and_true, Bool.false_xor, Bool.true_xor, decide_eq_true_eq, decide_eq_false_iff_not]
    have hb := lev_near n i
    have hs := lev_small n i
    refine ⟨fun h => ⟨by rw [sizeLine_eq]; decide, ?_, divOk (by decide) (by decide), divOk (by decide) (by decide), ?_⟩, fun h => ?_⟩
    · rw [lvs_length]
      exact line64 (by have := turns_few hs (by omega) (by omega); omega)
    · refine ⟨(lev n (i + 1)).2, by show ((lev n i).2 + 1) / 2 < _; omega, i + 1, ?_, ?_, fun j hj => ?_, rfl⟩
      · rw [half0, half1]; rfl
      · rw [lvs_succ]; rfl
      · rcases Nat.lt_or_ge j i with q | q
        · exact hi j q
        · have : j = i := by omega
          subst this; omega
    · have hp2 := lev_pos hn i
      have h1 : (lev n i).2 = 1 := by omega
      refine hR3 _ _ ?_
      refine seq_gen fun R4 hR4 => ?_
      simp only [gSq, gNext, gRet, gRetN, gIfS, gAsg, gPar, gPar3, gDrop, gIfE, gTst, gNot, gAnd, gOr, gAndV, gOrV, gNotV, g2, gVar, gC, gNm, gTp, gTl, gGn, gGc, rN, rM, rQ, rNn, gaNil, gaCons, gTupD, gLstF, gLstO, gCall, gCallK, gCB, Gh.c1, Gh.c2, kInt, kInt2, kToInt, gNeg, lk, stt, startG, List.map, List.replicate, List.length, gAug_, dInt, List.cons_append, List.nil_append, gBreak, gCont, gDPut_, gSubD_, gSubL_, gDGet_, gDIn_, onP, onI, onK, onD, onL, onS, onN, gLM, gLM0, gSlF, gSlO, gNo, gPt, kLen, gNewK, gDs1_, Gh.rIxD, itS, itR, itL, itK, mApp, mExt, mPop, mApp1, mExt1, keyD, isLs, gFor, gWh, giL, giT, giR1, giR2, gRvF, gLrF, gLrO, kListF, kListO, gLc, gYes, gDc, wipeG, wipeG.stn, put_same, put_put, atI_last, at0, at1, at2, ix0, ix1, ix2, List.set_cons_zero, List.set_cons_succ, Option.some.injEq, Gh.O.lst.injEq, Gh.O.dic.injEq, Gh.D.ptr.injEq, exists_eq_left', exists_eq_left, exists_eq', exists_eq, true_and, and_true, Bool.false_xor, Bool.true_xor, decide_eq_true_eq, decide_eq_false_iff_not]
      refine ⟨by rw [sizeLine_eq]; decide, fun Z hZ => ?_⟩
      have hpZ : p ≠ Z := new_ne hZ
      have hZL := new_old hZ
      refine ⟨fun t acc L' => L' = put (put L p (.lst (lvs n i))) Z (.dic acc) ∧ acc.length ≤ t ∧ (t = 2 → Knows acc (lev n i)), ⟨rfl, Nat.le_refl _, fun h => by omega⟩, ?_, ?_, ?_⟩
      · rintro t acc _ ⟨rfl, _⟩
        exact put_same
      · rintro t d acc _ hd ⟨rfl, hl, hk⟩
        have ht : t < 2 := (List.getElem?_eq_some_iff.1 hd).1
        have hd2 : ∃ x : Nat, d = .int x ∧ (t = 1 → x = (lev n i).2) := by
          rcases t with _ | _ | t
          · cases hd; exact ⟨_, rfl, fun h => by omega⟩
          · cases hd; exact ⟨_, rfl, fun h => rfl⟩
          · omega
        obtain ⟨x, rfl, hx⟩ := hd2
        simp only [gSq, gNext, gRet, gRetN, gIfS, gAsg, gPar, gPar3, gDrop, gIfE, gTst, gNot, gAnd, gOr, gAndV, gOrV, gNotV, g2, gVar, gC, gNm, gTp, gTl, gGn, gGc, rN, rM, rQ, rNn, gaNil, gaCons, gTupD, gLstF, gLstO, gCall, gCallK, gCB, Gh.c1, Gh.c2, kInt, kInt2, kToInt, gNeg, lk, stt, startG, List.map, List.replicate, List.length, gAug_, dInt, List.cons_append, List.nil_append, gBreak, gCont, gDPut_, gSubD_, gSubL_, gDGet_, gDIn_, onP, onI, onK, onD, onL, onS, onN, gLM, gLM0, gSlF, gSlO, gNo, gPt, kLen, gNewK, gDs1_, Gh.rIxD, itS, itR, itL, itK, mApp, mExt, mPop, mApp1, mExt1, keyD, isLs, gFor, gWh, giL, giT, giR1, giR2, gRvF, gLrF, gLrO, kListF, kListO, gLc, gYes, gDc, wipeG, wipeG.stn, put_same, put_put, atI_last, at0, at1, at2, ix0, ix1, ix2, List.set_cons_zero, List.set_cons_succ, Option.some.injEq, Gh.O.lst.injEq, Gh.O.dic.injEq, Gh.D.ptr.injEq, exists_eq_left', exists_eq_left, exists_eq', exists_eq, true_and, and_true, Bool.false_xor, Bool.true_xor, decide_eq_true_eq, decide_eq_false_iff_not]
        refine ⟨fun _ => ⟨line64 (by omega), by have := length_put_le acc (.inl (x : Int)) (.int (x : Nat)); omega, fun h => ?_⟩, fun h => by cases h⟩
        intro y hy1 hy2 hy3
        have hxx := hx (by omega)
        have : y = x := by omega
        subst this
        rw [find_put_same]
        have : y = 1 := by omega
        subst this
        unfold hD
        rw [hv_end (by decide)]
      · rintro acc _ ⟨rfl, hl, hk⟩
        refine hR4 _ _ ?_
        refine seq_gen fun R5 hR5 => ?_
        have hk := hk rfl
        have er : revAt (lvs n i).length none = (lvs n i).length := rfl
        simp only [gSq, gNext, gRet, gRetN, gIfS, gAsg, gPar, gPar3, gDrop, gIfE, gTst, gNot, gAnd, gOr, gAndV, gOrV, gNotV, g2, gVar, gC, gNm, gTp, gTl, gGn, gGc, rN, rM, rQ, rNn, gaNil, gaCons, gTupD, gLstF, gLstO, gCall, gCallK, gCB, Gh.c1, Gh.c2, kInt, kInt2, kToInt, gNeg, lk, stt, startG, List.map, List.replicate, List.length, gAug_, dInt, List.cons_append, List.nil_append, gBreak, gCont, gDPut_, gSubD_, gSubL_, gDGet_, gDIn_, onP, onI, onK, onD, onL, onS, onN, gLM, gLM0, gSlF, gSlO, gNo, gPt, kLen, gNewK, gDs1_, Gh.rIxD, itS, itR, itL, itK, mApp, mExt, mPop, mApp1, mExt1, keyD, isLs, gFor, gWh, giL, giT, giR1, giR2, gRvF, gLrF, gLrO, kListF, kListO, gLc, gYes, gDc, wipeG, wipeG.stn, put_same, put_put, atI_last, at0, at1, at2, ix0, ix1, ix2, List.set_cons_zero, List.set_cons_succ, Option.some.injEq, Gh.O.lst.injEq, Gh.O.dic.injEq, Gh.D.ptr.injEq, exists_eq_left', exists_eq_left, exists_eq', exists_eq, true_and, and_true, Bool.false_xor, Bool.true_xor, decide_eq_true_eq, decide_eq_false_iff_not, put_ne hpZ, er, List.take_length]
        refine ⟨fun j Γ' L' => ∃ a K, ∃ (lo hi o5 o6 : Option D), Γ' = [some (.int n), lo, hi, some (.ptr p), some (.ptr a), o5, o6] ∧ L' a = some (.dic K) ∧ Knows K (lev n (i - j)) ∧ Gh.Sub L L', ⟨Z, acc, _, _, _, _, rfl, put_same, hk, ?_⟩, fun _ _ _ _ => trivial, ?_, ?_⟩
        · exact (Sub.put_new hpn).trans (Sub.put_new hZ)
        · rintro j d _ L1 hd ⟨a, K, lo, hi2, o5, o6, rfl, ha, hK, hS⟩
          obtain ⟨hj, rfl⟩ := lvs_rev hd
          have hm : 1 < (lev n (i - 1 - j)).2 := hi _ (by omega)
          have hnr := lev_near n (i - 1 - j)
          have hK : Knows K ((lev n (i - 1 - j)).1 / 2, ((lev n (i - 1 - j)).2 + 1) / 2) := by
            have e : i - j = i - 1 - j + 1 := by omega
            rw [e] at hK
            exact hK
          have e2 : lev n (i - (j + 1)) = lev n (i - 1 - j) := by congr 1; omega
          generalize lev n (i - 1 - j) = y at *
          obtain ⟨y1, y2⟩ := y
          simp only [gSq, gNext, gRet, gRetN, gIfS, gAsg, gPar, gPar3, gDrop, gIfE, gTst, gNot, gAnd, gOr, gAndV, gOrV, gNotV, g2, gVar, gC, gNm, gTp, gTl, gGn, gGc, rN, rM, rQ, rNn, gaNil, gaCons, gTupD, gLstF, gLstO, gCall, gCallK, gCB, Gh.c1, Gh.c2, kInt, kInt2, kToInt, gNeg, lk, stt, startG, List.map, List.replicate, List.length, gAug_, dInt, List.cons_append, List.nil_append, gBreak, gCont, gDPut_, gSubD_, gSubL_, gDGet_, gDIn_, onP, onI, onK, onD, onL, onS, onN, gLM, gLM0, gSlF, gSlO, gNo, gPt, kLen, gNewK, gDs1_, Gh.rIxD, itS, itR, itL, itK, mApp, mExt, mPop, mApp1, mExt1, keyD, isLs, gFor, gWh, giL, giT, giR1, giR2, gRvF, gLrF, gLrO, kListF, kListO, gLc, gYes, gDc, wipeG, wipeG.stn, put_same, put_put, atI_last, at0, at1, at2, ix0, ix1, ix2, List.set_cons_zero, List.set_cons_succ, Option.some.injEq, Gh.O.lst.injEq, Gh.O.dic.injEq, Gh.D.ptr.injEq, exists_eq_left', exists_eq_left, exists_eq', exists_eq, true_and, and_true, Bool.false_xor, Bool.true_xor, decide_eq_true_eq, decide_eq_false_iff_not, lvD]
          refine fun b hb => ⟨by rw [sizeLine_eq]; decide, ?_⟩
          have hab : a ≠ b := fun e => by rw [← e, ha] at hb; cases hb
          have hbL : L b = none := by
            cases q : L b with
            | none => rfl
            | some o => rw [hS b o q] at hb; cases hb
          refine ⟨fun t Γ' L' => ∃ K2 o, Γ' = [some (.int n), some (.int (y1 : Nat)), some (.int (y2 : Nat)), some (.ptr p), some (.ptr b), some (.ptr a), o] ∧ L' = put L1 b (.dic K2) ∧ K2.length ≤ t ∧ (1 ≤ t → findD K2 (.inl (y1 : Int)) = some (hD y1)) ∧ (2 ≤ t → findD K2 (.inl (y2 : Int)) = some (hD y2)), ⟨[], _, rfl, rfl, Nat.le_refl _, fun h => by omega, fun h => by omega⟩, fun _ _ _ _ => trivial, ?_, ?_⟩
          · rintro t d _ _ hd2 ⟨K2, o, rfl, rfl, hl2, hf1, hf2⟩
            have ht : t < 2 := (List.getElem?_eq_some_iff.1 hd2).1
            have hd3 : ∃ x : Nat, d = .int x ∧ (t = 0 → x = y1) ∧ (t = 1 → x = y2) := by
              rcases t with _ | _ | t
              · cases hd2; exact ⟨_, rfl, fun h => rfl, fun h => by omega⟩
              · cases hd2; exact ⟨_, rfl, fun h => by omega, fun h => rfl⟩
              · omega
            obtain ⟨x, rfl, hx1, hx2⟩ := hd3
            have hxy : x = y1 ∨ x = y2 := by
              rcases Nat.lt_or_ge t 1 with q | q
              · exact .inl (hx1 (by omega))
              · exact .inr (hx2 (by omega))
            simp only at hm hnr
            have hxp : 1 ≤ x := by omega
            have fin : ∃ K_1 o, ([some (D.int n), some (.int (y1 : Nat)), some (.int (y2 : Nat)), some (.ptr p), some (.ptr b), some (.ptr a), some (.int (x : Nat))] : Gm) = [some (.int n), some (.int (y1 : Nat)), some (.int (y2 : Nat)), some (.ptr p), some (.ptr b), some (.ptr a), o] ∧ put L1 b (.dic (putD K2 (.inl (x : Int)) (hD x))) = put L1 b (.dic K_1) ∧ K_1.length ≤ t + 1 ∧ (1 ≤ t + 1 → findD K_1 (.inl (y1 : Int)) = some (hD y1)) ∧ (2 ≤ t + 1 → findD K_1 (.inl (y2 : Int)) = some (hD y2)) := by
              refine ⟨_, _, rfl, rfl, by have := length_put_le K2 (.inl (x : Int)) (hD x); omega, fun _ => ?_, fun h => ?_⟩
              · by_cases e : y1 = x
                · subst e; exact find_put_same _ _ _
                · rw [find_put_ne _ _ (key_ne e)]
                  rcases Nat.lt_or_ge t 1 with q | q
                  · exact absurd (hx1 (by omega)).symm e
                  · exact hf1 q
              · have : x = y2 := hx2 (by omega)
                subst this; exact find_put_same _ _ _
            simp only [gSq, gNext, gRet, gRetN, gIfS, gAsg, gPar, gPar3, gDrop, gIfE, gTst, gNot, gAnd, gOr, gAndV, gOrV, gNotV, g2, gVar, gC, gNm, gTp, gTl, gGn, gGc, rN, rM, rQ, rNn, gaNil, gaCons, gTupD, gLstF, gLstO, gCall, gCallK, gCB, Gh.c1, Gh.c2, kInt, kInt2, kToInt, gNeg, lk, stt, startG, List.map, List.replicate, List.length, gAug_, dInt, List.cons_append, List.nil_append, gBreak, gCont, gDPut_, gSubD_, gSubL_, gDGet_, gDIn_, onP, onI, onK, onD, onL, onS, onN, gLM, gLM0, gSlF, gSlO, gNo, gPt, kLen, gNewK, gDs1_, Gh.rIxD, itS, itR, itL, itK, mApp, mExt, mPop, mApp1, mExt1, keyD, isLs, gFor, gWh, giL, giT, giR1, giR2, gRvF, gLrF, gLrO, kListF, kListO, gLc, gYes, gDc, wipeG, wipeG.stn, put_same, put_put, atI_last, at0, at1, at2, ix0, ix1, ix2, List.set_cons_zero, List.set_cons_succ, Option.some.injEq, Gh.O.lst.injEq, Gh.O.dic.injEq, Gh.D.ptr.injEq, exists_eq_left', exists_eq_left, exists_eq', exists_eq, true_and, and_true, Bool.false_xor, Bool.true_xor, decide_eq_true_eq, decide_eq_false_iff_not, put_ne hab, ha]
            refine ⟨fun h => ⟨line64 (by omega), ?_⟩, fun h => ⟨divOk (by decide) (by decide), ?_⟩⟩
            · have : x = 1 := by omega
              subst this
              have e : D.int 1 = hD 1 := by unfold hD; rw [hv_end (by decide)]; rfl
              rw [e]
              exact fin
            · rw [half0, half1]
              have q1 : 1 < x := by omega
              rw [hK ((x + 1) / 2) (by show y1 / 2 ≤ _; omega) (by show _ ≤ (y2 + 1) / 2; omega) (by omega), hK (x / 2) (by show y1 / 2 ≤ _; omega) (by show _ ≤ (y2 + 1) / 2; omega) (by omega)]
              simp only [gSq, gNext, gRet, gRetN, gIfS, gAsg, gPar, gPar3, gDrop, gIfE, gTst, gNot, gAnd, gOr, gAndV, gOrV, gNotV, g2, gVar, gC, gNm, gTp, gTl, gGn, gGc, rN, rM, rQ, rNn, gaNil, gaCons, gTupD, gLstF, gLstO, gCall, gCallK, gCB, Gh.c1, Gh.c2, kInt, kInt2, kToInt, gNeg, lk, stt, startG, List.map, List.replicate, List.length, gAug_, dInt, List.cons_append, List.nil_append, gBreak, gCont, gDPut_, gSubD_, gSubL_, gDGet_, gDIn_, onP, onI, onK, onD, onL, onS, onN, gLM, gLM0, gSlF, gSlO, gNo, gPt, kLen, gNewK, gDs1_, Gh.rIxD, itS, itR, itL, itK, mApp, mExt, mPop, mApp1, mExt1, keyD, isLs, gFor, gWh, giL, giT, giR1, giR2, gRvF, gLrF, gLrO, kListF, kListO, gLc, gYes, gDc, wipeG, wipeG.stn, put_same, put_put, atI_last, at0, at1, at2, ix0, ix1, ix2, List.set_cons_zero, List.set_cons_succ, Option.some.injEq, Gh.O.lst.injEq, Gh.O.dic.injEq, Gh.D.ptr.injEq, exists_eq_left', exists_eq_left, exists_eq', exists_eq, true_and, and_true, Bool.false_xor, Bool.true_xor, decide_eq_true_eq, decide_eq_false_iff_not, hD]
              have e1 : D.int (2 * ((hv ((x + 1) / 2) : Nat) : Int) + ((hv (x / 2) : Nat) : Int)) = hD x := by
                unfold hD
                rw [hv_more q1, Int.natCast_add, Int.natCast_mul]; rfl
              refine ⟨mulL (by decide) (by decide), divOk (by decide) (by decide), line64 (by omega), ?_⟩
              rw [e1]
              exact fin
          · rintro _ _ ⟨K2, o, rfl, rfl, hl2, hf1, hf2⟩
            refine ⟨b, K2, _, _, _, _, rfl, put_same, ?_, hS.put_r hbL⟩
            rw [e2]
            intro x h1 h2 h3
            simp only at hm hnr h1 h2
            rcases Nat.eq_or_lt_of_le h1 with e | e
            · exact e ▸ hf1 (by decide)
            · have : x = y2 := by omega
              subst this
              exact hf2 (by decide)
        · rintro _ L1 ⟨a, K, lo, hi2, o5, o6, rfl, ha, hK, hS⟩
          refine hR5 _ _ ?_
          rw [List.length_reverse, lvs_length, Nat.sub_self] at hK
          simp only [gSq, gNext, gRet, gRetN, gIfS, gAsg, gPar, gPar3, gDrop, gIfE, gTst, gNot, gAnd, gOr, gAndV, gOrV, gNotV, g2, gVar, gC, gNm, gTp, gTl, gGn, gGc, rN, rM, rQ, rNn, gaNil, gaCons, gTupD, gLstF, gLstO, gCall, gCallK, gCB, Gh.c1, Gh.c2, kInt, kInt2, kToInt, gNeg, lk, stt, startG, List.map, List.replicate, List.length, gAug_, dInt, List.cons_append, List.nil_append, gBreak, gCont, gDPut_, gSubD_, gSubL_, gDGet_, gDIn_, onP, onI, onK, onD, onL, onS, onN, gLM, gLM0, gSlF, gSlO, gNo, gPt, kLen, gNewK, gDs1_, Gh.rIxD, itS, itR, itL, itK, mApp, mExt, mPop, mApp1, mExt1, keyD, isLs, gFor, gWh, giL, giT, giR1, giR2, gRvF, gLrF, gLrO, kListF, kListO, gLc, gYes, gDc, wipeG, wipeG.stn, put_same, put_put, atI_last, at0, at1, at2, ix0, ix1, ix2, List.set_cons_zero, List.set_cons_succ, Option.some.injEq, Gh.O.lst.injEq, Gh.O.dic.injEq, Gh.D.ptr.injEq, exists_eq_left', exists_eq_left, exists_eq', exists_eq, true_and, and_true, Bool.false_xor, Bool.true_xor, decide_eq_true_eq, decide_eq_false_iff_not, ha, hK n (Nat.le_refl _) (Nat.le_refl _) hn, hD]
          exact ⟨L, hS, hp⟩
end
end K06

namespace K06
open PySem PySem.Spec L2 Gh
theorem third2 (x : Nat) : ((x : Int) + 2) / 3 = (((x + 2) / 3 : Nat) : Int) := by omega
theorem sorted_keys {ks : List Nat} {ns : List Int} (hnd : ks.Nodup) (hperm : ns.Perm (ks.map fun n => ((n : Nat) : Int))) (hasc : ns.Pairwise (· ≤ ·)) :
    ∃ xs : List Nat, ns = xs.map (fun n => ((n : Nat) : Int)) ∧ xs.Pairwise (· < ·) ∧ ∀ x, x ∈ xs ↔ x ∈ ks := by
  obtain ⟨xs, rfl⟩ : ∃ xs : List Nat, ns = xs.map fun n => ((n : Nat) : Int) := by
    refine ⟨ns.map Int.toNat, ?_⟩
    rw [List.map_map]
    refine (List.map_id' ns).symm.trans (List.map_congr_left fun z hz => ?_)
    have := hperm.mem_iff.1 hz
    obtain ⟨y, _, rfl⟩ := List.mem_map.1 this
    show ((y : Nat) : Int) = (((y : Nat) : Int).toNat : Int)
    omega
  have hmem : ∀ x : Nat, x ∈ xs ↔ x ∈ ks := by
    intro x
    have := hperm.mem_iff (a := ((x : Nat) : Int))
    rw [List.mem_map, List.mem_map] at this
    constructor
    · intro hx
      obtain ⟨y, hy, e⟩ := this.1 ⟨x, hx, rfl⟩
      have : y = x := by omega
      exact this ▸ hy
    · intro hx
      obtain ⟨y, hy, e⟩ := this.2 ⟨x, hx, rfl⟩
      have : y = x := by omega
      exact this ▸ hy
  have hnd2 : xs.Nodup := by
    have h1 : (ks.map fun n => ((n : Nat) : Int)).Nodup := by
      rw [List.nodup_iff_pairwise_ne, List.pairwise_map]
      exact (List.nodup_iff_pairwise_ne.1 hnd).imp fun h e => h (by omega)
    have h2 := hperm.nodup_iff.2 h1
    rw [List.nodup_iff_pairwise_ne, List.pairwise_map] at h2
    exact List.nodup_iff_pairwise_ne.2 (h2.imp fun h e => h (by rw [e]))
  refine ⟨xs, rfl, ?_, hmem⟩
  rw [List.pairwise_map] at hasc
  exact (List.pairwise_and_iff.2 ⟨hasc, List.nodup_iff_pairwise_ne.1 hnd2⟩).imp fun ⟨h1, h2⟩ => by omega
/-- the least of the ways -/
def sv (n : Nat) : Nat := if h : 1 < n then min (n * n) (min (2 * sv ((n + 1) / 2) + sv (n / 2)) (if 2 < n then 6 * sv ((n + 2) / 3) else n * n)) else 1
termination_by n
decreasing_by all_goals omega
theorem sv_more {n : Nat} (h : 1 < n) : sv n = min (n * n) (min (2 * sv ((n + 1) / 2) + sv (n / 2)) (if 2 < n then 6 * sv ((n + 2) / 3) else n * n)) := by rw [sv, dif_pos h]
theorem sv_end {n : Nat} (h : n ≤ 1) : sv n = 1 := by rw [sv, dif_neg (by omega)]
theorem sv_pos (n : Nat) : 1 ≤ sv n := by
  induction n using Nat.strongRecOn with
  | _ n ih =>
    rcases Nat.lt_or_ge 1 n with q | q
    · rw [sv_more q]
      have h1 := ih (n / 2) (by omega)
      have h2 := ih ((n + 2) / 3) (by omega)
      have h3 : 1 * 1 ≤ n * n := Nat.mul_le_mul (by omega) (by omega)
      split <;> omega
    · rw [sv_end q]; omega
theorem sv_two : sv 2 = 3 := by
  rw [sv_more (by decide), sv_end (n := (2 + 1) / 2) (by decide)]; rfl
theorem sv_mono {n m : Nat} (h : n ≤ m) : sv n ≤ sv m := by
  induction m using Nat.strongRecOn generalizing n with
  | _ m ih =>
    rcases Nat.lt_or_ge 1 n with q | q
    · have h1 := ih ((m + 1) / 2) (by omega) (n := (n + 1) / 2) (by omega)
      have h2 := ih (m / 2) (by omega) (n := n / 2) (by omega)
      have h3 := ih ((m + 2) / 3) (by omega) (n := (n + 2) / 3) (by omega)
      have h4 : n * n ≤ m * m := Nat.mul_le_mul h h
      rcases Nat.lt_or_ge 2 n with z | z
      · rw [sv_more q, sv_more (show 1 < m by omega), if_pos z, if_pos (show 2 < m by omega)]
        omega
      · have : n = 2 := by omega
        subst this
        rw [sv_two, sv_more (show 1 < m by omega)]
        have e1 := sv_pos ((m + 1) / 2)
        have e2 := sv_pos (m / 2)
        have e3 := sv_pos ((m + 2) / 3)
        have h5 : 2 * 2 ≤ m * m := Nat.mul_le_mul h h
        split <;> omega
    · rw [sv_end q]; exact sv_pos m
theorem sv_le_hv (n : Nat) : sv n ≤ hv n := by
  induction n using Nat.strongRecOn with
  | _ n ih =>
    rcases Nat.lt_or_ge 1 n with q | q
    · have h1 := ih ((n + 1) / 2) (by omega)
      have h2 := ih (n / 2) (by omega)
      rw [sv_more q, hv_more q]
      omega
    · rw [sv_end q]; exact hv_pos n
theorem sv_le_mix (n : Nat) : sv n ≤ mix 3 2 2 n := by
  induction n using Nat.strongRecOn with
  | _ n ih =>
    rcases Nat.lt_or_ge 1 n with q | q
    · have h1 := ih (up 2 n) (up_lt (by decide) q)
      have e : up 2 n = (n + 1) / 2 := rfl
      rw [e] at h1
      have h2 : sv (n / 2) ≤ sv ((n + 1) / 2) := sv_mono (by omega)
      rw [sv_more q, mix_more (by decide) q, e, Nat.pow_two]
      omega
    · rw [sv_end q, mix_end q]; exact Nat.le_refl _
/-- the ways, by words -/
def pts (n : Nat) : List (Str × List (Nat × Nat)) := ("halves", [((n + 1) / 2, 2), (n / 2, 1)]) :: if 2 < n then [("thirds", [((n + 2) / 3, 6)])] else []
def ptx (n : Nat) : List (Str × List (Nat × Nat)) := if 1 < n then pts n else []
def prD (x : Nat × Nat) : D := .tup [.int (x.1 : Nat), .int (x.2 : Nat)]
def ptD (x : Str × List (Nat × Nat)) : D := .tup [.str x.1, .lst (x.2.map prD)]
def wsum (x : Str × List (Nat × Nat)) : Nat := (x.2.map fun y => y.2 * sv y.1).sum
theorem pts_sub {N n : Nat} (hN : N < 2 ^ 61) (h : n ∈ fam N) (h1 : 1 < n) {e : Str × List (Nat × Nat)} (he : e ∈ pts n) {y : Nat × Nat} (hy : y ∈ e.2) : y.1 ∈ fam N ∧ 1 ≤ y.1 ∧ y.1 < n ∧ y.2 ≤ 6 := by
  unfold pts at he
  rcases List.mem_cons.1 he with rfl | he
  · simp only [List.mem_cons, List.not_mem_nil, or_false] at hy
    rcases hy with rfl | rfl
    · exact ⟨fam_half hN h (i := 1) (by decide), by show 1 ≤ (n + 1) / 2; omega, by show (n + 1) / 2 < n; omega, by show 2 ≤ 6; decide⟩
    · exact ⟨fam_half hN h (i := 0) (by decide), by show 1 ≤ n / 2; omega, by show n / 2 < n; omega, by show 1 ≤ 6; decide⟩
  · split at he
    · rw [List.mem_singleton] at he
      subst he
      simp only [List.mem_cons, List.not_mem_nil, or_false] at hy
      subst hy
      exact ⟨fam_third hN h (i := 2) (by decide), by show 1 ≤ (n + 2) / 3; omega, by show (n + 2) / 3 < n; omega, Nat.le_refl _⟩
    · cases he
theorem sv_min {n m : Nat} (hn : 1 ≤ n) (h1 : m ∈ n * n :: (ptx n).map wsum) (h2 : ∀ y ∈ n * n :: (ptx n).map wsum, m ≤ y) : m = sv n := by
  unfold ptx at h1 h2
  split at h1
  · rename_i q
    rw [if_pos q] at h2
    unfold pts at h1 h2
    rw [sv_more q]
    split at h1
    · rename_i z
      rw [if_pos z] at h2 ⊢
      simp only [List.map_cons, List.map_nil, List.mem_cons, List.not_mem_nil, or_false, wsum, List.sum_cons, List.sum_nil, Nat.add_zero, Nat.one_mul, forall_eq_or_imp, forall_eq] at h1 h2
      omega
    · rename_i z
      rw [if_neg z] at h2 ⊢
      simp only [List.map_cons, List.map_nil, List.mem_cons, List.not_mem_nil, or_false, wsum, List.sum_cons, List.sum_nil, Nat.add_zero, Nat.one_mul, forall_eq_or_imp, forall_eq] at h1 h2
      omega
  · rename_i q
    rw [if_neg q] at h2
    simp only [List.map_nil, List.mem_cons, List.not_mem_nil, or_false] at h1
    have : n = 1 := by omega
    subst this
    rw [sv_end (by decide), h1]
theorem sum_cast (xs : List Nat) : (xs.map fun n => ((n : Nat) : Int)).sum = ((xs.sum : Nat) : Int) := by
  induction xs with
  | nil => rfl
  | cons x xs ih => rw [List.map_cons, List.sum_cons, List.sum_cons, ih, Int.natCast_add]
theorem pts_two {n : Nat} {e : Str × List (Nat × Nat)} (he : e ∈ pts n) : e.2.length ≤ 2 := by
  unfold pts at he
  rcases List.mem_cons.1 he with rfl | he
  · exact Nat.le_refl _
  · split at he
    · rw [List.mem_singleton] at he
      subst he
      exact Nat.le_succ _
    · cases he
/-- what comes of one turn -/
structure Grow (N : Nat) (ks0 bs ks as : List Nat) : Prop where
  keys : Keys N ks
  pos : ∀ y ∈ ks, 1 ≤ y
  sub0 : ∀ y ∈ ks0, y ∈ ks
  asub : ∀ y ∈ as, y ∈ ks
  bsub : ∀ y ∈ bs, y ∈ as
  new : ∀ y ∈ ks, y ∈ ks0 ∨ y ∈ as
  len : as.length + ks0.length = bs.length + ks.length
theorem Grow.add {N y : Nat} {ks0 bs ks as : List Nat} (h : Grow N ks0 bs ks as) (hf : y ∈ fam N) (hy : 1 ≤ y) (hn : y ∉ ks) : Grow N ks0 bs (hasN ks y) (as ++ [y]) where
  keys := h.keys.add hf
  pos := fun z hz => (mem_hasN.1 hz).elim (h.pos z) fun e => e ▸ hy
  sub0 := fun z hz => mem_hasN.2 (.inl (h.sub0 z hz))
  asub := fun z hz => by
    rw [List.mem_append, List.mem_singleton] at hz
    exact mem_hasN.2 (hz.elim (fun q => .inl (h.asub z q)) .inr)
  bsub := fun z hz => List.mem_append_left _ (h.bsub z hz)
  new := fun z hz => by
    rcases mem_hasN.1 hz with q | rfl
    · exact (h.new z q).elim .inl fun r => .inr (List.mem_append_left _ r)
    · exact .inr (by simp)
  len := by
    rw [length_hasN_new hn, List.length_append, List.length_singleton]
    have := h.len
    omega
variable [KK]
section
variable {P : Program} {w : World} {mg : Str → Option Value} {base : Heap}
def fs_parts_of : FSp := fun ds L post => ∃ n : Nat, ds = [.int n] ∧ post (.lst ((pts n).map ptD)) L
set_option maxHeartbeats 0 in
theorem ok_parts_of   (i : ∃ (f : Addr) (fd : FuncData), FunD KK.K "parts_of" "parts_of" (defArgs s_parts_of) (defBody s_parts_of) (defScope s_parts_of) [] [] f fd ∧ mg "parts_of" = some (.ref f)) : Cal P w mg base 1 "parts_of" "parts_of" s_parts_of ["n"] fs_parts_of := by
  obtain ⟨f, fd, DD, hm⟩ := i
  refine ⟨f, fd, DD, fn_G (k := 0) DD sc_parts_of ?len (fun cdv A outer s H hG hR => (s_cons (s_set (n := 1) (fun _ => sc_parts_of.nd) (fun _ => rfl) (fun _ => by first | exact Or.inl rfl | exact Or.inr rfl) (g_lstF (a_cons (g_tup (a_cons g_str (a_cons (g_lstF (a_cons (g_tup (a_cons (g_div (g_add (gv 0) g_int) g_int) (a_cons g_int a_nil))) (a_cons (g_tup (a_cons (g_div (gv 0) g_int) (a_cons g_int a_nil))) a_nil))) a_nil))) a_nil)))
    (s_one (s_ret (g_catF (gv 1) (g_ite (b_gt (gv 0) g_int) (g_lstF (a_cons (g_tup (a_cons g_str (a_cons (g_lstF (a_cons (g_tup (a_cons (g_div (g_add (gv 0) g_int) g_int) (a_cons g_int a_nil))) a_nil)) a_nil))) a_nil)) (g_lstF a_nil))))))) ?main, hm⟩
  case len => intro ds L post h; unfold fs_parts_of at h; repeat (first | (obtain ⟨rfl, _⟩ := h; rfl) | (obtain ⟨_, h⟩ := h))
  case main =>
    rintro ds L post ⟨n, rfl, hp⟩
    simp only [gSq, gNext, gRet, gRetN, gIfS, gAsg, gPar, gPar3, gDrop, gIfE, gTst, gNot, gAnd, gOr, gAndV, gOrV, gNotV, g2, gVar, gC, gNm, gTp, gTl, gGn, gGc, rN, rM, rQ, rNn, gaNil, gaCons, gTupD, gLstF, gLstO, gCall, gCallK, gCB, Gh.c1, Gh.c2, kInt, kInt2, kToInt, gNeg, lk, stt, startG, List.map, List.replicate, List.length, gAug_, dInt, List.cons_append, List.nil_append, gBreak, gCont, gDPut_, gSubD_, gSubL_, gDGet_, gDIn_, onP, onI, onK, onD, onL, onS, onN, gLM, gLM0, gSlF, gSlO, gNo, gPt, kLen, gNewK, gDs1_, Gh.rIxD, itS, itR, itL, itK, mApp, mExt, mPop, mApp1, mExt1, keyD, isLs, gFor, gWh, giL, giT, giR1, giR2, gRvF, gLrF, gLrO, kListF, kListO, gLc, gYes, gDc, wipeG, wipeG.stn, put_same, put_put, atI_last, at0, at1, at2, ix0, ix1, ix2, List.set_cons_zero, List.set_cons_succ, Option.some.injEq, Gh.O.lst.injEq, Gh.O.dic.injEq, Gh.D.ptr.injEq, exists_eq_left', exists_eq_left, exists_eq', exists_eq, true_and, and_true, Bool.false_xor, Bool.true_xor, decide_eq_true_eq, decide_eq_false_iff_not, rCatF]
    have e : (pts n).map ptD = D.tup [.str "halves", .lst [.tup [.int (((n : Int) + 1) / 2), .int 2], .tup [.int ((n : Int) / 2), .int 1]]] :: if 2 < n then [.tup [.str "thirds", .lst [.tup [.int (((n : Int) + 2) / 3), .int 6]]]] else [] := by
      rw [half0, half1, third2]
      unfold pts
      split <;> rfl
    rw [e] at hp
    have sl : ∀ k, k ≤ 100 → k ≤ sizeLine := fun k h => by rw [sizeLine_eq]; omega
    refine ⟨divOk (by omega) (by omega), sl _ (by decide), divOk (by omega) (by omega), sl _ (by decide), sl _ (by decide), sl _ (by decide), sl _ (by decide), fun h => ?_, fun h => ?_⟩
    · rw [if_pos (by omega)] at hp
      exact ⟨divOk (by omega) (by omega), sl _ (by decide), sl _ (by decide), sl _ (by decide), sl _ (by decide), sl _ (by decide), rt_in hp⟩
    · rw [if_neg (by omega)] at hp
      exact ⟨sl _ (by decide), sl _ (by decide), rt_in hp⟩
def svD (n : Nat) : D := .int (sv n : Nat)
def fs_split_counts : FSp := fun ds L post => ∃ n : Nat, ds = [.int n] ∧ 1 ≤ n ∧ n < 2 ^ 61 ∧ ∀ q ks L', L' q = some (.dic (dk svD ks)) → Gh.Sub L L' → n ∈ ks → (∀ e ∈ ptx n, ∀ y ∈ e.2, y.1 ∈ ks) → post (.ptr q) L'
theorem get_map {α : Type} {f : α → D} {xs : List α} {i : Nat} {d : D} (h : (xs.map f)[i]? = some d) : ∃ x, xs[i]? = some x ∧ d = f x := by
  rw [List.getElem?_map] at h
  cases e : xs[i]? with
  | none => rw [e] at h; cases h
  | some x => rw [e] at h; cases h; exact ⟨x, rfl, rfl⟩
set_option maxHeartbeats 0 in
theorem ok_split_counts (m_min : mg "min" = none) (m_sorted : mg "sorted" = none) (m_sum : mg "sum" = none) (c_parts_of : Cal P w mg base 1 "parts_of" "parts_of" s_parts_of ["n"] fs_parts_of) (i : ∃ (f : Addr) (fd : FuncData), FunD KK.K "split_counts" "split_counts" (defArgs s_split_counts) (defBody s_split_counts) (defScope s_split_counts) [] [] f fd ∧ mg "split_counts" = some (.ref f)) : Cal P w mg base 2 "split_counts" "split_counts" s_split_counts ["n"] fs_split_counts := by
  obtain ⟨f, fd, DD, hm⟩ := i
  refine ⟨f, fd, DD, fn_G (k := 1) DD sc_split_counts ?len (fun cdv A outer s H hG hR => (s_cons (s_par (n := 1) (m := 2) (fun _ => rfl) (fun _ => sc_split_counts.nd) (fun _ => rfl) (fun _ => rfl) (by decide) (fun _ => rfl) (fun _ => rfl) (a_cons (g_ds1 (gv 0) g_bl) (a_cons (g_lstO (a_cons (gv 0) a_nil)) a_nil)))
    (s_cons (s_while (fun _ => PassesOwn.never) (b_neD (fun _ => rfl) (fun _ => hR.units) (gv 2) (g_lstF a_nil)) (s_cons (s_set (n := 3) (fun _ => sc_split_counts.nd) (fun _ => rfl) (fun _ => by first | exact Or.inl rfl | exact Or.inr rfl) (g_pop (fun _ => rfl) (gv 2)))
    (s_one (s_for (fun _ => PassesOwn.never) (fun _ => rfl) (i_lst (fun _ => rfl) (g_ite (b_gt (gv 3) g_int) (g_c (fun _ => rfl) (fun _ => hG) (fun _ => hR.mono (by decide)) (fun _ => c_parts_of) bd_parts_of (a_cons (gv 3) a_nil)) (g_lstF a_nil))) (t_tp (n := 2) (fun _ => rfl) (fun _ => rfl) (ts_cons (t_nm (fun _ => sc_split_counts.nd) (fun _ => rfl) (fun _ => by first | exact Or.inl rfl | exact Or.inr rfl) (i := 4)) (ts_cons (t_nm (fun _ => sc_split_counts.nd) (fun _ => rfl) (fun _ => by first | exact Or.inl rfl | exact Or.inr rfl) (i := 5)) ts_nil))) (s_one (s_for (fun _ => PassesOwn.never) (fun _ => rfl) (i_lst (fun _ => rfl) (gv 5)) (t_tp (n := 2) (fun _ => rfl) (fun _ => rfl) (ts_cons (t_nm (fun _ => sc_split_counts.nd) (fun _ => rfl) (fun _ => by first | exact Or.inl rfl | exact Or.inr rfl) (i := 6)) (ts_cons (t_nm (fun _ => sc_split_counts.nd) (fun _ => rfl) (fun _ => by first | exact Or.inl rfl | exact Or.inr rfl) (i := 7)) ts_nil))) (s_one (s_if (b_dnin (fun _ => hu_of hR) (gv 6) (gv 1)) (s_cons (s_dput (fun _ => hu_of hR) (gv 1) (gv 6) g_bl)
    (s_one (s_expr (g_app (fun _ => rfl) (gv 2) (a_cons (gv 6) a_nil))))) s_nil))))))))
    (s_cons (s_set (n := 8) (fun _ => sc_split_counts.nd) (fun _ => rfl) (fun _ => by first | exact Or.inl rfl | exact Or.inr rfl) g_newK)
    (s_cons (s_for (fun _ => PassesOwn.never) (fun _ => rfl) (i_lst (fun _ => rfl) (f_sortD (fun _ => rfl) (fun _ => m_sorted) (a_cons (gv 1) a_nil))) (t_nm (fun _ => sc_split_counts.nd) (fun _ => rfl) (fun _ => by first | exact Or.inl rfl | exact Or.inr rfl) (i := 3)) (s_cons (s_set (n := 9) (fun _ => sc_split_counts.nd) (fun _ => rfl) (fun _ => by first | exact Or.inl rfl | exact Or.inr rfl) (g_lstO (a_cons (g_mul (gv 3) (gv 3)) a_nil)))
    (s_cons (s_for (fun _ => PassesOwn.never) (fun _ => rfl) (i_lst (fun _ => rfl) (g_ite (b_gt (gv 3) g_int) (g_c (fun _ => rfl) (fun _ => hG) (fun _ => hR.mono (by decide)) (fun _ => c_parts_of) bd_parts_of (a_cons (gv 3) a_nil)) (g_lstF a_nil))) (t_tp (n := 2) (fun _ => rfl) (fun _ => rfl) (ts_cons (t_nm (fun _ => sc_split_counts.nd) (fun _ => rfl) (fun _ => by first | exact Or.inl rfl | exact Or.inr rfl) (i := 4)) (ts_cons (t_nm (fun _ => sc_split_counts.nd) (fun _ => rfl) (fun _ => by first | exact Or.inl rfl | exact Or.inr rfl) (i := 5)) ts_nil))) (s_one (s_expr (g_app (fun _ => rfl) (gv 9) (a_cons (f_sum (fun _ => m_sum) (a_cons (g_lc (own := [("part", 6), ("often", 7)]) (fun _ => rfl) (fun _ => sc_split_counts.nd) (i_lst (fun _ => rfl) (gv 5)) (fun _ => blkOk_by (own := [("part", 6), ("often", 7)]) (N := ["n", "sizes", "ahead", "size", "word", "parts", "part", "often", "counts", "ways"]) (sc := defScope s_split_counts) (by decide +kernel)) (x_tp (n := 2) (fun _ => rfl) (fun _ => rfl) (xs_cons (x_nm (fun _ => sc_split_counts.nd) (fun _ => rfl) (fun _ => by first | exact Or.inl rfl | exact Or.inr rfl) (fun _ => Or.inr rfl) (by decide) (i := 6)) (xs_cons (x_nm (fun _ => sc_split_counts.nd) (fun _ => rfl) (fun _ => by first | exact Or.inl rfl | exact Or.inr rfl) (fun _ => Or.inr rfl) (by decide) (i := 7)) xs_nil))) if_nil (g_mul (gv 7) (g_dget (fun _ => hu_of hR) (gv 8) (gv 6) (fun _ _ => rfl)))) a_nil) (hK := (fun _ => rfl)) (hc := (fun _ => rfl))) a_nil)))))
    (s_one (s_dput (fun _ => hu_of hR) (gv 8) (gv 3) (f_min (fun _ => rfl) (fun _ => rfl) (fun _ => m_min) (a_cons (gv 9) a_nil)))))))
    (s_one (s_ret (gv 8)))))))) ?main, hm⟩
  case len => intro ds L post h; unfold fs_split_counts at h; repeat (first | (obtain ⟨rfl, _⟩ := h; rfl) | (obtain ⟨_, h⟩ := h))
  case main =>
    rintro ds L post ⟨n, rfl, hn, hN, hp⟩
    have sl : ∀ k, k ≤ 100 → k ≤ sizeLine := fun k h => by rw [sizeLine_eq]; omega
    refine seq_gen fun R1 hR1 => ?_
    simp only [gSq, gNext, gRet, gRetN, gIfS, gAsg, gPar, gPar3, gDrop, gIfE, gTst, gNot, gAnd, gOr, gAndV, gOrV, gNotV, g2, gVar, gC, gNm, gTp, gTl, gGn, gGc, rN, rM, rQ, rNn, gaNil, gaCons, gTupD, gLstF, gLstO, gCall, gCallK, gCB, Gh.c1, Gh.c2, kInt, kInt2, kToInt, gNeg, lk, stt, startG, List.map, List.replicate, List.length, gAug_, dInt, List.cons_append, List.nil_append, gBreak, gCont, gDPut_, gSubD_, gSubL_, gDGet_, gDIn_, onP, onI, onK, onD, onL, onS, onN, gLM, gLM0, gSlF, gSlO, gNo, gPt, kLen, gNewK, gDs1_, Gh.rIxD, itS, itR, itL, itK, mApp, mExt, mPop, mApp1, mExt1, keyD, isLs, gFor, gWh, giL, giT, giR1, giR2, gRvF, gLrF, gLrO, kListF, kListO, gLc, gYes, gDc, wipeG, wipeG.stn, put_same, put_put, atI_last, at0, at1, at2, ix0, ix1, ix2, List.set_cons_zero, List.set_cons_succ, Option.some.injEq, Gh.O.lst.injEq, Gh.O.dic.injEq, Gh.D.ptr.injEq, exists_eq_left', exists_eq_left, exists_eq', exists_eq, true_and, and_true, Bool.false_xor, Bool.true_xor, decide_eq_true_eq, decide_eq_false_iff_not]
    refine fun p hpn => ⟨sl _ (by decide), fun q hqn => hR1 _ _ ?_⟩
    refine seq_gen fun R2 hR2 => ?_
    have rest : ∀ (L1 : Led) (ks : List Nat) (o3 o4 o5 o6 o7 : Option D), Two p q L L1 (.dic (dk tD ks)) (.lst []) → Keys n ks → n ∈ ks → (∀ x ∈ ks, 1 ≤ x) → (∀ x ∈ ks, ∀ e ∈ ptx x, ∀ y ∈ e.2, y.1 ∈ ks) →
        R2 [some (.int n), some (.ptr p), some (.ptr q), o3, o4, o5, o6, o7, none, none] L1 := by
      intro L1 ks o3 o4 o5 o6 o7 T hK hT hP hC
      refine hR2 _ _ ?_
      refine seq_gen fun R3 hR3 => ?_
      simp only [gSq, gNext, gRet, gRetN, gIfS, gAsg, gPar, gPar3, gDrop, gIfE, gTst, gNot, gAnd, gOr, gAndV, gOrV, gNotV, g2, gVar, gC, gNm, gTp, gTl, gGn, gGc, rN, rM, rQ, rNn, gaNil, gaCons, gTupD, gLstF, gLstO, gCall, gCallK, gCB, Gh.c1, Gh.c2, kInt, kInt2, kToInt, gNeg, lk, stt, startG, List.map, List.replicate, List.length, gAug_, dInt, List.cons_append, List.nil_append, gBreak, gCont, gDPut_, gSubD_, gSubL_, gDGet_, gDIn_, onP, onI, onK, onD, onL, onS, onN, gLM, gLM0, gSlF, gSlO, gNo, gPt, kLen, gNewK, gDs1_, Gh.rIxD, itS, itR, itL, itK, mApp, mExt, mPop, mApp1, mExt1, keyD, isLs, gFor, gWh, giL, giT, giR1, giR2, gRvF, gLrF, gLrO, kListF, kListO, gLc, gYes, gDc, wipeG, wipeG.stn, put_same, put_put, atI_last, at0, at1, at2, ix0, ix1, ix2, List.set_cons_zero, List.set_cons_succ, Option.some.injEq, Gh.O.lst.injEq, Gh.O.dic.injEq, Gh.D.ptr.injEq, exists_eq_left', exists_eq_left, exists_eq', exists_eq, true_and, and_true, Bool.false_xor, Bool.true_xor, decide_eq_true_eq, decide_eq_false_iff_not]
      intro c hc
      refine hR3 _ _ ?_
      refine seq_gen fun R4 hR4 => ?_
      have hpc : p ≠ c := fun e => by rw [← e, T.a] at hc; cases hc
      have hSub := T.sub hpn (new_old hqn)
      have hcL : L c = none := by
        cases z : L c with
        | none => rfl
        | some o => rw [hSub c o z] at hc; cases hc
      simp only [gNext, gRet, gRetN, gIfS, gAsg, gPar, gPar3, gDrop, gIfE, gTst, gNot, gAnd, gOr, gAndV, gOrV, gNotV, g2, gVar, gC, gNm, gTp, gTl, gGn, gGc, rN, rM, rQ, rNn, gaNil, gaCons, gTupD, gLstF, gLstO, gCall, gCallK, gCB, Gh.c1, Gh.c2, kInt, kInt2, kToInt, gNeg, lk, stt, startG, List.map, List.replicate, List.length, gAug_, dInt, List.cons_append, List.nil_append, gBreak, gCont, gDPut_, gSubD_, gSubL_, gDGet_, gDIn_, onP, onI, onK, onD, onL, onS, onN, gLM, gLM0, gSlF, gSlO, gNo, gPt, kLen, gNewK, gDs1_, Gh.rIxD, itS, itR, itL, itK, mApp, mExt, mPop, mApp1, mExt1, keyD, isLs, gFor, gWh, giL, giT, giR1, giR2, gRvF, gLrF, gLrO, kListF, kListO, gLc, gYes, gDc, wipeG, wipeG.stn, put_same, put_put, atI_last, at0, at1, at2, ix0, ix1, ix2, List.set_cons_zero, List.set_cons_succ, Option.some.injEq, Gh.O.lst.injEq, Gh.O.dic.injEq, Gh.D.ptr.injEq, exists_eq_left', exists_eq_left, exists_eq', exists_eq, true_and, and_true, Bool.false_xor, Bool.true_xor, decide_eq_true_eq, decide_eq_false_iff_not, put_ne hpc, T.a, kSortD]
      refine ⟨ks.map fun n => ((n : Nat) : Int), by unfold dk; rw [List.map_map, List.map_map]; rfl, fun ns hperm hasc => ?_⟩
      obtain ⟨xs, rfl, hxa, hxk⟩ := sorted_keys hK.nd hperm hasc
      have e : (xs.map fun n => ((n : Nat) : Int)).map D.int = nats xs := by rw [List.map_map]; rfl
      rw [e]
      have hnd : xs.Nodup := List.nodup_iff_pairwise_ne.2 (hxa.imp fun h e => by omega)
      refine ⟨fun j Γ' L' => ∃ (o3 o4 o5 o6 o7 o9 : Option D), Γ' = [some (.int n), some (.ptr p), some (.ptr q), o3, o4, o5, o6, o7, some (.ptr c), o9] ∧ L' c = some (.dic (dk svD (xs.take j))) ∧ Gh.Sub L L',
        ⟨_, _, _, _, _, none, rfl, put_same, hSub.trans (Sub.put_new hc)⟩, fun _ _ _ _ => trivial, ?_, ?_⟩
      · rintro j d _ L3 hd ⟨o3, o4, o5, o6, o7, o9, rfl, hLc, hS⟩
        obtain ⟨x, hx, rfl⟩ := nats_get hd
        have hxm : x ∈ xs := List.mem_of_getElem? hx
        have hx1 : 1 ≤ x := hP x ((hxk x).1 hxm)
        have hxf := hK.sub x ((hxk x).1 hxm)
        have hxN : x < 2 ^ 62 := by
          obtain ⟨a, b, e, _, _, he, h⟩ := mem_fam.1 hxf
          have := Nat.div_le_self n (2 ^ a * 3 ^ b)
          omega
        refine seq_gen fun R5 hR5 => ?_
        simp only [gSq, gNext, gRet, gRetN, gIfS, gAsg, gPar, gPar3, gDrop, gIfE, gTst, gNot, gAnd, gOr, gAndV, gOrV, gNotV, g2, gVar, gC, gNm, gTp, gTl, gGn, gGc, rN, rM, rQ, rNn, gaNil, gaCons, gTupD, gLstF, gLstO, gCall, gCallK, gCB, Gh.c1, Gh.c2, kInt, kInt2, kToInt, gNeg, lk, stt, startG, List.map, List.replicate, List.length, gAug_, dInt, List.cons_append, List.nil_append, gBreak, gCont, gDPut_, gSubD_, gSubL_, gDGet_, gDIn_, onP, onI, onK, onD, onL, onS, onN, gLM, gLM0, gSlF, gSlO, gNo, gPt, kLen, gNewK, gDs1_, Gh.rIxD, itS, itR, itL, itK, mApp, mExt, mPop, mApp1, mExt1, keyD, isLs, gFor, gWh, giL, giT, giR1, giR2, gRvF, gLrF, gLrO, kListF, kListO, gLc, gYes, gDc, wipeG, wipeG.stn, put_same, put_put, atI_last, at0, at1, at2, ix0, ix1, ix2, List.set_cons_zero, List.set_cons_succ, Option.some.injEq, Gh.O.lst.injEq, Gh.O.dic.injEq, Gh.D.ptr.injEq, exists_eq_left', exists_eq_left, exists_eq', exists_eq, true_and, and_true, Bool.false_xor, Bool.true_xor, decide_eq_true_eq, decide_eq_false_iff_not]
        refine ⟨mulL (by omega) (by omega), sl _ (by decide), fun v hv0 => ?_⟩
        have hvc : v ≠ c := fun e => by rw [e, hLc] at hv0; cases hv0
        have hvL : L v = none := by
          cases z : L v with
          | none => rfl
          | some o => rw [hS v o z] at hv0; cases hv0
        refine hR5 _ _ ?_
        refine seq_gen fun R6 hR6 => ?_
        have fin : ∀ (L4 : Led) (o4 o5 o6 o7 : Option D), L4 v = some (.lst (nats (x * x :: (ptx x).map wsum))) → L4 c = some (.dic (dk svD (xs.take j))) → Gh.Sub L L4 →
            R6 [some (.int n), some (.ptr p), some (.ptr q), some (.int (x : Nat)), o4, o5, o6, o7, some (.ptr c), some (.ptr v)] L4 := by
          intro L4 o4 o5 o6 o7 h1 h2 h3
          refine hR6 _ _ ?_
          simp only [gSq, gNext, gRet, gRetN, gIfS, gAsg, gPar, gPar3, gDrop, gIfE, gTst, gNot, gAnd, gOr, gAndV, gOrV, gNotV, g2, gVar, gC, gNm, gTp, gTl, gGn, gGc, rN, rM, rQ, rNn, gaNil, gaCons, gTupD, gLstF, gLstO, gCall, gCallK, gCB, Gh.c1, Gh.c2, kInt, kInt2, kToInt, gNeg, lk, stt, startG, List.map, List.replicate, List.length, gAug_, dInt, List.cons_append, List.nil_append, gBreak, gCont, gDPut_, gSubD_, gSubL_, gDGet_, gDIn_, onP, onI, onK, onD, onL, onS, onN, gLM, gLM0, gSlF, gSlO, gNo, gPt, kLen, gNewK, gDs1_, Gh.rIxD, itS, itR, itL, itK, mApp, mExt, mPop, mApp1, mExt1, keyD, isLs, gFor, gWh, giL, giT, giR1, giR2, gRvF, gLrF, gLrO, kListF, kListO, gLc, gYes, gDc, wipeG, wipeG.stn, put_same, put_put, atI_last, at0, at1, at2, ix0, ix1, ix2, List.set_cons_zero, List.set_cons_succ, Option.some.injEq, Gh.O.lst.injEq, Gh.O.dic.injEq, Gh.D.ptr.injEq, exists_eq_left', exists_eq_left, exists_eq', exists_eq, true_and, and_true, Bool.false_xor, Bool.true_xor, decide_eq_true_eq, decide_eq_false_iff_not, h1, h2, kInts]
          refine ⟨(x * x :: (ptx x).map wsum).map fun n => ((n : Nat) : Int), by simp only [List.map_cons, List.map_map]; rfl, by simp, fun m hm hmin => ?_⟩
          obtain ⟨m', hm', rfl⟩ := List.mem_map.1 hm
          have em := sv_min hx1 hm' fun y hy => by
            have := hmin ((y : Nat) : Int) (List.mem_map.2 ⟨y, hy, rfl⟩)
            omega
          subst em
          have ep := dk_put svD x (xs.take j)
          have ev : D.int ((sv x : Nat) : Int) = svD x := rfl
          rw [ev, ep, hasN_take hnd hx]
          have hk2 : Keys n (xs.take j) := ⟨hnd.sublist (List.take_sublist _ _), fun z hz => hK.sub z ((hxk z).1 (List.mem_of_mem_take hz))⟩
          exact ⟨by rw [dk_length]; exact hk2.line, _, _, _, _, _, _, rfl, rfl, h3.put_r hcL⟩
        have s0 : Gh.Sub L (put L3 v (.lst (nats [x * x]))) := hS.put_r hvL
        have e0 : ([D.int ((x : Int) * (x : Int))] : List D) = nats [x * x] := by rw [← Int.natCast_mul]; rfl
        rw [e0]
        have hc0 : (put L3 v (.lst (nats [x * x]))) c = some (.dic (dk svD (xs.take j))) := by rw [put_ne hvc.symm, hLc]
        have hv1 : (put L3 v (.lst (nats [x * x]))) v = some (.lst (nats [x * x])) := put_same
        generalize put L3 v (.lst (nats [x * x])) = L5 at *
        have hpart : 1 < x → ∀ e ∈ pts x, ∀ y ∈ e.2, y.1 ∈ xs.take j ∧ y.2 ≤ 6 := by
          intro q1 e he y hy
          obtain ⟨hyf, hy1, hyx, hy6⟩ := pts_sub hN hxf q1 he hy
          have hyk : y.1 ∈ ks := hC x ((hxk x).1 hxm) e (by show e ∈ (if 1 < x then pts x else []); rw [if_pos q1]; exact he) y hy
          exact ⟨asc_take hxa hx ((hxk _).2 hyk) hyx, hy6⟩
        simp only [gSq, gNext, gRet, gRetN, gIfS, gAsg, gPar, gPar3, gDrop, gIfE, gTst, gNot, gAnd, gOr, gAndV, gOrV, gNotV, g2, gVar, gC, gNm, gTp, gTl, gGn, gGc, rN, rM, rQ, rNn, gaNil, gaCons, gTupD, gLstF, gLstO, gCall, gCallK, gCB, Gh.c1, Gh.c2, kInt, kInt2, kToInt, gNeg, lk, stt, startG, List.map, List.replicate, List.length, gAug_, dInt, List.cons_append, List.nil_append, gBreak, gCont, gDPut_, gSubD_, gSubL_, gDGet_, gDIn_, onP, onI, onK, onD, onL, onS, onN, gLM, gLM0, gSlF, gSlO, gNo, gPt, kLen, gNewK, gDs1_, Gh.rIxD, itS, itR, itL, itK, mApp, mExt, mPop, mApp1, mExt1, keyD, isLs, gFor, gWh, giL, giT, giR1, giR2, gRvF, gLrF, gLrO, kListF, kListO, gLc, gYes, gDc, wipeG, wipeG.stn, put_same, put_put, atI_last, at0, at1, at2, ix0, ix1, ix2, List.set_cons_zero, List.set_cons_succ, Option.some.injEq, Gh.O.lst.injEq, Gh.O.dic.injEq, Gh.D.ptr.injEq, exists_eq_left', exists_eq_left, exists_eq', exists_eq, true_and, and_true, Bool.false_xor, Bool.true_xor, decide_eq_true_eq, decide_eq_false_iff_not]
        refine ⟨fun h1 => ?_, fun h1 => ?_⟩
        · have q1 : 1 < x := by omega
          have hpart := hpart q1
          have ep : ptx x = pts x := if_pos q1
          rw [ep] at fin
          refine ⟨x, rfl, ?_⟩
          simp only [gSq, gNext, gRet, gRetN, gIfS, gAsg, gPar, gPar3, gDrop, gIfE, gTst, gNot, gAnd, gOr, gAndV, gOrV, gNotV, g2, gVar, gC, gNm, gTp, gTl, gGn, gGc, rN, rM, rQ, rNn, gaNil, gaCons, gTupD, gLstF, gLstO, gCall, gCallK, gCB, Gh.c1, Gh.c2, kInt, kInt2, kToInt, gNeg, lk, stt, startG, List.map, List.replicate, List.length, gAug_, dInt, List.cons_append, List.nil_append, gBreak, gCont, gDPut_, gSubD_, gSubL_, gDGet_, gDIn_, onP, onI, onK, onD, onL, onS, onN, gLM, gLM0, gSlF, gSlO, gNo, gPt, kLen, gNewK, gDs1_, Gh.rIxD, itS, itR, itL, itK, mApp, mExt, mPop, mApp1, mExt1, keyD, isLs, gFor, gWh, giL, giT, giR1, giR2, gRvF, gLrF, gLrO, kListF, kListO, gLc, gYes, gDc, wipeG, wipeG.stn, put_same, put_put, atI_last, at0, at1, at2, ix0, ix1, ix2, List.set_cons_zero, List.set_cons_succ, Option.some.injEq, Gh.O.lst.injEq, Gh.O.dic.injEq, Gh.D.ptr.injEq, exists_eq_left', exists_eq_left, exists_eq', exists_eq, true_and, and_true, Bool.false_xor, Bool.true_xor, decide_eq_true_eq, decide_eq_false_iff_not]
          refine ⟨fun i Γ' L' => ∃ (o4 o5 o6 o7 : Option D), Γ' = [some (.int n), some (.ptr p), some (.ptr q), some (.int (x : Nat)), o4, o5, o6, o7, some (.ptr c), some (.ptr v)] ∧ L' v = some (.lst (nats (x * x :: ((pts x).take i).map wsum))) ∧ L' c = some (.dic (dk svD (xs.take j))) ∧ Gh.Sub L L',
            ⟨_, _, _, _, rfl, hv1, hc0, s0⟩, fun _ _ _ _ => trivial, ?_, ?_⟩
          · rintro i d _ L6 hd ⟨o4, o5, o6, o7, rfl, g1, g2, g3⟩
            obtain ⟨e, he, rfl⟩ := get_map hd
            have hem : e ∈ pts x := List.mem_of_getElem? he
            have hil : (pts x).length ≤ 2 := by unfold pts; split <;> simp
            have hi2 : i < (pts x).length := (List.getElem?_eq_some_iff.1 he).1
            obtain ⟨wd, l⟩ := e
            simp only [gSq, gNext, gRet, gRetN, gIfS, gAsg, gPar, gPar3, gDrop, gIfE, gTst, gNot, gAnd, gOr, gAndV, gOrV, gNotV, g2, gVar, gC, gNm, gTp, gTl, gGn, gGc, rN, rM, rQ, rNn, gaNil, gaCons, gTupD, gLstF, gLstO, gCall, gCallK, gCB, Gh.c1, Gh.c2, kInt, kInt2, kToInt, gNeg, lk, stt, startG, List.map, List.replicate, List.length, gAug_, dInt, List.cons_append, List.nil_append, gBreak, gCont, gDPut_, gSubD_, gSubL_, gDGet_, gDIn_, onP, onI, onK, onD, onL, onS, onN, gLM, gLM0, gSlF, gSlO, gNo, gPt, kLen, gNewK, gDs1_, Gh.rIxD, itS, itR, itL, itK, mApp, mExt, mPop, mApp1, mExt1, keyD, isLs, gFor, gWh, giL, giT, giR1, giR2, gRvF, gLrF, gLrO, kListF, kListO, gLc, gYes, gDc, wipeG, wipeG.stn, put_same, put_put, atI_last, at0, at1, at2, ix0, ix1, ix2, List.set_cons_zero, List.set_cons_succ, Option.some.injEq, Gh.O.lst.injEq, Gh.O.dic.injEq, Gh.D.ptr.injEq, exists_eq_left', exists_eq_left, exists_eq', exists_eq, true_and, and_true, Bool.false_xor, Bool.true_xor, decide_eq_true_eq, decide_eq_false_iff_not, ptD, kInts, g1]
            intro Z hZ
            have hZv : Z ≠ v := fun e => by rw [e, g1] at hZ; cases hZ
            have hZc : Z ≠ c := fun e => by rw [e, g2] at hZ; cases hZ
            have hZL : L Z = none := by
              cases z : L Z with
              | none => rfl
              | some o => rw [g3 Z o z] at hZ; cases hZ
            refine ⟨fun t acc L' => acc = nats ((l.take t).map fun y => y.2 * sv y.1) ∧ L' = put L6 Z (.lst (nats ((l.take t).map fun y => y.2 * sv y.1))), ⟨rfl, rfl⟩, ?_, ?_, ?_⟩
            · rintro t acc _ ⟨rfl, rfl⟩
              exact put_same
            · rintro t d acc _ hd2 ⟨rfl, rfl⟩
              obtain ⟨y, hy, rfl⟩ := get_map hd2
              have hym : y ∈ l := List.mem_of_getElem? hy
              obtain ⟨m1, m2⟩ := hpart _ hem y hym
              have etk : l.take (t + 1) = l.take t ++ [y] := by rw [List.take_add_one, hy]; rfl
              have eacc : nats ((l.take (t + 1)).map fun y => y.2 * sv y.1) = nats ((l.take t).map fun y => y.2 * sv y.1) ++ [D.int ((y.2 : Int) * ((sv y.1 : Nat) : Int))] := by
                rw [etk, List.map_append, nats_app, ← Int.natCast_mul]; rfl
              have htl : t < l.length := (List.getElem?_eq_some_iff.1 hy).1
              obtain ⟨y1, y2⟩ := y
              simp only [gSq, gNext, gRet, gRetN, gIfS, gAsg, gPar, gPar3, gDrop, gIfE, gTst, gNot, gAnd, gOr, gAndV, gOrV, gNotV, g2, gVar, gC, gNm, gTp, gTl, gGn, gGc, rN, rM, rQ, rNn, gaNil, gaCons, gTupD, gLstF, gLstO, gCall, gCallK, gCB, Gh.c1, Gh.c2, kInt, kInt2, kToInt, gNeg, lk, stt, startG, List.map, List.replicate, List.length, gAug_, dInt, List.cons_append, List.nil_append, gBreak, gCont, gDPut_, gSubD_, gSubL_, gDGet_, gDIn_, onP, onI, onK, onD, onL, onS, onN, gLM, gLM0, gSlF, gSlO, gNo, gPt, kLen, gNewK, gDs1_, Gh.rIxD, itS, itR, itL, itK, mApp, mExt, mPop, mApp1, mExt1, keyD, isLs, gFor, gWh, giL, giT, giR1, giR2, gRvF, gLrF, gLrO, kListF, kListO, gLc, gYes, gDc, wipeG, wipeG.stn, put_same, put_put, atI_last, at0, at1, at2, ix0, ix1, ix2, List.set_cons_zero, List.set_cons_succ, Option.some.injEq, Gh.O.lst.injEq, Gh.O.dic.injEq, Gh.D.ptr.injEq, exists_eq_left', exists_eq_left, exists_eq', exists_eq, true_and, and_true, Bool.false_xor, Bool.true_xor, decide_eq_true_eq, decide_eq_false_iff_not, prD, put_ne hZc.symm, g2, dk_find, if_pos m1, svD]
              refine ⟨fun _ => ⟨mulL (by omega) (by omega), ?_, eacc.symm, by rw [eacc]⟩, fun h => by cases h⟩
              rw [nats_length, List.length_map, List.length_take]
              exact line64 (by have : l.length ≤ 2 := pts_two hem; omega)
            · rintro acc _ ⟨rfl, rfl⟩
              simp only [gSq, gNext, gRet, gRetN, gIfS, gAsg, gPar, gPar3, gDrop, gIfE, gTst, gNot, gAnd, gOr, gAndV, gOrV, gNotV, g2, gVar, gC, gNm, gTp, gTl, gGn, gGc, rN, rM, rQ, rNn, gaNil, gaCons, gTupD, gLstF, gLstO, gCall, gCallK, gCB, Gh.c1, Gh.c2, kInt, kInt2, kToInt, gNeg, lk, stt, startG, List.map, List.replicate, List.length, gAug_, dInt, List.cons_append, List.nil_append, gBreak, gCont, gDPut_, gSubD_, gSubL_, gDGet_, gDIn_, onP, onI, onK, onD, onL, onS, onN, gLM, gLM0, gSlF, gSlO, gNo, gPt, kLen, gNewK, gDs1_, Gh.rIxD, itS, itR, itL, itK, mApp, mExt, mPop, mApp1, mExt1, keyD, isLs, gFor, gWh, giL, giT, giR1, giR2, gRvF, gLrF, gLrO, kListF, kListO, gLc, gYes, gDc, wipeG, wipeG.stn, put_same, put_put, atI_last, at0, at1, at2, ix0, ix1, ix2, List.set_cons_zero, List.set_cons_succ, Option.some.injEq, Gh.O.lst.injEq, Gh.O.dic.injEq, Gh.D.ptr.injEq, exists_eq_left', exists_eq_left, exists_eq', exists_eq, true_and, and_true, Bool.false_xor, Bool.true_xor, decide_eq_true_eq, decide_eq_false_iff_not, put_ne hZv.symm, g1, List.length_map, List.take_length]
              refine ⟨(l.map fun y => y.2 * sv y.1).map fun n => ((n : Nat) : Int), by simp only [List.map_map]; rfl, ?_, ?_⟩
              · rw [List.length_take]
                exact line64 (by omega)
              · refine ⟨_, _, _, _, rfl, ?_, by rw [put_ne hvc.symm, put_ne hZc.symm, g2], (g3.put_r hZL).put_r hvL⟩
                rw [List.take_add_one, he, sum_cast, List.map_append, List.map_append]
                rfl
          · rintro _ L6 ⟨o4, o5, o6, o7, rfl, g1, g2, g3⟩
            rw [List.length_map, List.take_length] at g1
            exact fin L6 _ _ _ _ g1 g2 g3
        · have ep : ptx x = [] := if_neg (by omega)
          rw [ep] at fin
          refine ⟨Nat.zero_le _, fun i Γ' L' => Γ' = [some (.int n), some (.ptr p), some (.ptr q), some (.int (x : Nat)), o4, o5, o6, o7, some (.ptr c), some (.ptr v)] ∧ L' = L5, ⟨rfl, rfl⟩, fun _ _ _ _ => trivial, fun i d Γ' L' hd => by simp at hd, ?_⟩
          rintro _ _ ⟨rfl, rfl⟩
          exact fin _ _ _ _ _ hv1 hc0 s0
      · rintro _ L3 ⟨o3, o4, o5, o6, o7, o9, rfl, hLc, hS⟩
        refine hR4 _ _ ?_
        rw [nats_length, List.take_length] at hLc
        simp only [gSq, gNext, gRet, gRetN, gIfS, gAsg, gPar, gPar3, gDrop, gIfE, gTst, gNot, gAnd, gOr, gAndV, gOrV, gNotV, g2, gVar, gC, gNm, gTp, gTl, gGn, gGc, rN, rM, rQ, rNn, gaNil, gaCons, gTupD, gLstF, gLstO, gCall, gCallK, gCB, Gh.c1, Gh.c2, kInt, kInt2, kToInt, gNeg, lk, stt, startG, List.map, List.replicate, List.length, gAug_, dInt, List.cons_append, List.nil_append, gBreak, gCont, gDPut_, gSubD_, gSubL_, gDGet_, gDIn_, onP, onI, onK, onD, onL, onS, onN, gLM, gLM0, gSlF, gSlO, gNo, gPt, kLen, gNewK, gDs1_, Gh.rIxD, itS, itR, itL, itK, mApp, mExt, mPop, mApp1, mExt1, keyD, isLs, gFor, gWh, giL, giT, giR1, giR2, gRvF, gLrF, gLrO, kListF, kListO, gLc, gYes, gDc, wipeG, wipeG.stn, put_same, put_put, atI_last, at0, at1, at2, ix0, ix1, ix2, List.set_cons_zero, List.set_cons_succ, Option.some.injEq, Gh.O.lst.injEq, Gh.O.dic.injEq, Gh.D.ptr.injEq, exists_eq_left', exists_eq_left, exists_eq', exists_eq, true_and, and_true, Bool.false_xor, Bool.true_xor, decide_eq_true_eq, decide_eq_false_iff_not]
        exact rt_in (hp c xs L3 hLc hS ((hxk n).2 hT) fun e he y hy => (hxk _).2 (hC n hT e he y hy))
    simp only [gSq, gNext, gRet, gRetN, gIfS, gAsg, gPar, gPar3, gDrop, gIfE, gTst, gNot, gAnd, gOr, gAndV, gOrV, gNotV, g2, gVar, gC, gNm, gTp, gTl, gGn, gGc, rN, rM, rQ, rNn, gaNil, gaCons, gTupD, gLstF, gLstO, gCall, gCallK, gCB, Gh.c1, Gh.c2, kInt, kInt2, kToInt, gNeg, lk, stt, startG, List.map, List.replicate, List.length, gAug_, dInt, List.cons_append, List.nil_append, gBreak, gCont, gDPut_, gSubD_, gSubL_, gDGet_, gDIn_, onP, onI, onK, onD, onL, onS, onN, gLM, gLM0, gSlF, gSlO, gNo, gPt, kLen, gNewK, gDs1_, Gh.rIxD, itS, itR, itL, itK, mApp, mExt, mPop, mApp1, mExt1, keyD, isLs, gFor, gWh, giL, giT, giR1, giR2, gRvF, gLrF, gLrO, kListF, kListO, gLc, gYes, gDc, wipeG, wipeG.stn, put_same, put_put, atI_last, at0, at1, at2, ix0, ix1, ix2, List.set_cons_zero, List.set_cons_succ, Option.some.injEq, Gh.O.lst.injEq, Gh.O.dic.injEq, Gh.D.ptr.injEq, exists_eq_left', exists_eq_left, exists_eq', exists_eq, true_and, and_true, Bool.false_xor, Bool.true_xor, decide_eq_true_eq, decide_eq_false_iff_not]
    refine ⟨fun m Γ' L' => ∃ (ks as : List Nat) (o3 o4 o5 o6 o7 : Option D), Γ' = [some (.int n), some (.ptr p), some (.ptr q), o3, o4, o5, o6, o7, none, none] ∧ Two p q L L' (.dic (dk tD ks)) (.lst (nats as)) ∧ Keys n ks ∧
      (∀ x ∈ as, x ∈ ks) ∧ (∀ x ∈ ks, 1 ≤ x) ∧ (∀ x ∈ ks, x ∈ as ∨ ∀ e ∈ ptx x, ∀ y ∈ e.2, y.1 ∈ ks) ∧ n ∈ ks ∧ as.length ≤ ks.length ∧ m = 2 * (8448 - ks.length) + as.length,
      ⟨_, [n], [n], none, none, none, none, none, rfl, Two.new hpn hqn, Keys.nil.add (fam_top (e := 0) (by decide)), by simp, fun x hx => ?_, fun x hx => .inl hx, by simp, Nat.le_refl _, rfl⟩, ?_⟩
    · rw [List.mem_singleton] at hx; omega
    rintro m _ L1 ⟨ks, as, o3, o4, o5, o6, o7, rfl, T, hK, hA, hP, hC, hT, hl, rfl⟩
    simp only [gSq, gNext, gRet, gRetN, gIfS, gAsg, gPar, gPar3, gDrop, gIfE, gTst, gNot, gAnd, gOr, gAndV, gOrV, gNotV, g2, gVar, gC, gNm, gTp, gTl, gGn, gGc, rN, rM, rQ, rNn, gaNil, gaCons, gTupD, gLstF, gLstO, gCall, gCallK, gCB, Gh.c1, Gh.c2, kInt, kInt2, kToInt, gNeg, lk, stt, startG, List.map, List.replicate, List.length, gAug_, dInt, List.cons_append, List.nil_append, gBreak, gCont, gDPut_, gSubD_, gSubL_, gDGet_, gDIn_, onP, onI, onK, onD, onL, onS, onN, gLM, gLM0, gSlF, gSlO, gNo, gPt, kLen, gNewK, gDs1_, Gh.rIxD, itS, itR, itL, itK, mApp, mExt, mPop, mApp1, mExt1, keyD, isLs, gFor, gWh, giL, giT, giR1, giR2, gRvF, gLrF, gLrO, kListF, kListO, gLc, gYes, gDc, wipeG, wipeG.stn, put_same, put_put, atI_last, at0, at1, at2, ix0, ix1, ix2, List.set_cons_zero, List.set_cons_succ, Option.some.injEq, Gh.O.lst.injEq, Gh.O.dic.injEq, Gh.D.ptr.injEq, exists_eq_left', exists_eq_left, exists_eq', exists_eq, true_and, and_true, Bool.false_xor, Bool.true_xor, decide_eq_true_eq, decide_eq_false_iff_not]
    refine ⟨Nat.zero_le _, _, _, .ptr T.b (py_ints as), .lst .nil, shaped_ints _, shaped_nil, ?_⟩
    show ((true ^^ eqNil as) = true → _) ∧ ((true ^^ eqNil as) = false → _)
    have hkl := hK.len
    rcases List.eq_nil_or_concat as with rfl | ⟨bs, x, e0⟩
    · rw [eqNil_nil]
      exact ⟨fun h => (by cases h), fun _ => rest _ _ _ _ _ _ _ T hK hT hP fun x hx => (hC x hx).elim (fun h => by cases h) id⟩
    · rw [List.concat_eq_append] at e0
      subst e0
      rw [eqNil_app]
      refine ⟨fun _ => ⟨⟨_, T.b⟩, _, _, T.b, nats_last, ?_⟩, fun h => by cases h⟩
      rw [nats_dropLast]
      have T1 := T.sb (.lst (nats bs))
      have hxk : x ∈ ks := hA x (by simp)
      have hx1 := hP x hxk
      have hxf := hK.sub x hxk
      have hlb : (bs ++ [x]).length = bs.length + 1 := by simp
      generalize put L1 q (.lst (nats bs)) = L2 at *
      have G0 : Grow n ks bs ks bs := ⟨hK, hP, fun y h => h, fun y hy => hA y (by simp [hy]), fun y h => h, fun y h => .inl h, by omega⟩
      simp only [gSq, gNext, gRet, gRetN, gIfS, gAsg, gPar, gPar3, gDrop, gIfE, gTst, gNot, gAnd, gOr, gAndV, gOrV, gNotV, g2, gVar, gC, gNm, gTp, gTl, gGn, gGc, rN, rM, rQ, rNn, gaNil, gaCons, gTupD, gLstF, gLstO, gCall, gCallK, gCB, Gh.c1, Gh.c2, kInt, kInt2, kToInt, gNeg, lk, stt, startG, List.map, List.replicate, List.length, gAug_, dInt, List.cons_append, List.nil_append, gBreak, gCont, gDPut_, gSubD_, gSubL_, gDGet_, gDIn_, onP, onI, onK, onD, onL, onS, onN, gLM, gLM0, gSlF, gSlO, gNo, gPt, kLen, gNewK, gDs1_, Gh.rIxD, itS, itR, itL, itK, mApp, mExt, mPop, mApp1, mExt1, keyD, isLs, gFor, gWh, giL, giT, giR1, giR2, gRvF, gLrF, gLrO, kListF, kListO, gLc, gYes, gDc, wipeG, wipeG.stn, put_same, put_put, atI_last, at0, at1, at2, ix0, ix1, ix2, List.set_cons_zero, List.set_cons_succ, Option.some.injEq, Gh.O.lst.injEq, Gh.O.dic.injEq, Gh.D.ptr.injEq, exists_eq_left', exists_eq_left, exists_eq', exists_eq, true_and, and_true, Bool.false_xor, Bool.true_xor, decide_eq_true_eq, decide_eq_false_iff_not]
      have fin : ∀ (ks' as' : List Nat) (o4 o5 o6 o7 : Option D) (L3 : Led), Grow n ks bs ks' as' → (∀ e ∈ ptx x, ∀ y ∈ e.2, y.1 ∈ ks') → Two p q L L3 (.dic (dk tD ks')) (.lst (nats as')) →
          ∃ m', m' < 2 * (8448 - ks.length) + (bs ++ [x]).length ∧ ∃ (ks as : List Nat) (o3 o4_1 o5_1 o6_1 o7_1 : Option D), ([some (.int n), some (.ptr p), some (.ptr q), some (.int (x : Nat)), o4, o5, o6, o7, none, none] : Gm) = [some (.int n), some (.ptr p), some (.ptr q), o3, o4_1, o5_1, o6_1, o7_1, none, none] ∧ Two p q L L3 (.dic (dk tD ks)) (.lst (nats as)) ∧ Keys n ks ∧
      (∀ x ∈ as, x ∈ ks) ∧ (∀ x ∈ ks, 1 ≤ x) ∧ (∀ x ∈ ks, x ∈ as ∨ ∀ e ∈ ptx x, ∀ y ∈ e.2, y.1 ∈ ks) ∧ n ∈ ks ∧ as.length ≤ ks.length ∧ m' = 2 * (8448 - ks.length) + as.length := by
        intro ks' as' o4 o5 o6 o7 L3 G hp2 T3
        have h1 := G.keys.len
        have h2 := G.len
        have h3 : ks.length ≤ ks'.length := hK.nd.length_le_of_subset G.sub0
        refine ⟨_, ?_, ks', as', _, _, _, _, _, rfl, T3, G.keys, G.asub, G.pos, fun y hy => ?_, G.sub0 _ hT, by omega, rfl⟩
        · omega
        · rcases G.new y hy with h | h
          · rcases hC y h with z | z
            · rw [List.mem_append, List.mem_singleton] at z
              rcases z with z | rfl
              · exact .inl (G.bsub y z)
              · exact .inr hp2
            · exact .inr fun e he u hu => G.sub0 _ (z e he u hu)
          · exact .inl h
      refine ⟨fun h1 => ?_, fun h1 => ?_⟩
      · have q1 : 1 < x := by omega
        have ep : ptx x = pts x := if_pos q1
        refine ⟨x, rfl, ?_⟩
        simp only [gSq, gNext, gRet, gRetN, gIfS, gAsg, gPar, gPar3, gDrop, gIfE, gTst, gNot, gAnd, gOr, gAndV, gOrV, gNotV, g2, gVar, gC, gNm, gTp, gTl, gGn, gGc, rN, rM, rQ, rNn, gaNil, gaCons, gTupD, gLstF, gLstO, gCall, gCallK, gCB, Gh.c1, Gh.c2, kInt, kInt2, kToInt, gNeg, lk, stt, startG, List.map, List.replicate, List.length, gAug_, dInt, List.cons_append, List.nil_append, gBreak, gCont, gDPut_, gSubD_, gSubL_, gDGet_, gDIn_, onP, onI, onK, onD, onL, onS, onN, gLM, gLM0, gSlF, gSlO, gNo, gPt, kLen, gNewK, gDs1_, Gh.rIxD, itS, itR, itL, itK, mApp, mExt, mPop, mApp1, mExt1, keyD, isLs, gFor, gWh, giL, giT, giR1, giR2, gRvF, gLrF, gLrO, kListF, kListO, gLc, gYes, gDc, wipeG, wipeG.stn, put_same, put_put, atI_last, at0, at1, at2, ix0, ix1, ix2, List.set_cons_zero, List.set_cons_succ, Option.some.injEq, Gh.O.lst.injEq, Gh.O.dic.injEq, Gh.D.ptr.injEq, exists_eq_left', exists_eq_left, exists_eq', exists_eq, true_and, and_true, Bool.false_xor, Bool.true_xor, decide_eq_true_eq, decide_eq_false_iff_not]
        refine ⟨fun i Γ' L' => ∃ (ks' as' : List Nat) (o4 o5 o6 o7 : Option D), Γ' = [some (.int n), some (.ptr p), some (.ptr q), some (.int (x : Nat)), o4, o5, o6, o7, none, none] ∧ Grow n ks bs ks' as' ∧ (∀ e ∈ (pts x).take i, ∀ y ∈ e.2, y.1 ∈ ks') ∧ Two p q L L' (.dic (dk tD ks')) (.lst (nats as')),
          ⟨ks, bs, _, _, _, _, rfl, G0, by simp, T1⟩, fun _ _ _ _ => trivial, ?_, ?_⟩
        · rintro i d _ L3 hd ⟨ks1, as1, o4, o5, o6, o7, rfl, G1, hd1, T3⟩
          obtain ⟨e, he, rfl⟩ := get_map hd
          have hem : e ∈ pts x := List.mem_of_getElem? he
          obtain ⟨wd, l⟩ := e
          simp only [gSq, gNext, gRet, gRetN, gIfS, gAsg, gPar, gPar3, gDrop, gIfE, gTst, gNot, gAnd, gOr, gAndV, gOrV, gNotV, g2, gVar, gC, gNm, gTp, gTl, gGn, gGc, rN, rM, rQ, rNn, gaNil, gaCons, gTupD, gLstF, gLstO, gCall, gCallK, gCB, Gh.c1, Gh.c2, kInt, kInt2, kToInt, gNeg, lk, stt, startG, List.map, List.replicate, List.length, gAug_, dInt, List.cons_append, List.nil_append, gBreak, gCont, gDPut_, gSubD_, gSubL_, gDGet_, gDIn_, onP, onI, onK, onD, onL, onS, onN, gLM, gLM0, gSlF, gSlO, gNo, gPt, kLen, gNewK, gDs1_, Gh.rIxD, itS, itR, itL, itK, mApp, mExt, mPop, mApp1, mExt1, keyD, isLs, gFor, gWh, giL, giT, giR1, giR2, gRvF, gLrF, gLrO, kListF, kListO, gLc, gYes, gDc, wipeG, wipeG.stn, put_same, put_put, atI_last, at0, at1, at2, ix0, ix1, ix2, List.set_cons_zero, List.set_cons_succ, Option.some.injEq, Gh.O.lst.injEq, Gh.O.dic.injEq, Gh.D.ptr.injEq, exists_eq_left', exists_eq_left, exists_eq', exists_eq, true_and, and_true, Bool.false_xor, Bool.true_xor, decide_eq_true_eq, decide_eq_false_iff_not, ptD]
          refine ⟨fun j Γ' L' => ∃ (ks' as' : List Nat) (o6 o7 : Option D), Γ' = [some (.int n), some (.ptr p), some (.ptr q), some (.int (x : Nat)), some (.str wd), some (.lst (l.map prD)), o6, o7, none, none] ∧ Grow n ks bs ks' as' ∧ (∀ e ∈ (pts x).take i, ∀ y ∈ e.2, y.1 ∈ ks') ∧ (∀ y ∈ l.take j, y.1 ∈ ks') ∧ Two p q L L' (.dic (dk tD ks')) (.lst (nats as')),
            ⟨ks1, as1, _, _, rfl, G1, hd1, by simp, T3⟩, fun _ _ _ _ => trivial, ?_, ?_⟩
          · rintro j d _ L4 hd4 ⟨ks2, as2, o6, o7, rfl, G2, hd2, hd3, T4⟩
            obtain ⟨y, hy, rfl⟩ := get_map hd4
            have hym : y ∈ l := List.mem_of_getElem? hy
            obtain ⟨hyf, hy1, hyx, hy6⟩ := pts_sub hN hxf q1 hem hym
            have etk : l.take (j + 1) = l.take j ++ [y] := by rw [List.take_add_one, hy]; rfl
            obtain ⟨y1, y2⟩ := y
            simp only [gSq, gNext, gRet, gRetN, gIfS, gAsg, gPar, gPar3, gDrop, gIfE, gTst, gNot, gAnd, gOr, gAndV, gOrV, gNotV, g2, gVar, gC, gNm, gTp, gTl, gGn, gGc, rN, rM, rQ, rNn, gaNil, gaCons, gTupD, gLstF, gLstO, gCall, gCallK, gCB, Gh.c1, Gh.c2, kInt, kInt2, kToInt, gNeg, lk, stt, startG, List.map, List.replicate, List.length, gAug_, dInt, List.cons_append, List.nil_append, gBreak, gCont, gDPut_, gSubD_, gSubL_, gDGet_, gDIn_, onP, onI, onK, onD, onL, onS, onN, gLM, gLM0, gSlF, gSlO, gNo, gPt, kLen, gNewK, gDs1_, Gh.rIxD, itS, itR, itL, itK, mApp, mExt, mPop, mApp1, mExt1, keyD, isLs, gFor, gWh, giL, giT, giR1, giR2, gRvF, gLrF, gLrO, kListF, kListO, gLc, gYes, gDc, wipeG, wipeG.stn, put_same, put_put, atI_last, at0, at1, at2, ix0, ix1, ix2, List.set_cons_zero, List.set_cons_succ, Option.some.injEq, Gh.O.lst.injEq, Gh.O.dic.injEq, Gh.D.ptr.injEq, exists_eq_left', exists_eq_left, exists_eq', exists_eq, true_and, and_true, Bool.false_xor, Bool.true_xor, decide_eq_true_eq, decide_eq_false_iff_not, prD, T4.a, dk_find]
            by_cases hm : y1 ∈ ks2
            · rw [if_pos hm]
              refine ⟨fun h => (by cases h), fun _ => ⟨ks2, as2, _, _, rfl, G2, hd2, fun z hz => ?_, T4⟩⟩
              rw [etk, List.mem_append, List.mem_singleton] at hz
              rcases hz with hz | rfl
              · exact hd3 z hz
              · exact hm
            · rw [if_neg hm]
              have G3 := G2.add hyf hy1 hm
              have T5 := T4.sa (.dic (dk tD (hasN ks2 y1)))
              have ep2 : putD (dk tD ks2) (.inl (y1 : Int)) (.bl true) = dk tD (hasN ks2 y1) := dk_put tD y1 ks2
              refine ⟨fun _ => ⟨by rw [dk_length]; exact G2.keys.line, ?_⟩, fun h => by cases h⟩
              rw [ep2]
              have hl3 := G2.len
              have hl4 := G2.keys.len
              refine ⟨⟨_, T5.b⟩, _, T5.b, by rw [nats_length, sizeLine_eq]; omega, hasN ks2 y1, as2 ++ [y1], _, _, rfl, G3, fun e he z hz => mem_hasN.2 (.inl (hd2 e he z hz)), fun z hz => ?_, ?_⟩
              · rw [etk, List.mem_append, List.mem_singleton] at hz
                rcases hz with hz | rfl
                · exact mem_hasN.2 (.inl (hd3 z hz))
                · exact mem_hasN.2 (.inr rfl)
              · have e : nats as2 ++ [D.int (y1 : Nat)] = nats (as2 ++ [y1]) := by rw [nats_app]; rfl
                rw [e]
                exact T5.sb _
          · rintro _ L4 ⟨ks2, as2, o6, o7, rfl, G2, hd2, hd3, T4⟩
            refine ⟨ks2, as2, _, _, _, _, rfl, G2, fun z hz => ?_, T4⟩
            rw [List.take_add_one, he, List.mem_append] at hz
            rcases hz with hz | hz
            · exact hd2 z hz
            · have : z = (wd, l) := by simpa using hz
              subst this
              rw [List.length_map, List.take_length] at hd3
              exact hd3
        · rintro _ L3 ⟨ks1, as1, o4, o5, o6, o7, rfl, G1, hd1, T3⟩
          rw [List.length_map, List.take_length, ← ep] at hd1
          exact fin ks1 as1 _ _ _ _ L3 G1 hd1 T3
      · have ep : ptx x = [] := if_neg (by omega)
        refine ⟨Nat.zero_le _, fun i Γ' L' => Γ' = [some (.int n), some (.ptr p), some (.ptr q), some (.int (x : Nat)), o4, o5, o6, o7, none, none] ∧ L' = L2, ⟨rfl, rfl⟩, fun _ _ _ _ => trivial, fun i d Γ' L' hd => by simp at hd, ?_⟩
        rintro _ _ ⟨rfl, rfl⟩
        exact fin ks bs _ _ _ _ _ G0 (by rw [ep]; simp) T1
def fs_split_count : FSp := fun ds L post => ∃ n : Nat, ds = [.int n] ∧ 1 ≤ n ∧ n < 2 ^ 61 ∧ post (.int (sv n : Nat)) L
set_option maxHeartbeats 0 in
theorem ok_split_count  (c_split_counts : Cal P w mg base 2 "split_counts" "split_counts" s_split_counts ["n"] fs_split_counts) (i : ∃ (f : Addr) (fd : FuncData), FunD KK.K "split_count" "split_count" (defArgs s_split_count) (defBody s_split_count) (defScope s_split_count) [] [] f fd ∧ mg "split_count" = some (.ref f)) : Cal P w mg base 3 "split_count" "split_count" s_split_count ["n"] fs_split_count := by
  obtain ⟨f, fd, DD, hm⟩ := i
  refine ⟨f, fd, DD, fn_G (k := 2) DD sc_split_count ?len (fun cdv A outer s H hG hR => (s_one (s_ret (g_dget (fun _ => hu_of hR) (g_c (fun _ => rfl) (fun _ => hG) (fun _ => hR.mono (by decide)) (fun _ => c_split_counts) bd_split_counts (a_cons (gv 0) a_nil)) (gv 0) (fun _ _ => rfl))))) ?main, hm⟩
  case len => intro ds L post h; unfold fs_split_count at h; repeat (first | (obtain ⟨rfl, _⟩ := h; rfl) | (obtain ⟨_, h⟩ := h))
  case main =>
    rintro ds L post ⟨n, rfl, hn, hN, hp⟩
    simp only [gSq, gNext, gRet, gRetN, gIfS, gAsg, gPar, gPar3, gDrop, gIfE, gTst, gNot, gAnd, gOr, gAndV, gOrV, gNotV, g2, gVar, gC, gNm, gTp, gTl, gGn, gGc, rN, rM, rQ, rNn, gaNil, gaCons, gTupD, gLstF, gLstO, gCall, gCallK, gCB, Gh.c1, Gh.c2, kInt, kInt2, kToInt, gNeg, lk, stt, startG, List.map, List.replicate, List.length, gAug_, dInt, List.cons_append, List.nil_append, gBreak, gCont, gDPut_, gSubD_, gSubL_, gDGet_, gDIn_, onP, onI, onK, onD, onL, onS, onN, gLM, gLM0, gSlF, gSlO, gNo, gPt, kLen, gNewK, gDs1_, Gh.rIxD, itS, itR, itL, itK, mApp, mExt, mPop, mApp1, mExt1, keyD, isLs, gFor, gWh, giL, giT, giR1, giR2, gRvF, gLrF, gLrO, kListF, kListO, gLc, gYes, gDc, wipeG, wipeG.stn, put_same, put_put, atI_last, at0, at1, at2, ix0, ix1, ix2, List.set_cons_zero, List.set_cons_succ, Option.some.injEq, Gh.O.lst.injEq, Gh.O.dic.injEq, Gh.D.ptr.injEq, exists_eq_left', exists_eq_left, exists_eq', exists_eq, true_and, and_true, Bool.false_xor, Bool.true_xor, decide_eq_true_eq, decide_eq_false_iff_not]
    refine ⟨n, rfl, hn, hN, fun q ks L' h1 h2 h3 h4 => ?_⟩
    simp only [gSq, gNext, gRet, gRetN, gIfS, gAsg, gPar, gPar3, gDrop, gIfE, gTst, gNot, gAnd, gOr, gAndV, gOrV, gNotV, g2, gVar, gC, gNm, gTp, gTl, gGn, gGc, rN, rM, rQ, rNn, gaNil, gaCons, gTupD, gLstF, gLstO, gCall, gCallK, gCB, Gh.c1, Gh.c2, kInt, kInt2, kToInt, gNeg, lk, stt, startG, List.map, List.replicate, List.length, gAug_, dInt, List.cons_append, List.nil_append, gBreak, gCont, gDPut_, gSubD_, gSubL_, gDGet_, gDIn_, onP, onI, onK, onD, onL, onS, onN, gLM, gLM0, gSlF, gSlO, gNo, gPt, kLen, gNewK, gDs1_, Gh.rIxD, itS, itR, itL, itK, mApp, mExt, mPop, mApp1, mExt1, keyD, isLs, gFor, gWh, giL, giT, giR1, giR2, gRvF, gLrF, gLrO, kListF, kListO, gLc, gYes, gDc, wipeG, wipeG.stn, put_same, put_put, atI_last, at0, at1, at2, ix0, ix1, ix2, List.set_cons_zero, List.set_cons_succ, Option.some.injEq, Gh.O.lst.injEq, Gh.O.dic.injEq, Gh.D.ptr.injEq, exists_eq_left', exists_eq_left, exists_eq', exists_eq, true_and, and_true, Bool.false_xor, Bool.true_xor, decide_eq_true_eq, decide_eq_false_iff_not, h1, dk_find, if_pos h3, svD]
    exact ⟨L, h2, hp⟩
def wayS (n : Nat) : Str := if n ≤ 1 then "one" else match (pts n).find? (fun e => decide (wsum e = sv n)) with | some e => e.1 | none => "plain"
theorem find_first {α : Type} {f : α → Bool} : ∀ {xs : List α} {i : Nat} {x : α}, xs[i]? = some x → (∀ y ∈ xs.take i, f y = false) → f x = true → xs.find? f = some x
  | [], i, x, h, _, _ => by cases h
  | y :: ys, 0, x, h, _, hx => by cases h; rw [List.find?_cons, hx]
  | y :: ys, i + 1, x, h, hn, hx => by
    rw [List.find?_cons, hn y (by simp)]
    exact find_first (i := i) h (fun z hz => hn z (by simp [hz])) hx
def fs_split_way : FSp := fun ds L post => ∃ n : Nat, ds = [.int n] ∧ 1 ≤ n ∧ n < 2 ^ 61 ∧ post (.str (wayS n)) L
set_option maxHeartbeats 0 in
theorem ok_split_way (m_sum : mg "sum" = none) (c_split_counts : Cal P w mg base 2 "split_counts" "split_counts" s_split_counts ["n"] fs_split_counts) (c_parts_of : Cal P w mg base 1 "parts_of" "parts_of" s_parts_of ["n"] fs_parts_of) (i : ∃ (f : Addr) (fd : FuncData), FunD KK.K "split_way" "split_way" (defArgs s_split_way) (defBody s_split_way) (defScope s_split_way) [] [] f fd ∧ mg "split_way" = some (.ref f)) : Cal P w mg base 3 "split_way" "split_way" s_split_way ["n"] fs_split_way := by
  obtain ⟨f, fd, DD, hm⟩ := i
  refine ⟨f, fd, DD, fn_G (k := 2) DD sc_split_way ?len (fun cdv A outer s H hG hR => (s_cons (s_if (b_eq (gv 0) g_int) (s_one (s_ret g_str)) s_nil)
    (s_cons (s_set (n := 1) (fun _ => sc_split_way.nd) (fun _ => rfl) (fun _ => by first | exact Or.inl rfl | exact Or.inr rfl) (g_c (fun _ => rfl) (fun _ => hG) (fun _ => hR.mono (by decide)) (fun _ => c_split_counts) bd_split_counts (a_cons (gv 0) a_nil)))
    (s_cons (s_for (fun _ => PassesOwn.never) (fun _ => rfl) (i_lst (fun _ => rfl) (g_c (fun _ => rfl) (fun _ => hG) (fun _ => hR.mono (by decide)) (fun _ => c_parts_of) bd_parts_of (a_cons (gv 0) a_nil))) (t_tp (n := 2) (fun _ => rfl) (fun _ => rfl) (ts_cons (t_nm (fun _ => sc_split_way.nd) (fun _ => rfl) (fun _ => by first | exact Or.inl rfl | exact Or.inr rfl) (i := 2)) (ts_cons (t_nm (fun _ => sc_split_way.nd) (fun _ => rfl) (fun _ => by first | exact Or.inl rfl | exact Or.inr rfl) (i := 3)) ts_nil))) (s_one (s_if (b_eq (f_sum (fun _ => m_sum) (a_cons (g_lc (own := [("part", 4), ("often", 5)]) (fun _ => rfl) (fun _ => sc_split_way.nd) (i_lst (fun _ => rfl) (gv 3)) (fun _ => blkOk_by (own := [("part", 4), ("often", 5)]) (N := ["n", "counts", "word", "parts", "part", "often"]) (sc := defScope s_split_way) (by decide +kernel)) (x_tp (n := 2) (fun _ => rfl) (fun _ => rfl) (xs_cons (x_nm (fun _ => sc_split_way.nd) (fun _ => rfl) (fun _ => by first | exact Or.inl rfl | exact Or.inr rfl) (fun _ => Or.inr rfl) (by decide) (i := 4)) (xs_cons (x_nm (fun _ => sc_split_way.nd) (fun _ => rfl) (fun _ => by first | exact Or.inl rfl | exact Or.inr rfl) (fun _ => Or.inr rfl) (by decide) (i := 5)) xs_nil))) if_nil (g_mul (gv 5) (g_dget (fun _ => hu_of hR) (gv 1) (gv 4) (fun _ _ => rfl)))) a_nil) (hK := (fun _ => rfl)) (hc := (fun _ => rfl))) (g_dget (fun _ => hu_of hR) (gv 1) (gv 0) (fun _ _ => rfl))) (s_one (s_ret (gv 2))) s_nil)))
    (s_one (s_ret g_str)))))) ?main, hm⟩
  case len => intro ds L post h; unfold fs_split_way at h; repeat (first | (obtain ⟨rfl, _⟩ := h; rfl) | (obtain ⟨_, h⟩ := h))
  case main =>
    rintro ds L post ⟨n, rfl, hn, hN, hp⟩
    simp only [gSq, gNext, gRet, gRetN, gIfS, gAsg, gPar, gPar3, gDrop, gIfE, gTst, gNot, gAnd, gOr, gAndV, gOrV, gNotV, g2, gVar, gC, gNm, gTp, gTl, gGn, gGc, rN, rM, rQ, rNn, gaNil, gaCons, gTupD, gLstF, gLstO, gCall, gCallK, gCB, Gh.c1, Gh.c2, kInt, kInt2, kToInt, gNeg, lk, stt, startG, List.map, List.replicate, List.length, gAug_, dInt, List.cons_append, List.nil_append, gBreak, gCont, gDPut_, gSubD_, gSubL_, gDGet_, gDIn_, onP, onI, onK, onD, onL, onS, onN, gLM, gLM0, gSlF, gSlO, gNo, gPt, kLen, gNewK, gDs1_, Gh.rIxD, itS, itR, itL, itK, mApp, mExt, mPop, mApp1, mExt1, keyD, isLs, gFor, gWh, giL, giT, giR1, giR2, gRvF, gLrF, gLrO, kListF, kListO, gLc, gYes, gDc, wipeG, wipeG.stn, put_same, put_put, atI_last, at0, at1, at2, ix0, ix1, ix2, List.set_cons_zero, List.set_cons_succ, Option.some.injEq, Gh.O.lst.injEq, Gh.O.dic.injEq, Gh.D.ptr.injEq, exists_eq_left', exists_eq_left, exists_eq', exists_eq, true_and, and_true, Bool.false_xor, Bool.true_xor, decide_eq_true_eq, decide_eq_false_iff_not]
    refine ⟨fun h => ?_, fun h => ?_⟩
    · have : n = 1 := by omega
      subst this
      exact rt_in hp
    · have q1 : 1 < n := by omega
      have ep : ptx n = pts n := if_pos q1
      unfold wayS at hp
      rw [if_neg (by omega)] at hp
      refine ⟨n, rfl, hn, hN, fun c ks L1 h1 h2 h3 h4 => ?_⟩
      rw [ep] at h4
      refine ⟨n, rfl, ?_⟩
      simp only [gSq, gNext, gRet, gRetN, gIfS, gAsg, gPar, gPar3, gDrop, gIfE, gTst, gNot, gAnd, gOr, gAndV, gOrV, gNotV, g2, gVar, gC, gNm, gTp, gTl, gGn, gGc, rN, rM, rQ, rNn, gaNil, gaCons, gTupD, gLstF, gLstO, gCall, gCallK, gCB, Gh.c1, Gh.c2, kInt, kInt2, kToInt, gNeg, lk, stt, startG, List.map, List.replicate, List.length, gAug_, dInt, List.cons_append, List.nil_append, gBreak, gCont, gDPut_, gSubD_, gSubL_, gDGet_, gDIn_, onP, onI, onK, onD, onL, onS, onN, gLM, gLM0, gSlF, gSlO, gNo, gPt, kLen, gNewK, gDs1_, Gh.rIxD, itS, itR, itL, itK, mApp, mExt, mPop, mApp1, mExt1, keyD, isLs, gFor, gWh, giL, giT, giR1, giR2, gRvF, gLrF, gLrO, kListF, kListO, gLc, gYes, gDc, wipeG, wipeG.stn, put_same, put_put, atI_last, at0, at1, at2, ix0, ix1, ix2, List.set_cons_zero, List.set_cons_succ, Option.some.injEq, Gh.O.lst.injEq, Gh.O.dic.injEq, Gh.D.ptr.injEq, exists_eq_left', exists_eq_left, exists_eq', exists_eq, true_and, and_true, Bool.false_xor, Bool.true_xor, decide_eq_true_eq, decide_eq_false_iff_not]
      refine ⟨fun i Γ' L' => ∃ (o2 o3 o4 o5 : Option D), Γ' = [some (.int n), some (.ptr c), o2, o3, o4, o5] ∧ L' c = some (.dic (dk svD ks)) ∧ Gh.Sub L L' ∧ ∀ e ∈ (pts n).take i, wsum e ≠ sv n,
        ⟨none, none, none, none, rfl, h1, h2, by simp⟩, fun _ _ _ _ => trivial, ?_, ?_⟩
      · rintro i d _ L6 hd ⟨o2, o3, o4, o5, rfl, g2, g3, g4⟩
        obtain ⟨e, he, rfl⟩ := get_map hd
        have hem : e ∈ pts n := List.mem_of_getElem? he
        obtain ⟨wd, l⟩ := e
        simp only [gSq, gNext, gRet, gRetN, gIfS, gAsg, gPar, gPar3, gDrop, gIfE, gTst, gNot, gAnd, gOr, gAndV, gOrV, gNotV, g2, gVar, gC, gNm, gTp, gTl, gGn, gGc, rN, rM, rQ, rNn, gaNil, gaCons, gTupD, gLstF, gLstO, gCall, gCallK, gCB, Gh.c1, Gh.c2, kInt, kInt2, kToInt, gNeg, lk, stt, startG, List.map, List.replicate, List.length, gAug_, dInt, List.cons_append, List.nil_append, gBreak, gCont, gDPut_, gSubD_, gSubL_, gDGet_, gDIn_, onP, onI, onK, onD, onL, onS, onN, gLM, gLM0, gSlF, gSlO, gNo, gPt, kLen, gNewK, gDs1_, Gh.rIxD, itS, itR, itL, itK, mApp, mExt, mPop, mApp1, mExt1, keyD, isLs, gFor, gWh, giL, giT, giR1, giR2, gRvF, gLrF, gLrO, kListF, kListO, gLc, gYes, gDc, wipeG, wipeG.stn, put_same, put_put, atI_last, at0, at1, at2, ix0, ix1, ix2, List.set_cons_zero, List.set_cons_succ, Option.some.injEq, Gh.O.lst.injEq, Gh.O.dic.injEq, Gh.D.ptr.injEq, exists_eq_left', exists_eq_left, exists_eq', exists_eq, true_and, and_true, Bool.false_xor, Bool.true_xor, decide_eq_true_eq, decide_eq_false_iff_not, ptD, kInts]
        intro Z hZ
        have hZc : Z ≠ c := fun e => by rw [e, g2] at hZ; cases hZ
        have hZL : L Z = none := by
          cases z : L Z with
          | none => rfl
          | some o => rw [g3 Z o z] at hZ; cases hZ
        refine ⟨fun t acc L' => acc = nats ((l.take t).map fun y => y.2 * sv y.1) ∧ L' = put L6 Z (.lst (nats ((l.take t).map fun y => y.2 * sv y.1))), ⟨rfl, rfl⟩, ?_, ?_, ?_⟩
        · rintro t acc _ ⟨rfl, rfl⟩
          exact put_same
        · rintro t d acc _ hd2 ⟨rfl, rfl⟩
          obtain ⟨y, hy, rfl⟩ := get_map hd2
          have hym : y ∈ l := List.mem_of_getElem? hy
          have m1 := h4 _ hem y hym
          have m2 : y.2 ≤ 6 := (pts_sub (N := n) hN (fam_top (e := 0) (by decide)) q1 hem hym).2.2.2
          have etk : l.take (t + 1) = l.take t ++ [y] := by rw [List.take_add_one, hy]; rfl
          have eacc : nats ((l.take (t + 1)).map fun y => y.2 * sv y.1) = nats ((l.take t).map fun y => y.2 * sv y.1) ++ [D.int ((y.2 : Int) * ((sv y.1 : Nat) : Int))] := by
            rw [etk, List.map_append, nats_app, ← Int.natCast_mul]; rfl
          have htl : t < l.length := (List.getElem?_eq_some_iff.1 hy).1
          obtain ⟨y1, y2⟩ := y
          simp only at m1 m2
          simp only [gSq, gNext, gRet, gRetN, gIfS, gAsg, gPar, gPar3, gDrop, gIfE, gTst, gNot, gAnd, gOr, gAndV, gOrV, gNotV, g2, gVar, gC, gNm, gTp, gTl, gGn, gGc, rN, rM, rQ, rNn, gaNil, gaCons, gTupD, gLstF, gLstO, gCall, gCallK, gCB, Gh.c1, Gh.c2, kInt, kInt2, kToInt, gNeg, lk, stt, startG, List.map, List.replicate, List.length, gAug_, dInt, List.cons_append, List.nil_append, gBreak, gCont, gDPut_, gSubD_, gSubL_, gDGet_, gDIn_, onP, onI, onK, onD, onL, onS, onN, gLM, gLM0, gSlF, gSlO, gNo, gPt, kLen, gNewK, gDs1_, Gh.rIxD, itS, itR, itL, itK, mApp, mExt, mPop, mApp1, mExt1, keyD, isLs, gFor, gWh, giL, giT, giR1, giR2, gRvF, gLrF, gLrO, kListF, kListO, gLc, gYes, gDc, wipeG, wipeG.stn, put_same, put_put, atI_last, at0, at1, at2, ix0, ix1, ix2, List.set_cons_zero, List.set_cons_succ, Option.some.injEq, Gh.O.lst.injEq, Gh.O.dic.injEq, Gh.D.ptr.injEq, exists_eq_left', exists_eq_left, exists_eq', exists_eq, true_and, and_true, Bool.false_xor, Bool.true_xor, decide_eq_true_eq, decide_eq_false_iff_not, prD, put_ne hZc.symm, g2, dk_find, if_pos m1, svD]
          refine ⟨fun _ => ⟨mulL (by omega) (by omega), ?_, eacc.symm, by rw [eacc]⟩, fun h => by cases h⟩
          rw [nats_length, List.length_map, List.length_take]
          exact line64 (by have : l.length ≤ 2 := pts_two hem; omega)
        · rintro acc _ ⟨rfl, rfl⟩
          simp only [gSq, gNext, gRet, gRetN, gIfS, gAsg, gPar, gPar3, gDrop, gIfE, gTst, gNot, gAnd, gOr, gAndV, gOrV, gNotV, g2, gVar, gC, gNm, gTp, gTl, gGn, gGc, rN, rM, rQ, rNn, gaNil, gaCons, gTupD, gLstF, gLstO, gCall, gCallK, gCB, Gh.c1, Gh.c2, kInt, kInt2, kToInt, gNeg, lk, stt, startG, List.map, List.replicate, List.length, gAug_, dInt, List.cons_append, List.nil_append, gBreak, gCont, gDPut_, gSubD_, gSubL_, gDGet_, gDIn_, onP, onI, onK, onD, onL, onS, onN, gLM, gLM0, gSlF, gSlO, gNo, gPt, kLen, gNewK, gDs1_, Gh.rIxD, itS, itR, itL, itK, mApp, mExt, mPop, mApp1, mExt1, keyD, isLs, gFor, gWh, giL, giT, giR1, giR2, gRvF, gLrF, gLrO, kListF, kListO, gLc, gYes, gDc, wipeG, wipeG.stn, put_same, put_put, atI_last, at0, at1, at2, ix0, ix1, ix2, List.set_cons_zero, List.set_cons_succ, Option.some.injEq, Gh.O.lst.injEq, Gh.O.dic.injEq, Gh.D.ptr.injEq, exists_eq_left', exists_eq_left, exists_eq', exists_eq, true_and, and_true, Bool.false_xor, Bool.true_xor, decide_eq_true_eq, decide_eq_false_iff_not, put_ne hZc.symm, g2, dk_find, if_pos h3, svD, List.length_map, List.take_length]
          refine ⟨(l.map fun y => y.2 * sv y.1).map fun n => ((n : Nat) : Int), by simp only [List.map_map]; rfl, ?_⟩
          rw [sum_cast]
          refine ⟨fun h => ?_, fun h => ?_⟩
          · have hw : wsum (wd, l) = sv n := by
              have : (((l.map fun y => y.2 * sv y.1).sum : Nat) : Int) = ((sv n : Nat) : Int) := h
              exact Int.ofNat.inj this
            rw [find_first (f := fun e => decide (wsum e = sv n)) he (fun y hy => decide_eq_false (g4 y hy)) (decide_eq_true hw)] at hp
            exact ⟨L, g3.put_r hZL, hp⟩
          · refine ⟨_, _, _, _, rfl, g3.put_r hZL, fun e he2 => ?_⟩
            rw [List.take_add_one, he, List.mem_append] at he2
            rcases he2 with he2 | he2
            · exact g4 e he2
            · have : e = (wd, l) := by simpa using he2
              subst this
              intro hw
              apply h
              show (((l.map fun y => y.2 * sv y.1).sum : Nat) : Int) = ((sv n : Nat) : Int)
              have : (l.map fun y => y.2 * sv y.1).sum = sv n := hw
              rw [this]
      · rintro _ L6 ⟨o2, o3, o4, o5, rfl, g2, g3, g4⟩
        rw [List.length_map, List.take_length] at g4
        have : (pts n).find? (fun e => decide (wsum e = sv n)) = none := by
          rw [List.find?_eq_none]
          exact fun e he h => g4 e he (of_decide_eq_true h)
        rw [this] at hp
        exact ⟨L, g3, hp⟩
end
end K06

namespace K06
open PySem PySem.Spec L2 Gh
variable [KK]
section
variable {P : Program} {w : World} {mg : Str → Option Value} {base : Heap}
/-- the three ways -/
def threeD (n : Nat) : List D := [.int ((2 * sv ((n + 1) / 2) + sv (n / 2) : Nat)), if 2 < n then .int ((6 * sv ((n + 2) / 3) : Nat)) else .non, .int ((n * n : Nat))]
def fs__law_split (d : Nat) : FSp := fun ds L post => ∃ (n N : Nat) (q : Addr) (ks : List Nat), ds = [.int n, .ptr q] ∧ (∃ e, d = e + 1 ∧ n ≤ 2 ^ e) ∧ L q = some (.dic (dk svD ks)) ∧ Keys N ks ∧ N < 2 ^ 61 ∧ n ∈ fam N ∧ 1 ≤ n ∧ n < 2 ^ 61 ∧
  ∀ ks', Keys N ks' → post (.int (sv n : Nat)) (put L q (.dic (dk svD ks')))
def fs__law_three_ways (d : Nat) : FSp := fun ds L post => ∃ (n N : Nat) (q : Addr) (ks : List Nat), ds = [.int n, .ptr q] ∧ n ≤ 2 ^ d ∧ L q = some (.dic (dk svD ks)) ∧ Keys N ks ∧ N < 2 ^ 61 ∧ n ∈ fam N ∧ 2 ≤ n ∧ n < 2 ^ 61 ∧
  ∀ ks', Keys N ks' → post (.lst (threeD n)) (put L q (.dic (dk svD ks')))
theorem put_swap {L : Led} {q Z : Addr} {A B X : O} (h : Z ≠ q) : put (put (put L q A) Z B) q X = put (put L q X) Z B := by
  funext x
  by_cases e : x = q
  · subst e; rw [put_same, put_ne h.symm, put_same]
  · rw [put_ne e]
    by_cases e2 : x = Z
    · subst e2; rw [put_same, put_same]
    · rw [put_ne e2, put_ne e2, put_ne e, put_ne e]
set_option maxHeartbeats 0 in
theorem st__law_three_ways (d : Nat)  (c__law_split : Cal P w mg base (2 * d + 2) "_law_split" "_law_split" s__law_split ["n", "known"] (fs__law_split d)) (c__law_up : Cal P w mg base 1 "_law_up" "_law_up" s__law_up ["n", "by"] fs__law_up) (i : ∃ (f : Addr) (fd : FuncData), FunD KK.K "_law_three_ways" "_law_three_ways" (defArgs s__law_three_ways) (defBody s__law_three_ways) (defScope s__law_three_ways) [] [] f fd ∧ mg "_law_three_ways" = some (.ref f)) : Cal P w mg base ((2 * d + 3)) "_law_three_ways" "_law_three_ways" s__law_three_ways ["n", "known"] (fs__law_three_ways d) := by
  obtain ⟨f, fd, DD, hm⟩ := i
  refine ⟨f, fd, DD, fn_G (k := (2 * d + 3) - 1) DD sc__law_three_ways ?len (fun cdv A outer s H hG hR => (s_cons (s_set (n := 2) (fun _ => sc__law_three_ways.nd) (fun _ => rfl) (fun _ => by first | exact Or.inl rfl | exact Or.inr rfl) (g_add (g_mul g_int (g_c (fun _ => rfl) (fun _ => hG) (fun _ => hR.mono (by omega)) (fun _ => c__law_split) bd__law_split (a_cons (g_c (fun _ => rfl) (fun _ => hG) (fun _ => hR.mono (by omega)) (fun _ => c__law_up) bd__law_up (a_cons (gv 0) (a_cons g_int a_nil))) (a_cons (gv 1) a_nil)))) (g_c (fun _ => rfl) (fun _ => hG) (fun _ => hR.mono (by omega)) (fun _ => c__law_split) bd__law_split (a_cons (g_div (gv 0) g_int) (a_cons (gv 1) a_nil)))))
    (s_one (s_ret (g_lstF (a_cons (gv 2) (a_cons (g_ite (b_gt (gv 0) g_int) (g_mul g_int (g_c (fun _ => rfl) (fun _ => hG) (fun _ => hR.mono (by omega)) (fun _ => c__law_split) bd__law_split (a_cons (g_c (fun _ => rfl) (fun _ => hG) (fun _ => hR.mono (by omega)) (fun _ => c__law_up) bd__law_up (a_cons (gv 0) (a_cons g_int a_nil))) (a_cons (gv 1) a_nil)))) g_non) (a_cons (g_mul (gv 0) (gv 0)) a_nil)))))))) ?main, hm⟩
  case len => intro ds L post h; unfold fs__law_three_ways at h; repeat (first | (obtain ⟨rfl, _⟩ := h; rfl) | (obtain ⟨_, h⟩ := h))
  case main =>
    rintro ds L post ⟨n, N, q, ks, rfl, hn2, hL, hK, hN, hf, hn, hnN, hp⟩
    have sl : ∀ k, k ≤ 100 → k ≤ sizeLine := fun k h => by rw [sizeLine_eq]; omega
    have he1 : 1 ≤ d := by
      rcases Nat.eq_zero_or_pos d with z | z
      · subst z; simp at hn2; omega
      · exact z
    have hp2 : 2 ^ d = 2 * 2 ^ (d - 1) := by rw [← Nat.pow_succ', show (d - 1).succ = d by omega]
    simp only [gSq, gNext, gRet, gRetN, gIfS, gAsg, gPar, gPar3, gDrop, gIfE, gTst, gNot, gAnd, gOr, gAndV, gOrV, gNotV, g2, gVar, gC, gNm, gTp, gTl, gGn, gGc, rN, rM, rQ, rNn, gaNil, gaCons, gTupD, gLstF, gLstO, gCall, gCallK, gCB, Gh.c1, Gh.c2, kInt, kInt2, kToInt, gNeg, lk, stt, startG, List.map, List.replicate, List.length, gAug_, dInt, List.cons_append, List.nil_append, gBreak, gCont, gDPut_, gSubD_, gSubL_, gDGet_, gDIn_, onP, onI, onK, onD, onL, onS, onN, gLM, gLM0, gSlF, gSlO, gNo, gPt, kLen, gNewK, gDs1_, Gh.rIxD, itS, itR, itL, itK, mApp, mExt, mPop, mApp1, mExt1, keyD, isLs, gFor, gWh, giL, giT, giR1, giR2, gRvF, gLrF, gLrO, kListF, kListO, gLc, gYes, gDc, wipeG, wipeG.stn, put_same, put_put, atI_last, at0, at1, at2, ix0, ix1, ix2, List.set_cons_zero, List.set_cons_succ, Option.some.injEq, Gh.O.lst.injEq, Gh.O.dic.injEq, Gh.D.ptr.injEq, exists_eq_left', exists_eq_left, exists_eq', exists_eq, true_and, and_true, Bool.false_xor, Bool.true_xor, decide_eq_true_eq, decide_eq_false_iff_not]
    refine ⟨n, 2, rfl, by decide, by decide, ?_⟩
    refine ⟨up 2 n, N, q, ks, rfl, ⟨d - 1, by omega, by show (n + 1) / 2 ≤ _; omega⟩, hL, hK, hN, fam_half hN hf (i := 1) (by decide), by show 1 ≤ (n + 1) / 2; omega, by show (n + 1) / 2 < _; omega, fun ks1 hK1 => ?_⟩
    simp only [gSq, gNext, gRet, gRetN, gIfS, gAsg, gPar, gPar3, gDrop, gIfE, gTst, gNot, gAnd, gOr, gAndV, gOrV, gNotV, g2, gVar, gC, gNm, gTp, gTl, gGn, gGc, rN, rM, rQ, rNn, gaNil, gaCons, gTupD, gLstF, gLstO, gCall, gCallK, gCB, Gh.c1, Gh.c2, kInt, kInt2, kToInt, gNeg, lk, stt, startG, List.map, List.replicate, List.length, gAug_, dInt, List.cons_append, List.nil_append, gBreak, gCont, gDPut_, gSubD_, gSubL_, gDGet_, gDIn_, onP, onI, onK, onD, onL, onS, onN, gLM, gLM0, gSlF, gSlO, gNo, gPt, kLen, gNewK, gDs1_, Gh.rIxD, itS, itR, itL, itK, mApp, mExt, mPop, mApp1, mExt1, keyD, isLs, gFor, gWh, giL, giT, giR1, giR2, gRvF, gLrF, gLrO, kListF, kListO, gLc, gYes, gDc, wipeG, wipeG.stn, put_same, put_put, atI_last, at0, at1, at2, ix0, ix1, ix2, List.set_cons_zero, List.set_cons_succ, Option.some.injEq, Gh.O.lst.injEq, Gh.O.dic.injEq, Gh.D.ptr.injEq, exists_eq_left', exists_eq_left, exists_eq', exists_eq, true_and, and_true, Bool.false_xor, Bool.true_xor, decide_eq_true_eq, decide_eq_false_iff_not]
    refine ⟨mulL (by decide) (by decide), divOk (by decide) (by decide), n / 2, N, q, ks1, by rw [half0], ⟨d - 1, by omega, by omega⟩, put_same, hK1, hN, fam_half hN hf (i := 0) (by decide), by omega, by omega, fun ks2 hK2 => ?_⟩
    have eu : up 2 n = (n + 1) / 2 := rfl
    have e1 : D.int (2 * ((sv (up 2 n) : Nat) : Int) + ((sv (n / 2) : Nat) : Int)) = D.int ((2 * sv ((n + 1) / 2) + sv (n / 2) : Nat)) := by
      rw [eu, Int.natCast_add, Int.natCast_mul]; rfl
    have e2 : D.int ((n : Int) * (n : Int)) = D.int ((n * n : Nat)) := by rw [Int.natCast_mul]
    simp only [gSq, gNext, gRet, gRetN, gIfS, gAsg, gPar, gPar3, gDrop, gIfE, gTst, gNot, gAnd, gOr, gAndV, gOrV, gNotV, g2, gVar, gC, gNm, gTp, gTl, gGn, gGc, rN, rM, rQ, rNn, gaNil, gaCons, gTupD, gLstF, gLstO, gCall, gCallK, gCB, Gh.c1, Gh.c2, kInt, kInt2, kToInt, gNeg, lk, stt, startG, List.map, List.replicate, List.length, gAug_, dInt, List.cons_append, List.nil_append, gBreak, gCont, gDPut_, gSubD_, gSubL_, gDGet_, gDIn_, onP, onI, onK, onD, onL, onS, onN, gLM, gLM0, gSlF, gSlO, gNo, gPt, kLen, gNewK, gDs1_, Gh.rIxD, itS, itR, itL, itK, mApp, mExt, mPop, mApp1, mExt1, keyD, isLs, gFor, gWh, giL, giT, giR1, giR2, gRvF, gLrF, gLrO, kListF, kListO, gLc, gYes, gDc, wipeG, wipeG.stn, put_same, put_put, atI_last, at0, at1, at2, ix0, ix1, ix2, List.set_cons_zero, List.set_cons_succ, Option.some.injEq, Gh.O.lst.injEq, Gh.O.dic.injEq, Gh.D.ptr.injEq, exists_eq_left', exists_eq_left, exists_eq', exists_eq, true_and, and_true, Bool.false_xor, Bool.true_xor, decide_eq_true_eq, decide_eq_false_iff_not]
    rw [e1, e2]
    have t : threeD n = [.int ((2 * sv ((n + 1) / 2) + sv (n / 2) : Nat)), if 2 < n then .int ((6 * sv ((n + 2) / 3) : Nat)) else .non, .int ((n * n : Nat))] := rfl
    rw [t] at hp
    refine ⟨fun h => ?_, fun h => ?_⟩
    · rw [if_pos (by omega)] at hp
      refine ⟨n, 3, rfl, by decide, by decide, ?_⟩
      refine ⟨up 3 n, N, q, ks2, rfl, ⟨d - 1, by omega, by show (n + 2) / 3 ≤ _; omega⟩, put_same, hK2, hN, fam_third hN hf (i := 2) (by decide), by show 1 ≤ (n + 2) / 3; omega, by show (n + 2) / 3 < _; omega, fun ks3 hK3 => ?_⟩
      simp only [gSq, gNext, gRet, gRetN, gIfS, gAsg, gPar, gPar3, gDrop, gIfE, gTst, gNot, gAnd, gOr, gAndV, gOrV, gNotV, g2, gVar, gC, gNm, gTp, gTl, gGn, gGc, rN, rM, rQ, rNn, gaNil, gaCons, gTupD, gLstF, gLstO, gCall, gCallK, gCB, Gh.c1, Gh.c2, kInt, kInt2, kToInt, gNeg, lk, stt, startG, List.map, List.replicate, List.length, gAug_, dInt, List.cons_append, List.nil_append, gBreak, gCont, gDPut_, gSubD_, gSubL_, gDGet_, gDIn_, onP, onI, onK, onD, onL, onS, onN, gLM, gLM0, gSlF, gSlO, gNo, gPt, kLen, gNewK, gDs1_, Gh.rIxD, itS, itR, itL, itK, mApp, mExt, mPop, mApp1, mExt1, keyD, isLs, gFor, gWh, giL, giT, giR1, giR2, gRvF, gLrF, gLrO, kListF, kListO, gLc, gYes, gDc, wipeG, wipeG.stn, put_same, put_put, atI_last, at0, at1, at2, ix0, ix1, ix2, List.set_cons_zero, List.set_cons_succ, Option.some.injEq, Gh.O.lst.injEq, Gh.O.dic.injEq, Gh.D.ptr.injEq, exists_eq_left', exists_eq_left, exists_eq', exists_eq, true_and, and_true, Bool.false_xor, Bool.true_xor, decide_eq_true_eq, decide_eq_false_iff_not]
      have e3 : D.int (6 * ((sv (up 3 n) : Nat) : Int)) = D.int ((6 * sv ((n + 2) / 3) : Nat)) := by rw [Int.natCast_mul]; rfl
      rw [e3]
      exact ⟨mulL (by decide) (by decide), mulL (by omega) (by omega), sl _ (by decide), rt_in (hp ks3 hK3)⟩
    · rw [if_neg (by omega)] at hp
      exact ⟨mulL (by omega) (by omega), sl _ (by decide), rt_in (hp ks2 hK2)⟩
set_option maxHeartbeats 0 in
theorem st__law_split (d : Nat) (m_min : mg "min" = none) (c__law_three_ways : Cal P w mg base (2 * d + 3) "_law_three_ways" "_law_three_ways" s__law_three_ways ["n", "known"] (fs__law_three_ways d)) (i : ∃ (f : Addr) (fd : FuncData), FunD KK.K "_law_split" "_law_split" (defArgs s__law_split) (defBody s__law_split) (defScope s__law_split) [] [] f fd ∧ mg "_law_split" = some (.ref f)) : Cal P w mg base ((2 * d + 4)) "_law_split" "_law_split" s__law_split ["n", "known"] (fs__law_split (d + 1)) := by
  obtain ⟨f, fd, DD, hm⟩ := i
  refine ⟨f, fd, DD, fn_G (k := (2 * d + 4) - 1) DD sc__law_split ?len (fun cdv A outer s H hG hR => (s_cons (s_if (b_eq (gv 0) g_int) (s_one (s_ret g_int)) s_nil)
    (s_cons (s_if (b_dnin (fun _ => hu_of hR) (gv 0) (gv 1)) (s_one (s_dput (fun _ => hu_of hR) (gv 1) (gv 0) (f_min (fun _ => rfl) (fun _ => rfl) (fun _ => m_min) (a_cons (g_lc (own := [("many", 2)]) (fun _ => rfl) (fun _ => sc__law_split.nd) (i_lst (fun _ => rfl) (g_c (fun _ => rfl) (fun _ => hG) (fun _ => hR.mono (by omega)) (fun _ => c__law_three_ways) bd__law_three_ways (a_cons (gv 0) (a_cons (gv 1) a_nil)))) (fun _ => blkOk_by (own := [("many", 2)]) (N := ["n", "known", "many"]) (sc := defScope s__law_split) (by decide +kernel)) (x_nm (fun _ => sc__law_split.nd) (fun _ => rfl) (fun _ => by first | exact Or.inl rfl | exact Or.inr rfl) (fun _ => Or.inr rfl) (by decide) (i := 2)) (if_one (b_isnt (gv 2) g_non)) (gv 2)) a_nil)))) s_nil)
    (s_one (s_ret (g_dget (fun _ => hu_of hR) (gv 1) (gv 0) (fun _ _ => rfl))))))) ?main, hm⟩
  case len => intro ds L post h; unfold fs__law_split at h; repeat (first | (obtain ⟨rfl, _⟩ := h; rfl) | (obtain ⟨_, h⟩ := h))
  case main =>
    rintro ds L post ⟨n, N, q, ks, rfl, ⟨e, he, hn2⟩, hL, hK, hN, hf, hn, hnN, hp⟩
    have hde : d = e := by omega
    subst hde
    simp only [gSq, gNext, gRet, gRetN, gIfS, gAsg, gPar, gPar3, gDrop, gIfE, gTst, gNot, gAnd, gOr, gAndV, gOrV, gNotV, g2, gVar, gC, gNm, gTp, gTl, gGn, gGc, rN, rM, rQ, rNn, gaNil, gaCons, gTupD, gLstF, gLstO, gCall, gCallK, gCB, Gh.c1, Gh.c2, kInt, kInt2, kToInt, gNeg, lk, stt, startG, List.map, List.replicate, List.length, gAug_, dInt, List.cons_append, List.nil_append, gBreak, gCont, gDPut_, gSubD_, gSubL_, gDGet_, gDIn_, onP, onI, onK, onD, onL, onS, onN, gLM, gLM0, gSlF, gSlO, gNo, gPt, kLen, gNewK, gDs1_, Gh.rIxD, itS, itR, itL, itK, mApp, mExt, mPop, mApp1, mExt1, keyD, isLs, gFor, gWh, giL, giT, giR1, giR2, gRvF, gLrF, gLrO, kListF, kListO, gLc, gYes, gDc, wipeG, wipeG.stn, put_same, put_put, atI_last, at0, at1, at2, ix0, ix1, ix2, List.set_cons_zero, List.set_cons_succ, Option.some.injEq, Gh.O.lst.injEq, Gh.O.dic.injEq, Gh.D.ptr.injEq, exists_eq_left', exists_eq_left, exists_eq', exists_eq, true_and, and_true, Bool.false_xor, Bool.true_xor, decide_eq_true_eq, decide_eq_false_iff_not, hL]
    refine ⟨fun h => ?_, fun h => ⟨fun h2 => ?_, fun h2 => ?_⟩⟩
    · have h1 : n = 1 := by omega
      subst h1
      have := hp ks hK
      rw [put_id hL, sv_end (by decide)] at this
      exact rt_in this
    · have q1 : 1 < n := by omega
      refine ⟨n, N, q, ks, rfl, hn2, hL, hK, hN, hf, q1, hnN, fun ks1 hK1 => ?_⟩
      simp only [gSq, gNext, gRet, gRetN, gIfS, gAsg, gPar, gPar3, gDrop, gIfE, gTst, gNot, gAnd, gOr, gAndV, gOrV, gNotV, g2, gVar, gC, gNm, gTp, gTl, gGn, gGc, rN, rM, rQ, rNn, gaNil, gaCons, gTupD, gLstF, gLstO, gCall, gCallK, gCB, Gh.c1, Gh.c2, kInt, kInt2, kToInt, gNeg, lk, stt, startG, List.map, List.replicate, List.length, gAug_, dInt, List.cons_append, List.nil_append, gBreak, gCont, gDPut_, gSubD_, gSubL_, gDGet_, gDIn_, onP, onI, onK, onD, onL, onS, onN, gLM, gLM0, gSlF, gSlO, gNo, gPt, kLen, gNewK, gDs1_, Gh.rIxD, itS, itR, itL, itK, mApp, mExt, mPop, mApp1, mExt1, keyD, isLs, gFor, gWh, giL, giT, giR1, giR2, gRvF, gLrF, gLrO, kListF, kListO, gLc, gYes, gDc, wipeG, wipeG.stn, put_same, put_put, atI_last, at0, at1, at2, ix0, ix1, ix2, List.set_cons_zero, List.set_cons_succ, Option.some.injEq, Gh.O.lst.injEq, Gh.O.dic.injEq, Gh.D.ptr.injEq, exists_eq_left', exists_eq_left, exists_eq', exists_eq, true_and, and_true, Bool.false_xor, Bool.true_xor, decide_eq_true_eq, decide_eq_false_iff_not, kInts]
      intro Z hZ
      have hZq : Z ≠ q := fun e => by rw [e, put_same] at hZ; cases hZ
      have hZL : L Z = none := by rw [put_ne hZq] at hZ; exact hZ
      refine ⟨fun i acc L' => acc = ((threeD n).take i).filter (fun d => !isN d) ∧ L' = put (put L q (.dic (dk svD ks1))) Z (.lst (((threeD n).take i).filter (fun d => !isN d))), ⟨rfl, rfl⟩, ?_, ?_, ?_⟩
      · rintro i acc _ ⟨rfl, rfl⟩
        exact put_same
      · rintro i x acc _ hx ⟨rfl, rfl⟩
        have hi : i < 3 := (List.getElem?_eq_some_iff.1 hx).1
        have etk : (threeD n).take (i + 1) = (threeD n).take i ++ [x] := by rw [List.take_add_one, hx]; rfl
        have hlen : (((threeD n).take i).filter fun d => !isN d).length < sizeLine := by
          have h1 := List.length_filter_le (fun d => !isN d) ((threeD n).take i)
          rw [List.length_take] at h1
          exact line64 (by omega)
        refine ⟨fun hb => ?_, fun hb => ?_⟩
        · have ee : ((threeD n).take (i + 1)).filter (fun d => !isN d) = ((threeD n).take i).filter (fun d => !isN d) ++ [x] := by
            rw [etk, List.filter_append, List.filter_cons, if_pos hb, List.filter_nil]
          exact ⟨put_same, hlen, ee.symm, by rw [ee, put_put]⟩
        · have ee : ((threeD n).take (i + 1)).filter (fun d => !isN d) = ((threeD n).take i).filter (fun d => !isN d) := by
            rw [etk, List.filter_append, List.filter_cons, if_neg (by rw [hb]; exact Bool.false_ne_true), List.filter_nil, List.append_nil]
          exact ⟨ee.symm, by rw [ee]⟩
      · rintro acc _ ⟨rfl, rfl⟩
        have et : (threeD n).take (threeD n).length = threeD n := List.take_length
        rw [et]
        have ew : (threeD n).filter (fun d => !isN d) = nats (if 2 < n then [2 * sv ((n + 1) / 2) + sv (n / 2), 6 * sv ((n + 2) / 3), n * n] else [2 * sv ((n + 1) / 2) + sv (n / 2), n * n]) := by
          unfold threeD
          split <;> rfl
        rw [ew]
        simp only [gSq, gNext, gRet, gRetN, gIfS, gAsg, gPar, gPar3, gDrop, gIfE, gTst, gNot, gAnd, gOr, gAndV, gOrV, gNotV, g2, gVar, gC, gNm, gTp, gTl, gGn, gGc, rN, rM, rQ, rNn, gaNil, gaCons, gTupD, gLstF, gLstO, gCall, gCallK, gCB, Gh.c1, Gh.c2, kInt, kInt2, kToInt, gNeg, lk, stt, startG, List.map, List.replicate, List.length, gAug_, dInt, List.cons_append, List.nil_append, gBreak, gCont, gDPut_, gSubD_, gSubL_, gDGet_, gDIn_, onP, onI, onK, onD, onL, onS, onN, gLM, gLM0, gSlF, gSlO, gNo, gPt, kLen, gNewK, gDs1_, Gh.rIxD, itS, itR, itL, itK, mApp, mExt, mPop, mApp1, mExt1, keyD, isLs, gFor, gWh, giL, giT, giR1, giR2, gRvF, gLrF, gLrO, kListF, kListO, gLc, gYes, gDc, wipeG, wipeG.stn, put_same, put_put, atI_last, at0, at1, at2, ix0, ix1, ix2, List.set_cons_zero, List.set_cons_succ, Option.some.injEq, Gh.O.lst.injEq, Gh.O.dic.injEq, Gh.D.ptr.injEq, exists_eq_left', exists_eq_left, exists_eq', exists_eq, true_and, and_true, Bool.false_xor, Bool.true_xor, decide_eq_true_eq, decide_eq_false_iff_not, put_ne hZq.symm]
        refine ⟨(if 2 < n then [2 * sv ((n + 1) / 2) + sv (n / 2), 6 * sv ((n + 2) / 3), n * n] else [2 * sv ((n + 1) / 2) + sv (n / 2), n * n]).map fun n => ((n : Nat) : Int), by rw [List.map_map]; rfl, by split <;> simp, fun m hm hmin => ?_⟩
        obtain ⟨m', hm', rfl⟩ := List.mem_map.1 hm
        have hmin' : ∀ y ∈ (if 2 < n then [2 * sv ((n + 1) / 2) + sv (n / 2), 6 * sv ((n + 2) / 3), n * n] else [2 * sv ((n + 1) / 2) + sv (n / 2), n * n]), m' ≤ y := fun y hy => by
          have := hmin ((y : Nat) : Int) (List.mem_map.2 ⟨y, hy, rfl⟩)
          omega
        have em : m' = sv n := by
          rw [sv_more q1]
          split at hm'
          · rename_i z
            rw [if_pos z] at hmin' ⊢
            simp only [List.mem_cons, List.not_mem_nil, or_false, forall_eq_or_imp, forall_eq] at hm' hmin'
            omega
          · rename_i z
            rw [if_neg z] at hmin' ⊢
            simp only [List.mem_cons, List.not_mem_nil, or_false, forall_eq_or_imp, forall_eq] at hm' hmin'
            omega
        subst em
        have ev : D.int ((sv n : Nat) : Int) = svD n := rfl
        rw [ev, dk_put, dk_find, if_pos (mem_hasN.2 (.inr rfl))]
        refine ⟨by rw [dk_length]; exact hK1.line, ?_⟩
        show (endG post).rt (svD n) _
        rw [put_swap hZq]
        have hZ2 : (put L q (.dic (dk svD (hasN ks1 n)))) Z = none := by rw [put_ne hZq, hZL]
        exact ⟨_, Sub.put_new hZ2, hp _ (hK1.add hf)⟩
    · rw [dk_find] at h2 ⊢
      by_cases hm : n ∈ ks
      · rw [if_pos hm] at h2 ⊢
        have := hp ks hK
        rw [put_id hL] at this
        exact rt_in this
      · rw [if_neg hm] at h2
        cases h2
abbrev Got (mg : Str → Option Value) (x nm : Str) (st : Stmt) : Prop := ∃ (f : Addr) (fd : FuncData), FunD KK.K nm nm (defArgs st) (defBody st) (defScope st) [] [] f fd ∧ mg x = some (.ref f)
theorem ok__law_split (m_min : mg "min" = none) (c__law_up : Cal P w mg base 1 "_law_up" "_law_up" s__law_up ["n", "by"] fs__law_up) (i : Got mg "_law_split" "_law_split" s__law_split) (i3 : Got mg "_law_three_ways" "_law_three_ways" s__law_three_ways) :
    ∀ d, Cal P w mg base (2 * d + 2) "_law_split" "_law_split" s__law_split ["n", "known"] (fs__law_split d)
  | 0 => by
    obtain ⟨f, fd, DD, hm⟩ := i
    have no : ∀ ds L post, ¬ fs__law_split 0 ds L post := fun ds L post ⟨_, _, _, _, _, ⟨e, h, _⟩, _⟩ => by omega
    exact ⟨f, fd, DD, FnG.never no, hm⟩
  | d + 1 => (st__law_split d m_min (st__law_three_ways d (ok__law_split m_min c__law_up i i3 d) c__law_up i3) i).mono (by omega)
theorem ok__law_three_ways (m_min : mg "min" = none) (c__law_up : Cal P w mg base 1 "_law_up" "_law_up" s__law_up ["n", "by"] fs__law_up) (i : Got mg "_law_split" "_law_split" s__law_split) (i3 : Got mg "_law_three_ways" "_law_three_ways" s__law_three_ways) (d : Nat) :
    Cal P w mg base (2 * d + 3) "_law_three_ways" "_law_three_ways" s__law_three_ways ["n", "known"] (fs__law_three_ways d) := st__law_three_ways d (ok__law_split m_min c__law_up i i3 d) c__law_up i3
end
end K06

namespace K06
open PySem PySem.Spec L2 Gh
/-! short data -/
structure Sm (e : PyData) : Prop where
  g : good e = true
  d : e.depth ≤ 30
  b : e.bulk ≤ 100
theorem Sm.int {i : Int} (h : i.natAbs < 10 ^ 90) : Sm (.int i) := ⟨by unfold good; exact decide_eq_true h, by rw [PyData.depth]; omega, by rw [PyData.bulk]; omega⟩
theorem Sm.nat {i : Nat} (h : i < 10 ^ 90) : Sm (.int (i : Nat)) := Sm.int (by rw [Int.natAbs_natCast]; exact h)
theorem Sm.bool {b : Bool} : Sm (.bool b) := ⟨rfl, by rw [PyData.depth]; omega, by rw [PyData.bulk]; omega⟩
theorem Sm.none : Sm .none := ⟨rfl, by rw [PyData.depth]; omega, by rw [PyData.bulk]; omega⟩
theorem goods_all : ∀ {es : List PyData}, (∀ e ∈ es, good e = true) → good.goods es = true
  | [], _ => rfl
  | x :: xs, h => by
    unfold good.goods
    rw [h x (by simp), goods_all fun e he => h e (by simp [he])]; rfl
theorem depth_all {k : Nat} : ∀ {es : List PyData}, (∀ e ∈ es, e.depth ≤ k) → PyData.depthAll es ≤ k
  | [], _ => by rw [PyData.depthAll]; omega
  | x :: xs, h => by
    rw [PyData.depthAll]
    exact Nat.max_le.2 ⟨h x (by simp), depth_all fun e he => h e (by simp [he])⟩
theorem bulk_all {k : Nat} : ∀ {es : List PyData}, (∀ e ∈ es, e.bulk ≤ k) → PyData.bulkAll es ≤ es.length * (k + 1)
  | [], _ => by rw [PyData.bulkAll]; omega
  | x :: xs, h => by
    have h1 := h x (by simp)
    have h2 := bulk_all (k := k) (es := xs) fun e he => h e (by simp [he])
    rw [PyData.bulkAll, List.length_cons, Nat.succ_mul]
    omega
theorem fine_atom {e : PyData} (h : Sm e) : fine e := ⟨h.g, by have := h.d; omega, by have := h.b; omega⟩
theorem fine_list {es : List PyData} (h : ∀ e ∈ es, Sm e) (hl : es.length ≤ 100) : fine (.list es) := by
  refine ⟨?_, ?_, ?_⟩
  · unfold good; exact goods_all fun e he => (h e he).g
  · rw [PyData.depth]
    have := depth_all (k := 30) fun e he => (h e he).d
    omega
  · rw [PyData.bulk]
    have := bulk_all (k := 100) fun e he => (h e he).b
    have : es.length * 101 ≤ 100 * 101 := Nat.mul_le_mul_right _ hl
    omega
theorem Sm.list {es : List PyData} (h : ∀ e ∈ es, good e = true ∧ e.depth ≤ 10 ∧ e.bulk ≤ 10) (hl : es.length ≤ 5) : Sm (.list es) := by
  refine ⟨?_, ?_, ?_⟩
  · unfold good; exact goods_all fun e he => (h e he).1
  · rw [PyData.depth]
    have := depth_all (k := 10) fun e he => (h e he).2.1
    omega
  · rw [PyData.bulk]
    have := bulk_all (k := 10) fun e he => (h e he).2.2
    have : es.length * 11 ≤ 5 * 11 := Nat.mul_le_mul_right _ hl
    omega
theorem Sm.pair {x y : Nat} (hx : x < 10 ^ 90) (hy : y < 10 ^ 90) : Sm (.list [.int (x : Nat), .int (y : Nat)]) := Sm.list (fun e he => by
  simp only [List.mem_cons, List.not_mem_nil, or_false] at he
  rcases he with rfl | rfl
  · exact ⟨(Sm.nat hx).g, by rw [PyData.depth]; omega, by rw [PyData.bulk]; omega⟩
  · exact ⟨(Sm.nat hy).g, by rw [PyData.depth]; omega, by rw [PyData.bulk]; omega⟩) (by simp)
/-! how great -/
theorem szl_short {b : Nat} (hb : 2 ≤ b) : ∀ (j n : Nat), n ≤ 2 ^ j → (szl b n).length ≤ j + 1
  | 0, n, h => by
    rw [szl_end (by simpa using h)]; simp
  | j + 1, n, h => by
    rcases Nat.lt_or_ge 1 n with q | q
    · rw [szl_more hb q, List.length_cons]
      have h1 := up_half hb (n := n) (by omega)
      have h2 := up_pos (b := b) (n := n) (by omega) (by omega)
      have h3 : 2 ^ (j + 1) = 2 * 2 ^ j := Nat.pow_succ'
      have := szl_short hb j (up b n) (by omega)
      omega
    · rw [szl_end q]; simp
theorem byp_great {k b n j : Nat} (hk : 1 ≤ k) (hk2 : k ≤ 64) (hb : 2 ≤ b) (h : n ≤ 2 ^ j) : byp k b n ≤ 64 ^ j := by
  unfold byp
  have h1 := szl_short hb j n h
  exact Nat.le_trans (Nat.pow_le_pow_left hk2 _) (Nat.pow_le_pow_right (by decide) (by omega))
theorem mix_great {k b p n : Nat} (hn : 1 ≤ n) : mix k b p n ≤ n ^ p := by
  rw [mix]
  split
  · exact Nat.min_le_left _ _
  · exact Nat.one_le_pow _ _ hn
theorem mix_pos {k b p : Nat} (hk : 1 ≤ k) (n : Nat) : 1 ≤ mix k b p n := by
  induction n using Nat.strongRecOn with
  | _ n ih =>
    rw [mix]
    split
    · rename_i h
      have h1 := ih _ (up_lt h.1 h.2)
      have h2 : 1 ≤ n ^ p := Nat.one_le_pow _ _ (by omega)
      have h3 : 1 * 1 ≤ k * mix k b p (up b n) := Nat.mul_le_mul hk h1
      omega
    · exact Nat.le_refl _
theorem mix_mono {k b p n m : Nat} (hk : 1 ≤ k) (hb : 2 ≤ b) (h : n ≤ m) : mix k b p n ≤ mix k b p m := by
  induction m using Nat.strongRecOn generalizing n with
  | _ m ih =>
    rcases Nat.lt_or_ge 1 n with q | q
    · have h1 := ih (up b m) (up_lt hb (by omega)) (n := up b n) (up_mono h)
      have h2 : n ^ p ≤ m ^ p := Nat.pow_le_pow_left h _
      have h3 : k * mix k b p (up b n) ≤ k * mix k b p (up b m) := Nat.mul_le_mul_left _ h1
      rw [mix_more hb q, mix_more hb (show 1 < m by omega)]
      omega
    · rw [mix_end q]; exact mix_pos hk m
theorem byp_pos {k b n : Nat} (hk : 1 ≤ k) : 1 ≤ byp k b n := Nat.one_le_pow _ _ hk
theorem byp_mono {k b n m : Nat} (hk : 1 ≤ k) (hb : 2 ≤ b) (h : n ≤ m) : byp k b n ≤ byp k b m := by
  induction m using Nat.strongRecOn generalizing n with
  | _ m ih =>
    rcases Nat.lt_or_ge 1 n with q | q
    · have h1 := ih (up b m) (up_lt hb (by omega)) (n := up b n) (up_mono h)
      rw [byp_more hb q, byp_more hb (show 1 < m by omega)]
      exact Nat.mul_le_mul_left _ h1
    · rw [byp_end q]; exact byp_pos hk
theorem mix_le_byp {k b p n : Nat} (hb : 2 ≤ b) : mix k b p n ≤ byp k b n := by
  induction n using Nat.strongRecOn with
  | _ n ih =>
    rcases Nat.lt_or_ge 1 n with q | q
    · rw [mix_more hb q, byp_more hb q]
      exact Nat.le_trans (Nat.min_le_right _ _) (Nat.mul_le_mul_left _ (ih _ (up_lt hb q)))
    · rw [mix_end q, byp_end q]; exact Nat.le_refl _
/-! strips -/
theorem sc_even (k : Nat) : sc (2 * k) (2 * k) (2 * k) = 7 * k ^ 3 := by
  unfold sc
  have e : 2 * k / 2 = k := by omega
  rw [e, show k ^ 3 = k * k * k by rw [Nat.pow_succ, Nat.pow_two]]
  have : 2 * k * (2 * k) * (2 * k) = 8 * (k * k * k) := by
    rw [Nat.mul_mul_mul_comm 2 k 2 k, Nat.mul_mul_mul_comm (2 * 2) (k * k) 2 k]
  omega
theorem sc_comm (l m n : Nat) : sc n l m = sc l m n ∧ sc m l n = sc l m n := by
  unfold sc
  constructor
  · rw [Nat.mul_comm (n * l) m, Nat.mul_comm n l, Nat.mul_comm (n / 2 * (l / 2)) (m / 2), Nat.mul_comm (n / 2) (l / 2), ← Nat.mul_assoc, ← Nat.mul_assoc, Nat.mul_comm m l, Nat.mul_comm (m / 2) (l / 2)]
  · rw [Nat.mul_comm m l, Nat.mul_comm (m / 2) (l / 2)]
theorem bh_less {l m n : Nat} (hl : 1 ≤ l) (hm : 1 ≤ m) (hn : 1 ≤ n) : bh l m n < l * m * n ↔ (1 < m ∧ 1 < (l - 1) * (n - 1)) := by
  unfold bh
  obtain ⟨a, rfl⟩ : ∃ a, l = a + 1 := ⟨l - 1, by omega⟩
  obtain ⟨c, rfl⟩ : ∃ c, n = c + 1 := ⟨n - 1, by omega⟩
  have h1 : m / 2 ≤ m := Nat.div_le_self _ _
  generalize hh : m / 2 = h at *
  have hm2 : 1 < m ↔ 1 ≤ h := by omega
  rw [hm2]
  show (a + 1) * (c + 1) * (m - h) + h * (a + 1 + (c + 1)) < (a + 1) * m * (c + 1) ↔ 1 ≤ h ∧ 1 < a * c
  obtain ⟨r, rfl⟩ : ∃ r, m = h + r := ⟨m - h, by omega⟩
  rw [Nat.add_sub_cancel_left]
  have e1 : (a + 1) * (h + r) * (c + 1) = (a + 1) * (c + 1) * r + h * ((a + 1) * (c + 1)) := by
    rw [Nat.mul_right_comm, Nat.mul_add, Nat.add_comm, Nat.mul_comm h]
  have e2 : (a + 1) * (c + 1) = a * c + a + c + 1 := by rw [Nat.add_mul, Nat.mul_add]; omega
  rw [e1, e2]
  have e3 : h * (a * c + a + c + 1) = h * (a * c) + h * (a + c + 1) := by rw [← Nat.mul_add]; congr 1; omega
  have e4 : h * (a + 1 + (c + 1)) = h + h * (a + c + 1) := by rw [show a + 1 + (c + 1) = 1 + (a + c + 1) by omega, Nat.mul_add, Nat.mul_one]
  rw [e3, e4]
  constructor
  · intro q
    have q2 : h < h * (a * c) := by omega
    have h0 : 1 ≤ h := by
      rcases Nat.eq_zero_or_pos h with z | z
      · subst z; simp at q2
      · exact z
    refine ⟨h0, ?_⟩
    rcases Nat.lt_or_ge 1 (a * c) with z | z
    · exact z
    · exfalso
      have : h * (a * c) ≤ h * 1 := Nat.mul_le_mul_left _ z
      omega
  · rintro ⟨q1, q2⟩
    have : h * 2 ≤ h * (a * c) := Nat.mul_le_mul_left _ q2
    omega
end K06

namespace K06
open PySem PySem.Spec L2 Gh
variable [KK]
section
variable {P : Program} {w : World} {mg : Str → Option Value} {base : Heap}
theorem atI_one {α : Type} {x : α} : atI [x] (-1) = some x := atI_last [] x
theorem BagAt.not {a l : Addr} {L : Led} (h : BagAt a l L) {Z : Addr} (hZ : L Z = none) : Z ≠ a ∧ Z ≠ l := by
  obtain ⟨ns, d, m, h1, h2, h3⟩ := h.ex
  exact ⟨fun e => (by rw [e, h1] at hZ; cases hZ), fun e => (by rw [e, h2] at hZ; cases hZ)⟩
theorem BagAt.put {a l : Addr} {L : Led} (h : BagAt a l L) {Z : Addr} {o : O} (n : Z ≠ a ∧ Z ≠ l) : BagAt a l (Gh.put L Z o) := h.off (put_ne n.1.symm) (put_ne n.2.symm)
theorem BagAt.sub {a l : Addr} {L L' : Led} (h : BagAt a l L) (s : Gh.Sub L L') : BagAt a l L' := by
  obtain ⟨ns, d, m, h1, h2, h3⟩ := h.ex
  exact ⟨h.ne, ns, d, m, s _ _ h1, s _ _ h2, h3⟩
def fsLaw : FSp := fun ds L post => ∃ (a l : Addr) (b : Bool), ds = [.ptr a, .bl b] ∧ BagAt a l L ∧ ∀ L', BagAt a l L' → post (.bl true) L'
abbrev fs__law_are_strips_right : FSp := fsLaw
abbrev fs__law_are_products_right : FSp := fsLaw
abbrev fs__law_are_halves_right : FSp := fsLaw
abbrev fs__law_are_splits_right : FSp := fsLaw
theorem ints_e (xs : List Nat) : (xs.map fun n => ((n : Nat) : Int)).map PyData.int = xs.map fun (n : Nat) => PyData.int (n : Nat) := by rw [List.map_map]; rfl
theorem fine_nats {xs : List Nat} (h : ∀ x ∈ xs, x < 10 ^ 90) (hl : xs.length ≤ 100) : fine (.list ((xs.map fun n => ((n : Nat) : Int)).map .int)) := fine_list (fun e he => by
  rw [ints_e] at he
  obtain ⟨x, hx, rfl⟩ := List.mem_map.1 he
  exact Sm.nat (h x hx)) (by rw [List.length_map, List.length_map]; exact hl)
set_option maxHeartbeats 0 in
theorem ok__law_are_strips_right (m_min : mg "min" = none) (m_range : mg "range" = none) (c__law_size : Cal P w mg base 2 "_law_size" "_law_size" s__law_size ["bag", "base", "most"] fs__law_size) (c__law_pick : Cal P w mg base 2 "_law_pick" "_law_pick" s__law_pick ["bag", "some"] fs__law_pick) (c_strip_count : Cal P w mg base 1 "strip_count" "strip_count" s_strip_count ["l", "m", "n"] fs_strip_count) (c__law_same : Cal P w mg base 1 "_law_same" "_law_same" s__law_same ["told", "due"] fs__law_same) (c_products_mixed : Cal P w mg base 2 "products_mixed" "products_mixed" s_products_mixed ["many", "base", "power", "n"] fs_products_mixed) (c__law_power : Cal P w mg base 1 "_law_power" "_law_power" s__law_power ["n", "power"] fs__law_power) (c__law_mixed : Cal P w mg base 2 "_law_mixed" "_law_mixed" s__law_mixed ["many", "base", "power", "n"] fs__law_mixed) (c_by_halves_count : Cal P w mg base 1 "by_halves_count" "by_halves_count" s_by_halves_count ["r", "n", "s"] fs_by_halves_count) (c_is_cheaper : Cal P w mg base 2 "is_cheaper" "is_cheaper" s_is_cheaper ["r", "n", "s"] fs_is_cheaper) (i : ∃ (f : Addr) (fd : FuncData), FunD KK.K "_law_are_strips_right" "_law_are_strips_right" (defArgs s__law_are_strips_right) (defBody s__law_are_strips_right) (defScope s__law_are_strips_right) [] [] f fd ∧ mg "_law_are_strips_right" = some (.ref f)) : Cal P w mg base 3 "_law_are_strips_right" "_law_are_strips_right" s__law_are_strips_right ["bag", "is_named"] fs__law_are_strips_right := by
  obtain ⟨f, fd, DD, hm⟩ := i
  refine ⟨f, fd, DD, fn_G (k := 2) DD sc__law_are_strips_right ?len (fun cdv A outer s H hG hR => (s_cons (s_asg (g_lc (own := [("turn", 11)]) (fun _ => rfl) (fun _ => sc__law_are_strips_right.nd) (i_rng1 (fun _ => rfl) (fun _ => m_range) (a_cons g_int a_nil)) (fun _ => blkOk_by (own := [("turn", 11)]) (N := ["bag", "is_named", "l", "m", "n", "due", "told", "even", "h", "many", "is_less", "turn"]) (sc := defScope s__law_are_strips_right) (by decide +kernel)) (x_nm (fun _ => sc__law_are_strips_right.nd) (fun _ => rfl) (fun _ => by first | exact Or.inl rfl | exact Or.inr rfl) (fun _ => Or.inr rfl) (by decide) (i := 11)) if_nil (g_c (fun _ => rfl) (fun _ => hG) (fun _ => hR.mono (by decide)) (fun _ => c__law_size) bd__law_size (a_cons (gv 0) (a_cons g_int (a_cons (g_pow g_int g_int) a_nil))))) (t_ul (n := 3) (fun _ => rfl) (fun _ => rfl) (ts_cons (t_nm (fun _ => sc__law_are_strips_right.nd) (fun _ => rfl) (fun _ => by first | exact Or.inl rfl | exact Or.inr rfl) (i := 2)) (ts_cons (t_nm (fun _ => sc__law_are_strips_right.nd) (fun _ => rfl) (fun _ => by first | exact Or.inl rfl | exact Or.inr rfl) (i := 3)) (ts_cons (t_nm (fun _ => sc__law_are_strips_right.nd) (fun _ => rfl) (fun _ => by first | exact Or.inl rfl | exact Or.inr rfl) (i := 4)) ts_nil)))))
    (s_cons (s_set (n := 2) (fun _ => sc__law_are_strips_right.nd) (fun _ => rfl) (fun _ => by first | exact Or.inl rfl | exact Or.inr rfl) (g_c (fun _ => rfl) (fun _ => hG) (fun _ => hR.mono (by decide)) (fun _ => c__law_pick) bd__law_pick (a_cons (gv 0) (a_cons (g_lstF (a_cons (gv 2) (a_cons (gv 3) (a_cons (gv 4) a_nil)))) a_nil))))
    (s_cons (s_set (n := 5) (fun _ => sc__law_are_strips_right.nd) (fun _ => rfl) (fun _ => by first | exact Or.inl rfl | exact Or.inr rfl) (g_sub (g_mul (g_mul (gv 2) (gv 3)) (gv 4)) (g_mul (g_mul (g_div (gv 2) g_int) (g_div (gv 3) g_int)) (g_div (gv 4) g_int))))
    (s_cons (s_set (n := 6) (fun _ => sc__law_are_strips_right.nd) (fun _ => rfl) (fun _ => by first | exact Or.inl rfl | exact Or.inr rfl) (g_lstF (a_cons (g_c (fun _ => rfl) (fun _ => hG) (fun _ => hR.mono (by decide)) (fun _ => c_strip_count) bd_strip_count (a_cons (gv 2) (a_cons (gv 3) (a_cons (gv 4) a_nil)))) (a_cons (g_c (fun _ => rfl) (fun _ => hG) (fun _ => hR.mono (by decide)) (fun _ => c_strip_count) bd_strip_count (a_cons (gv 4) (a_cons (gv 2) (a_cons (gv 3) a_nil)))) (a_cons (g_c (fun _ => rfl) (fun _ => hG) (fun _ => hR.mono (by decide)) (fun _ => c_strip_count) bd_strip_count (a_cons (gv 3) (a_cons (gv 2) (a_cons (gv 4) a_nil)))) a_nil)))))
    (s_cons (s_if (b_val (gv 1)) (s_one (s_set (n := 6) (fun _ => sc__law_are_strips_right.nd) (fun _ => rfl) (fun _ => by first | exact Or.inl rfl | exact Or.inr rfl) (g_lstF (a_cons (g_ck0 (fun _ => rfl) (fun _ => hG) (fun _ => hR.mono (by decide)) (fun _ => c_strip_count) kb_strip_count_0_2_1_0 (k_cons (gv 4) (k_cons (gv 3) (k_cons (gv 2) k_nil)))) (a_cons (g_ck0 (fun _ => rfl) (fun _ => hG) (fun _ => hR.mono (by decide)) (fun _ => c_strip_count) kb_strip_count_0_2_1_0 (k_cons (gv 2) (k_cons (gv 4) (k_cons (gv 3) k_nil)))) (a_cons (g_ck0 (fun _ => rfl) (fun _ => hG) (fun _ => hR.mono (by decide)) (fun _ => c_strip_count) kb_strip_count_0_2_1_0 (k_cons (gv 3) (k_cons (gv 4) (k_cons (gv 2) k_nil)))) a_nil)))))) s_nil)
    (s_cons (s_if (b_not (b_val (g_c (fun _ => rfl) (fun _ => hG) (fun _ => hR.mono (by decide)) (fun _ => c__law_same) bd__law_same (a_cons (gv 6) (a_cons (g_repF (g_lstF (a_cons (gv 5) a_nil)) g_int) a_nil))))) (s_one (s_ret g_bl)) s_nil)
    (s_cons (s_set (n := 7) (fun _ => sc__law_are_strips_right.nd) (fun _ => rfl) (fun _ => by first | exact Or.inl rfl | exact Or.inr rfl) (g_mul g_int (f_min2 (fun _ => rfl) (fun _ => rfl) (fun _ => m_min) (a_cons g_int (a_cons (gv 2) a_nil)))))
    (s_cons (s_set (n := 6) (fun _ => sc__law_are_strips_right.nd) (fun _ => rfl) (fun _ => by first | exact Or.inl rfl | exact Or.inr rfl) (g_lstF (a_cons (g_c (fun _ => rfl) (fun _ => hG) (fun _ => hR.mono (by decide)) (fun _ => c_strip_count) bd_strip_count (a_cons (gv 7) (a_cons (gv 7) (a_cons (gv 7) a_nil)))) (a_cons (g_c (fun _ => rfl) (fun _ => hG) (fun _ => hR.mono (by decide)) (fun _ => c_products_mixed) bd_products_mixed (a_cons g_int (a_cons g_int (a_cons g_int (a_cons (gv 7) a_nil))))) a_nil))))
    (s_cons (s_set (n := 5) (fun _ => sc__law_are_strips_right.nd) (fun _ => rfl) (fun _ => by first | exact Or.inl rfl | exact Or.inr rfl) (g_lstF (a_cons (g_mul g_int (g_c (fun _ => rfl) (fun _ => hG) (fun _ => hR.mono (by decide)) (fun _ => c__law_power) bd__law_power (a_cons (g_div (gv 7) g_int) (a_cons g_int a_nil)))) (a_cons (g_c (fun _ => rfl) (fun _ => hG) (fun _ => hR.mono (by decide)) (fun _ => c__law_mixed) bd__law_mixed (a_cons g_int (a_cons g_int (a_cons g_int (a_cons (gv 7) a_nil))))) a_nil))))
    (s_cons (s_if (b_w (w_or (b_not (b_val (g_c (fun _ => rfl) (fun _ => hG) (fun _ => hR.mono (by decide)) (fun _ => c__law_same) bd__law_same (a_cons (gv 6) (a_cons (gv 5) a_nil))))) (w_or1 (b_gt (g_ix (fun _ => rfl) (gv 5) g_int (fun _ _ => rfl)) (g_ix (fun _ => rfl) (gv 5) g_int (fun _ _ => rfl)))))) (s_one (s_ret g_bl)) s_nil)
    (s_cons (s_set (n := 8) (fun _ => sc__law_are_strips_right.nd) (fun _ => rfl) (fun _ => by first | exact Or.inl rfl | exact Or.inr rfl) (g_div (gv 3) g_int))
    (s_cons (s_set (n := 6) (fun _ => sc__law_are_strips_right.nd) (fun _ => rfl) (fun _ => by first | exact Or.inl rfl | exact Or.inr rfl) (g_lstF (a_cons (g_c (fun _ => rfl) (fun _ => hG) (fun _ => hR.mono (by decide)) (fun _ => c_by_halves_count) bd_by_halves_count (a_cons (gv 2) (a_cons (gv 3) (a_cons (gv 4) a_nil)))) (a_cons (g_c (fun _ => rfl) (fun _ => hG) (fun _ => hR.mono (by decide)) (fun _ => c_is_cheaper) bd_is_cheaper (a_cons (gv 2) (a_cons (gv 3) (a_cons (gv 4) a_nil)))) a_nil))))
    (s_cons (s_if (b_val (gv 1)) (s_one (s_set (n := 6) (fun _ => sc__law_are_strips_right.nd) (fun _ => rfl) (fun _ => by first | exact Or.inl rfl | exact Or.inr rfl) (g_lstF (a_cons (g_ck0 (fun _ => rfl) (fun _ => hG) (fun _ => hR.mono (by decide)) (fun _ => c_by_halves_count) kb_by_halves_count_0_2_1_0 (k_cons (gv 4) (k_cons (gv 3) (k_cons (gv 2) k_nil)))) (a_cons (g_ck0 (fun _ => rfl) (fun _ => hG) (fun _ => hR.mono (by decide)) (fun _ => c_is_cheaper) kb_is_cheaper_0_2_1_0 (k_cons (gv 4) (k_cons (gv 3) (k_cons (gv 2) k_nil)))) a_nil))))) s_nil)
    (s_cons (s_set (n := 9) (fun _ => sc__law_are_strips_right.nd) (fun _ => rfl) (fun _ => by first | exact Or.inl rfl | exact Or.inr rfl) (g_add (g_mul (g_mul (gv 2) (gv 4)) (g_sub (gv 3) (gv 8))) (g_mul (gv 8) (g_add (gv 2) (gv 4)))))
    (s_cons (s_set (n := 10) (fun _ => sc__law_are_strips_right.nd) (fun _ => rfl) (fun _ => by first | exact Or.inl rfl | exact Or.inr rfl) (g_and (g_gt (gv 3) g_int) (g_one (g_gt (g_mul (g_sub (gv 2) g_int) (g_sub (gv 4) g_int)) g_int))))
    (s_one (s_ret (g_and (g_c (fun _ => rfl) (fun _ => hG) (fun _ => hR.mono (by decide)) (fun _ => c__law_same) bd__law_same (a_cons (gv 6) (a_cons (g_lstF (a_cons (gv 9) (a_cons (gv 10) a_nil))) a_nil))) (g_one (g_eq (gv 10) (g_lt (gv 9) (g_mul (g_mul (gv 2) (gv 3)) (gv 4)))))))))))))))))))))))) ?main, hm⟩
  case len => intro ds L post h; unfold fs__law_are_strips_right at h; repeat (first | (obtain ⟨rfl, _⟩ := h; rfl) | (obtain ⟨_, h⟩ := h))
  case main =>
    rintro ds L post ⟨a, l0, b, rfl, hB, hp⟩
    have sl : ∀ k, k ≤ 100 → k ≤ sizeLine := fun k h => by rw [sizeLine_eq]; omega
    refine seq_gen fun R1 hR1 => ?_
    have e6 : (10 : Int) ^ Int.toNat 6 = ((1000000 : Nat) : Int) := by decide
    simp only [gSq, gNext, gRet, gRetN, gIfS, gAsg, gPar, gPar3, gDrop, gIfE, gTst, gNot, gAnd, gOr, gAndV, gOrV, gNotV, g2, gVar, gC, gNm, gTp, gTl, gGn, gGc, rN, rM, rQ, rNn, gaNil, gaCons, gTupD, gLstF, gLstO, gCall, gCallK, gCB, Gh.c1, Gh.c2, kInt, kInt2, kToInt, gNeg, lk, stt, startG, List.map, List.replicate, List.length, gAug_, dInt, List.cons_append, List.nil_append, gBreak, gCont, gDPut_, gSubD_, gSubL_, gDGet_, gDIn_, onP, onI, onK, onD, onL, onS, onN, gLM, gLM0, gSlF, gSlO, gNo, gPt, kLen, gNewK, gDs1_, Gh.rIxD, itS, itR, itL, itK, mApp, mExt, mPop, mApp1, mExt1, keyD, isLs, gFor, gWh, giL, giT, giR1, giR2, gRvF, gLrF, gLrO, kListF, kListO, gLc, gYes, gDc, wipeG, wipeG.stn, put_same, put_put, atI_last, at0, at1, at2, ix0, ix1, ix2, List.set_cons_zero, List.set_cons_succ, Option.some.injEq, Gh.O.lst.injEq, Gh.O.dic.injEq, Gh.D.ptr.injEq, exists_eq_left', exists_eq_left, exists_eq', exists_eq, true_and, and_true, Bool.false_xor, Bool.true_xor, decide_eq_true_eq, decide_eq_false_iff_not, e6]
    refine ⟨⟨by decide, by decide⟩, fun Z hZ => ?_⟩
    have nZ := hB.not hZ
    refine ⟨fun t acc L' => BagAt a l0 L' ∧ L' Z = some (.lst acc) ∧ ∃ xs : List Nat, acc = nats xs ∧ xs.length = t ∧ ∀ x ∈ xs, 1 ≤ x ∧ x ≤ 1000000, ⟨hB.put nZ, put_same, [], rfl, rfl, by simp⟩, ?_, ?_, ?_⟩
    · rintro t acc L' ⟨_, h, _⟩
      exact h
    · rintro t d acc L1 hd ⟨hB1, hZ1, xs, rfl, rfl, hx⟩
      have ht : xs.length < 3 := by have := (List.getElem?_eq_some_iff.1 hd).1; rw [rngD_length] at this; exact this
      refine ⟨fun _ => ⟨⟨by decide, by decide, by decide⟩, a, l0, 2, 1000000, rfl, hB1, by decide, by decide, by decide, by decide, fun r L2 hr1 hr2 hB2 hF => ?_⟩, fun h => by cases h⟩
      have hZ2 : L2 Z = some (.lst (nats xs)) := by rw [hF Z nZ.1 nZ.2, hZ1]
      refine ⟨hZ2, by rw [nats_length]; exact line64 (by omega), hB2.put nZ, put_same, xs ++ [r], by rw [nats_app]; rfl, by simp, fun x hx2 => ?_⟩
      rw [List.mem_append, List.mem_singleton] at hx2
      rcases hx2 with h | rfl
      · exact hx x h
      · exact ⟨hr1, hr2⟩
    · rintro _ L1 ⟨hB1, hZ1, xs, rfl, hxl, hx⟩
      rw [rngD_length] at hxl
      obtain ⟨x1, m, n, rfl⟩ : ∃ x y z, xs = [x, y, z] := by
        match xs, hxl with
        | [x, y, z], _ => exact ⟨x, y, z, rfl⟩
      have hm := hx m (by simp)
      have hn := hx n (by simp)
      simp only [gSq, gNext, gRet, gRetN, gIfS, gAsg, gPar, gPar3, gDrop, gIfE, gTst, gNot, gAnd, gOr, gAndV, gOrV, gNotV, g2, gVar, gC, gNm, gTp, gTl, gGn, gGc, rN, rM, rQ, rNn, gaNil, gaCons, gTupD, gLstF, gLstO, gCall, gCallK, gCB, Gh.c1, Gh.c2, kInt, kInt2, kToInt, gNeg, lk, stt, startG, List.map, List.replicate, List.length, gAug_, dInt, List.cons_append, List.nil_append, gBreak, gCont, gDPut_, gSubD_, gSubL_, gDGet_, gDIn_, onP, onI, onK, onD, onL, onS, onN, gLM, gLM0, gSlF, gSlO, gNo, gPt, kLen, gNewK, gDs1_, Gh.rIxD, itS, itR, itL, itK, mApp, mExt, mPop, mApp1, mExt1, keyD, isLs, gFor, gWh, giL, giT, giR1, giR2, gRvF, gLrF, gLrO, kListF, kListO, gLc, gYes, gDc, wipeG, wipeG.stn, put_same, put_put, atI_last, at0, at1, at2, ix0, ix1, ix2, List.set_cons_zero, List.set_cons_succ, Option.some.injEq, Gh.O.lst.injEq, Gh.O.dic.injEq, Gh.D.ptr.injEq, exists_eq_left', exists_eq_left, exists_eq', exists_eq, true_and, and_true, Bool.false_xor, Bool.true_xor, decide_eq_true_eq, decide_eq_false_iff_not, hZ1]
      refine hR1 _ _ ?_
      refine seq_gen fun R2 hR2 => ?_
      simp only [gSq, gNext, gRet, gRetN, gIfS, gAsg, gPar, gPar3, gDrop, gIfE, gTst, gNot, gAnd, gOr, gAndV, gOrV, gNotV, g2, gVar, gC, gNm, gTp, gTl, gGn, gGc, rN, rM, rQ, rNn, gaNil, gaCons, gTupD, gLstF, gLstO, gCall, gCallK, gCB, Gh.c1, Gh.c2, kInt, kInt2, kToInt, gNeg, lk, stt, startG, List.map, List.replicate, List.length, gAug_, dInt, List.cons_append, List.nil_append, gBreak, gCont, gDPut_, gSubD_, gSubL_, gDGet_, gDIn_, onP, onI, onK, onD, onL, onS, onN, gLM, gLM0, gSlF, gSlO, gNo, gPt, kLen, gNewK, gDs1_, Gh.rIxD, itS, itR, itL, itK, mApp, mExt, mPop, mApp1, mExt1, keyD, isLs, gFor, gWh, giL, giT, giR1, giR2, gRvF, gLrF, gLrO, kListF, kListO, gLc, gYes, gDc, wipeG, wipeG.stn, put_same, put_put, atI_last, at0, at1, at2, ix0, ix1, ix2, List.set_cons_zero, List.set_cons_succ, Option.some.injEq, Gh.O.lst.injEq, Gh.O.dic.injEq, Gh.D.ptr.injEq, exists_eq_left', exists_eq_left, exists_eq', exists_eq, true_and, and_true, Bool.false_xor, Bool.true_xor, decide_eq_true_eq, decide_eq_false_iff_not]
      refine ⟨sl _ (by decide), a, l0, _, rfl, hB1, by simp, by simp, fun d L2 hd hB2 hF => ?_⟩
      obtain ⟨l, rfl, hl⟩ : ∃ l : Nat, d = .int (l : Nat) ∧ (1 ≤ l ∧ l ≤ 1000000) := by
        simp only [List.mem_cons, List.not_mem_nil, or_false] at hd
        rcases hd with rfl | rfl | rfl
        · exact ⟨_, rfl, hx _ (by simp)⟩
        · exact ⟨_, rfl, hx _ (by simp)⟩
        · exact ⟨_, rfl, hx _ (by simp)⟩
      refine hR2 _ _ ?_
      clear hR1 hR2 hd hx hxl
      refine seq_gen fun R3 hR3 => ?_
      have edue : D.int ((l : Int) * m * n - l / 2 * (m / 2) * (n / 2)) = D.int ((sc l m n : Nat)) := by rw [sc_cast]
      simp only [gSq, gNext, gRet, gRetN, gIfS, gAsg, gPar, gPar3, gDrop, gIfE, gTst, gNot, gAnd, gOr, gAndV, gOrV, gNotV, g2, gVar, gC, gNm, gTp, gTl, gGn, gGc, rN, rM, rQ, rNn, gaNil, gaCons, gTupD, gLstF, gLstO, gCall, gCallK, gCB, Gh.c1, Gh.c2, kInt, kInt2, kToInt, gNeg, lk, stt, startG, List.map, List.replicate, List.length, gAug_, dInt, List.cons_append, List.nil_append, gBreak, gCont, gDPut_, gSubD_, gSubL_, gDGet_, gDIn_, onP, onI, onK, onD, onL, onS, onN, gLM, gLM0, gSlF, gSlO, gNo, gPt, kLen, gNewK, gDs1_, Gh.rIxD, itS, itR, itL, itK, mApp, mExt, mPop, mApp1, mExt1, keyD, isLs, gFor, gWh, giL, giT, giR1, giR2, gRvF, gLrF, gLrO, kListF, kListO, gLc, gYes, gDc, wipeG, wipeG.stn, put_same, put_put, atI_last, at0, at1, at2, ix0, ix1, ix2, List.set_cons_zero, List.set_cons_succ, Option.some.injEq, Gh.O.lst.injEq, Gh.O.dic.injEq, Gh.D.ptr.injEq, exists_eq_left', exists_eq_left, exists_eq', exists_eq, true_and, and_true, Bool.false_xor, Bool.true_xor, decide_eq_true_eq, decide_eq_false_iff_not]
      rw [edue]
      refine ⟨mulL (by omega) (by omega), mulR (by omega) (by omega), divOk (by decide) (by decide), divOk (by decide) (by decide), mulL (by omega) (by omega), divOk (by decide) (by decide), mulR (by omega) (by omega), hR3 _ _ ?_⟩
      have hsc : sc l m n < 10 ^ 90 := by
        have h1 : l * m ≤ 1000000 * 1000000 := Nat.mul_le_mul hl.2 hm.2
        have h2 : l * m * n ≤ 1000000 * 1000000 * 1000000 := Nat.mul_le_mul h1 hn.2
        have : sc l m n ≤ l * m * n := Nat.sub_le _ _
        have e : (1000000 * 1000000 * 1000000 : Nat) < 10 ^ 90 := by decide
        omega
      refine seq_gen fun R4 hR4 => ?_
      obtain ⟨c1, c2⟩ := sc_comm l m n
      have hlb : l < 2 ^ 32 := by omega
      have hmb : m < 2 ^ 32 := by omega
      have hnb : n < 2 ^ 32 := by omega
      simp only [gSq, gNext, gRet, gRetN, gIfS, gAsg, gPar, gPar3, gDrop, gIfE, gTst, gNot, gAnd, gOr, gAndV, gOrV, gNotV, g2, gVar, gC, gNm, gTp, gTl, gGn, gGc, rN, rM, rQ, rNn, gaNil, gaCons, gTupD, gLstF, gLstO, gCall, gCallK, gCB, Gh.c1, Gh.c2, kInt, kInt2, kToInt, gNeg, lk, stt, startG, List.map, List.replicate, List.length, gAug_, dInt, List.cons_append, List.nil_append, gBreak, gCont, gDPut_, gSubD_, gSubL_, gDGet_, gDIn_, onP, onI, onK, onD, onL, onS, onN, gLM, gLM0, gSlF, gSlO, gNo, gPt, kLen, gNewK, gDs1_, Gh.rIxD, itS, itR, itL, itK, mApp, mExt, mPop, mApp1, mExt1, keyD, isLs, gFor, gWh, giL, giT, giR1, giR2, gRvF, gLrF, gLrO, kListF, kListO, gLc, gYes, gDc, wipeG, wipeG.stn, put_same, put_put, atI_last, at0, at1, at2, ix0, ix1, ix2, List.set_cons_zero, List.set_cons_succ, Option.some.injEq, Gh.O.lst.injEq, Gh.O.dic.injEq, Gh.D.ptr.injEq, exists_eq_left', exists_eq_left, exists_eq', exists_eq, true_and, and_true, Bool.false_xor, Bool.true_xor, decide_eq_true_eq, decide_eq_false_iff_not]
      refine ⟨l, m, n, rfl, hlb, hmb, hnb, n, l, m, rfl, hnb, hlb, hmb, m, l, n, rfl, hmb, hlb, hnb, sl _ (by decide), hR4 _ _ ?_⟩
      rw [c1, c2]
      refine seq_gen fun R5 hR5 => ?_
      have told : ∀ d6, d6 = D.lst (nats [sc l m n, sc l m n, sc l m n]) → R5 [some (.ptr a), some (.bl b), some (.int l), some (.int m), some (.int n), some (.int (sc l m n : Nat)), some d6, none, none, none, none, none] L2 := by
        rintro _ rfl
        refine hR5 _ _ ?_
        refine seq_gen fun R6 hR6 => ?_
        simp only [gSq, gNext, gRet, gRetN, gIfS, gAsg, gPar, gPar3, gDrop, gIfE, gTst, gNot, gAnd, gOr, gAndV, gOrV, gNotV, g2, gVar, gC, gNm, gTp, gTl, gGn, gGc, rN, rM, rQ, rNn, gaNil, gaCons, gTupD, gLstF, gLstO, gCall, gCallK, gCB, Gh.c1, Gh.c2, kInt, kInt2, kToInt, gNeg, lk, stt, startG, List.map, List.replicate, List.length, gAug_, dInt, List.cons_append, List.nil_append, gBreak, gCont, gDPut_, gSubD_, gSubL_, gDGet_, gDIn_, onP, onI, onK, onD, onL, onS, onN, gLM, gLM0, gSlF, gSlO, gNo, gPt, kLen, gNewK, gDs1_, Gh.rIxD, itS, itR, itL, itK, mApp, mExt, mPop, mApp1, mExt1, keyD, isLs, gFor, gWh, giL, giT, giR1, giR2, gRvF, gLrF, gLrO, kListF, kListO, gLc, gYes, gDc, wipeG, wipeG.stn, put_same, put_put, atI_last, at0, at1, at2, ix0, ix1, ix2, List.set_cons_zero, List.set_cons_succ, Option.some.injEq, Gh.O.lst.injEq, Gh.O.dic.injEq, Gh.D.ptr.injEq, exists_eq_left', exists_eq_left, exists_eq', exists_eq, true_and, and_true, Bool.false_xor, Bool.true_xor, decide_eq_true_eq, decide_eq_false_iff_not, Bool.not_true, Bool.not_false, Bool.false_eq_true, Bool.true_eq_false, false_implies, true_implies, rRepF, and_self, atI_one]
        refine ⟨sl _ (by decide), ⟨by decide, by decide, sl _ (by decide)⟩, ?_⟩
        refine ⟨_, _, _, rfl, .lst (py_ints [sc l m n, sc l m n, sc l m n]), .lst (py_ints [sc l m n, sc l m n, sc l m n]), fine_nats (by simp [hsc]) (by simp), ?_⟩
        simp only [gSq, gNext, gRet, gRetN, gIfS, gAsg, gPar, gPar3, gDrop, gIfE, gTst, gNot, gAnd, gOr, gAndV, gOrV, gNotV, g2, gVar, gC, gNm, gTp, gTl, gGn, gGc, rN, rM, rQ, rNn, gaNil, gaCons, gTupD, gLstF, gLstO, gCall, gCallK, gCB, Gh.c1, Gh.c2, kInt, kInt2, kToInt, gNeg, lk, stt, startG, List.map, List.replicate, List.length, gAug_, dInt, List.cons_append, List.nil_append, gBreak, gCont, gDPut_, gSubD_, gSubL_, gDGet_, gDIn_, onP, onI, onK, onD, onL, onS, onN, gLM, gLM0, gSlF, gSlO, gNo, gPt, kLen, gNewK, gDs1_, Gh.rIxD, itS, itR, itL, itK, mApp, mExt, mPop, mApp1, mExt1, keyD, isLs, gFor, gWh, giL, giT, giR1, giR2, gRvF, gLrF, gLrO, kListF, kListO, gLc, gYes, gDc, wipeG, wipeG.stn, put_same, put_put, atI_last, at0, at1, at2, ix0, ix1, ix2, List.set_cons_zero, List.set_cons_succ, Option.some.injEq, Gh.O.lst.injEq, Gh.O.dic.injEq, Gh.D.ptr.injEq, exists_eq_left', exists_eq_left, exists_eq', exists_eq, true_and, and_true, Bool.false_xor, Bool.true_xor, decide_eq_true_eq, decide_eq_false_iff_not, Bool.not_true, Bool.not_false, Bool.false_eq_true, Bool.true_eq_false, false_implies, true_implies, rRepF, and_self, atI_one]
        refine hR6 _ _ ?_
        refine seq_gen fun R7 hR7 => ?_
        have eev : (2 : Int) * (if (l : Int) < 500000 then (l : Int) else 500000) = ((2 * min 500000 l : Nat) : Int) := by
          split <;> omega
        simp only [gSq, gNext, gRet, gRetN, gIfS, gAsg, gPar, gPar3, gDrop, gIfE, gTst, gNot, gAnd, gOr, gAndV, gOrV, gNotV, g2, gVar, gC, gNm, gTp, gTl, gGn, gGc, rN, rM, rQ, rNn, gaNil, gaCons, gTupD, gLstF, gLstO, gCall, gCallK, gCB, Gh.c1, Gh.c2, kInt, kInt2, kToInt, gNeg, lk, stt, startG, List.map, List.replicate, List.length, gAug_, dInt, List.cons_append, List.nil_append, gBreak, gCont, gDPut_, gSubD_, gSubL_, gDGet_, gDIn_, onP, onI, onK, onD, onL, onS, onN, gLM, gLM0, gSlF, gSlO, gNo, gPt, kLen, gNewK, gDs1_, Gh.rIxD, itS, itR, itL, itK, mApp, mExt, mPop, mApp1, mExt1, keyD, isLs, gFor, gWh, giL, giT, giR1, giR2, gRvF, gLrF, gLrO, kListF, kListO, gLc, gYes, gDc, wipeG, wipeG.stn, put_same, put_put, atI_last, at0, at1, at2, ix0, ix1, ix2, List.set_cons_zero, List.set_cons_succ, Option.some.injEq, Gh.O.lst.injEq, Gh.O.dic.injEq, Gh.D.ptr.injEq, exists_eq_left', exists_eq_left, exists_eq', exists_eq, true_and, and_true, Bool.false_xor, Bool.true_xor, decide_eq_true_eq, decide_eq_false_iff_not, Bool.not_true, Bool.not_false, Bool.false_eq_true, Bool.true_eq_false, false_implies, true_implies, rRepF, and_self, atI_one]
        rw [eev]
        refine ⟨mulL (by decide) (by decide), hR7 _ _ ?_⟩
        obtain ⟨k, hk⟩ : ∃ k, k = min 500000 l := ⟨_, rfl⟩
        rw [← hk]
        have hk1 : 1 ≤ k := by omega
        have hk2 : k ≤ 500000 := by omega
        refine seq_gen fun R8 hR8 => ?_
        simp only [gSq, gNext, gRet, gRetN, gIfS, gAsg, gPar, gPar3, gDrop, gIfE, gTst, gNot, gAnd, gOr, gAndV, gOrV, gNotV, g2, gVar, gC, gNm, gTp, gTl, gGn, gGc, rN, rM, rQ, rNn, gaNil, gaCons, gTupD, gLstF, gLstO, gCall, gCallK, gCB, Gh.c1, Gh.c2, kInt, kInt2, kToInt, gNeg, lk, stt, startG, List.map, List.replicate, List.length, gAug_, dInt, List.cons_append, List.nil_append, gBreak, gCont, gDPut_, gSubD_, gSubL_, gDGet_, gDIn_, onP, onI, onK, onD, onL, onS, onN, gLM, gLM0, gSlF, gSlO, gNo, gPt, kLen, gNewK, gDs1_, Gh.rIxD, itS, itR, itL, itK, mApp, mExt, mPop, mApp1, mExt1, keyD, isLs, gFor, gWh, giL, giT, giR1, giR2, gRvF, gLrF, gLrO, kListF, kListO, gLc, gYes, gDc, wipeG, wipeG.stn, put_same, put_put, atI_last, at0, at1, at2, ix0, ix1, ix2, List.set_cons_zero, List.set_cons_succ, Option.some.injEq, Gh.O.lst.injEq, Gh.O.dic.injEq, Gh.D.ptr.injEq, exists_eq_left', exists_eq_left, exists_eq', exists_eq, true_and, and_true, Bool.false_xor, Bool.true_xor, decide_eq_true_eq, decide_eq_false_iff_not, Bool.not_true, Bool.not_false, Bool.false_eq_true, Bool.true_eq_false, false_implies, true_implies, rRepF, and_self, atI_one]
        have hkb : 2 * k < 2 ^ 32 := by omega
        refine ⟨2 * k, 2 * k, 2 * k, rfl, hkb, hkb, hkb, 7, 2, 3, 2 * k, rfl, by decide, by decide, by decide, by decide, by omega, by omega, sl _ (by decide), hR8 _ _ ?_⟩
        rw [sc_even]
        refine seq_gen fun R9 hR9 => ?_
        simp only [gSq, gNext, gRet, gRetN, gIfS, gAsg, gPar, gPar3, gDrop, gIfE, gTst, gNot, gAnd, gOr, gAndV, gOrV, gNotV, g2, gVar, gC, gNm, gTp, gTl, gGn, gGc, rN, rM, rQ, rNn, gaNil, gaCons, gTupD, gLstF, gLstO, gCall, gCallK, gCB, Gh.c1, Gh.c2, kInt, kInt2, kToInt, gNeg, lk, stt, startG, List.map, List.replicate, List.length, gAug_, dInt, List.cons_append, List.nil_append, gBreak, gCont, gDPut_, gSubD_, gSubL_, gDGet_, gDIn_, onP, onI, onK, onD, onL, onS, onN, gLM, gLM0, gSlF, gSlO, gNo, gPt, kLen, gNewK, gDs1_, Gh.rIxD, itS, itR, itL, itK, mApp, mExt, mPop, mApp1, mExt1, keyD, isLs, gFor, gWh, giL, giT, giR1, giR2, gRvF, gLrF, gLrO, kListF, kListO, gLc, gYes, gDc, wipeG, wipeG.stn, put_same, put_put, atI_last, at0, at1, at2, ix0, ix1, ix2, List.set_cons_zero, List.set_cons_succ, Option.some.injEq, Gh.O.lst.injEq, Gh.O.dic.injEq, Gh.D.ptr.injEq, exists_eq_left', exists_eq_left, exists_eq', exists_eq, true_and, and_true, Bool.false_xor, Bool.true_xor, decide_eq_true_eq, decide_eq_false_iff_not, Bool.not_true, Bool.not_false, Bool.false_eq_true, Bool.true_eq_false, false_implies, true_implies, rRepF, and_self, atI_one]
        have e7 : D.int (7 * ((k ^ 3 : Nat) : Int)) = D.int ((7 * k ^ 3 : Nat)) := by rw [Int.natCast_mul]; rfl
        have e8 : ((2 * k : Nat) : Int) / 2 = ((k : Nat) : Int) := by omega
        rw [e8]
        refine ⟨divOk (by decide) (by decide), k, 3, rfl, by omega, .inr rfl, ?_⟩
        simp only [gSq, gNext, gRet, gRetN, gIfS, gAsg, gPar, gPar3, gDrop, gIfE, gTst, gNot, gAnd, gOr, gAndV, gOrV, gNotV, g2, gVar, gC, gNm, gTp, gTl, gGn, gGc, rN, rM, rQ, rNn, gaNil, gaCons, gTupD, gLstF, gLstO, gCall, gCallK, gCB, Gh.c1, Gh.c2, kInt, kInt2, kToInt, gNeg, lk, stt, startG, List.map, List.replicate, List.length, gAug_, dInt, List.cons_append, List.nil_append, gBreak, gCont, gDPut_, gSubD_, gSubL_, gDGet_, gDIn_, onP, onI, onK, onD, onL, onS, onN, gLM, gLM0, gSlF, gSlO, gNo, gPt, kLen, gNewK, gDs1_, Gh.rIxD, itS, itR, itL, itK, mApp, mExt, mPop, mApp1, mExt1, keyD, isLs, gFor, gWh, giL, giT, giR1, giR2, gRvF, gLrF, gLrO, kListF, kListO, gLc, gYes, gDc, wipeG, wipeG.stn, put_same, put_put, atI_last, at0, at1, at2, ix0, ix1, ix2, List.set_cons_zero, List.set_cons_succ, Option.some.injEq, Gh.O.lst.injEq, Gh.O.dic.injEq, Gh.D.ptr.injEq, exists_eq_left', exists_eq_left, exists_eq', exists_eq, true_and, and_true, Bool.false_xor, Bool.true_xor, decide_eq_true_eq, decide_eq_false_iff_not, Bool.not_true, Bool.not_false, Bool.false_eq_true, Bool.true_eq_false, false_implies, true_implies, rRepF, and_self, atI_one]
        rw [e7]
        refine ⟨mulL (by decide) (by decide), 7, 2, 3, 2 * k, rfl, by decide, by decide, by decide, .inr rfl, by omega, by omega, sl _ (by decide), hR9 _ _ ?_⟩
        have hk3 : k ^ 3 ≤ 500000 ^ 3 := Nat.pow_le_pow_left hk2 3
        have hmx : mix 7 2 3 (2 * k) ≤ 7 * k ^ 3 := by
          have q : 1 < 2 * k := by omega
          rw [mix_more (by decide) q]
          have e : up 2 (2 * k) = k := by show (2 * k + 2 - 1) / 2 = k; omega
          rw [e]
          exact Nat.le_trans (Nat.min_le_right _ _) (Nat.mul_le_mul_left _ (mix_great hk1))
        have g9 : (7 * 500000 ^ 3 : Nat) < 10 ^ 90 := by decide
        have hb7 : 7 * k ^ 3 < 10 ^ 90 := by
          generalize k ^ 3 = z at *
          omega
        have hb8 : mix 7 2 3 (2 * k) < 10 ^ 90 := Nat.lt_of_le_of_lt hmx hb7
        generalize mix 7 2 3 (2 * k) = M at *
        generalize 7 * k ^ 3 = S at *
        refine seq_gen fun R10 hR10 => ?_
        simp only [gSq, gNext, gRet, gRetN, gIfS, gAsg, gPar, gPar3, gDrop, gIfE, gTst, gNot, gAnd, gOr, gAndV, gOrV, gNotV, g2, gVar, gC, gNm, gTp, gTl, gGn, gGc, rN, rM, rQ, rNn, gaNil, gaCons, gTupD, gLstF, gLstO, gCall, gCallK, gCB, Gh.c1, Gh.c2, kInt, kInt2, kToInt, gNeg, lk, stt, startG, List.map, List.replicate, List.length, gAug_, dInt, List.cons_append, List.nil_append, gBreak, gCont, gDPut_, gSubD_, gSubL_, gDGet_, gDIn_, onP, onI, onK, onD, onL, onS, onN, gLM, gLM0, gSlF, gSlO, gNo, gPt, kLen, gNewK, gDs1_, Gh.rIxD, itS, itR, itL, itK, mApp, mExt, mPop, mApp1, mExt1, keyD, isLs, gFor, gWh, giL, giT, giR1, giR2, gRvF, gLrF, gLrO, kListF, kListO, gLc, gYes, gDc, wipeG, wipeG.stn, put_same, put_put, atI_last, at0, at1, at2, ix0, ix1, ix2, List.set_cons_zero, List.set_cons_succ, Option.some.injEq, Gh.O.lst.injEq, Gh.O.dic.injEq, Gh.D.ptr.injEq, exists_eq_left', exists_eq_left, exists_eq', exists_eq, true_and, and_true, Bool.false_xor, Bool.true_xor, decide_eq_true_eq, decide_eq_false_iff_not, Bool.not_true, Bool.not_false, Bool.false_eq_true, Bool.true_eq_false, false_implies, true_implies, rRepF, and_self, atI_one]
        refine ⟨_, _, _, rfl, .lst (py_ints [S, M]), .lst (py_ints [S, M]), fine_nats (by simp [hb7, hb8]) (by simp), ?_⟩
        simp only [gSq, gNext, gRet, gRetN, gIfS, gAsg, gPar, gPar3, gDrop, gIfE, gTst, gNot, gAnd, gOr, gAndV, gOrV, gNotV, g2, gVar, gC, gNm, gTp, gTl, gGn, gGc, rN, rM, rQ, rNn, gaNil, gaCons, gTupD, gLstF, gLstO, gCall, gCallK, gCB, Gh.c1, Gh.c2, kInt, kInt2, kToInt, gNeg, lk, stt, startG, List.map, List.replicate, List.length, gAug_, dInt, List.cons_append, List.nil_append, gBreak, gCont, gDPut_, gSubD_, gSubL_, gDGet_, gDIn_, onP, onI, onK, onD, onL, onS, onN, gLM, gLM0, gSlF, gSlO, gNo, gPt, kLen, gNewK, gDs1_, Gh.rIxD, itS, itR, itL, itK, mApp, mExt, mPop, mApp1, mExt1, keyD, isLs, gFor, gWh, giL, giT, giR1, giR2, gRvF, gLrF, gLrO, kListF, kListO, gLc, gYes, gDc, wipeG, wipeG.stn, put_same, put_put, atI_last, at0, at1, at2, ix0, ix1, ix2, List.set_cons_zero, List.set_cons_succ, Option.some.injEq, Gh.O.lst.injEq, Gh.O.dic.injEq, Gh.D.ptr.injEq, exists_eq_left', exists_eq_left, exists_eq', exists_eq, true_and, and_true, Bool.false_xor, Bool.true_xor, decide_eq_true_eq, decide_eq_false_iff_not, Bool.not_true, Bool.not_false, Bool.false_eq_true, Bool.true_eq_false, false_implies, true_implies, rRepF, and_self, atI_one]
        refine ⟨fun h => absurd h (by omega), fun _ => hR10 _ _ ?_⟩
        clear eev hR10 hR9 hR8 hR7 hR6 hR5 hR4 hR3
        refine seq_gen fun R11 hR11 => ?_
        simp only [gSq, gNext, gRet, gRetN, gIfS, gAsg, gPar, gPar3, gDrop, gIfE, gTst, gNot, gAnd, gOr, gAndV, gOrV, gNotV, g2, gVar, gC, gNm, gTp, gTl, gGn, gGc, rN, rM, rQ, rNn, gaNil, gaCons, gTupD, gLstF, gLstO, gCall, gCallK, gCB, Gh.c1, Gh.c2, kInt, kInt2, kToInt, gNeg, lk, stt, startG, List.map, List.replicate, List.length, gAug_, dInt, List.cons_append, List.nil_append, gBreak, gCont, gDPut_, gSubD_, gSubL_, gDGet_, gDIn_, onP, onI, onK, onD, onL, onS, onN, gLM, gLM0, gSlF, gSlO, gNo, gPt, kLen, gNewK, gDs1_, Gh.rIxD, itS, itR, itL, itK, mApp, mExt, mPop, mApp1, mExt1, keyD, isLs, gFor, gWh, giL, giT, giR1, giR2, gRvF, gLrF, gLrO, kListF, kListO, gLc, gYes, gDc, wipeG, wipeG.stn, put_same, put_put, atI_last, at0, at1, at2, ix0, ix1, ix2, List.set_cons_zero, List.set_cons_succ, Option.some.injEq, Gh.O.lst.injEq, Gh.O.dic.injEq, Gh.D.ptr.injEq, exists_eq_left', exists_eq_left, exists_eq', exists_eq, true_and, and_true, Bool.false_xor, Bool.true_xor, decide_eq_true_eq, decide_eq_false_iff_not, Bool.not_true, Bool.not_false, Bool.false_eq_true, Bool.true_eq_false, false_implies, true_implies, rRepF, and_self, atI_one]
        refine ⟨divOk (by decide) (by decide), hR11 _ _ ?_⟩
        refine seq_gen fun R12 hR12 => ?_
        simp only [gSq, gNext, gRet, gRetN, gIfS, gAsg, gPar, gPar3, gDrop, gIfE, gTst, gNot, gAnd, gOr, gAndV, gOrV, gNotV, g2, gVar, gC, gNm, gTp, gTl, gGn, gGc, rN, rM, rQ, rNn, gaNil, gaCons, gTupD, gLstF, gLstO, gCall, gCallK, gCB, Gh.c1, Gh.c2, kInt, kInt2, kToInt, gNeg, lk, stt, startG, List.map, List.replicate, List.length, gAug_, dInt, List.cons_append, List.nil_append, gBreak, gCont, gDPut_, gSubD_, gSubL_, gDGet_, gDIn_, onP, onI, onK, onD, onL, onS, onN, gLM, gLM0, gSlF, gSlO, gNo, gPt, kLen, gNewK, gDs1_, Gh.rIxD, itS, itR, itL, itK, mApp, mExt, mPop, mApp1, mExt1, keyD, isLs, gFor, gWh, giL, giT, giR1, giR2, gRvF, gLrF, gLrO, kListF, kListO, gLc, gYes, gDc, wipeG, wipeG.stn, put_same, put_put, atI_last, at0, at1, at2, ix0, ix1, ix2, List.set_cons_zero, List.set_cons_succ, Option.some.injEq, Gh.O.lst.injEq, Gh.O.dic.injEq, Gh.D.ptr.injEq, exists_eq_left', exists_eq_left, exists_eq', exists_eq, true_and, and_true, Bool.false_xor, Bool.true_xor, decide_eq_true_eq, decide_eq_false_iff_not, Bool.not_true, Bool.not_false, Bool.false_eq_true, Bool.true_eq_false, false_implies, true_implies, rRepF, and_self, atI_one]
        refine ⟨l, m, n, rfl, hlb, hmb, hnb, l, m, n, rfl, hlb, hmb, hnb, sl _ (by decide), hR12 _ _ ?_⟩
        refine seq_gen fun R13 hR13 => ?_
        have hbh : bh l m n < 10 ^ 90 := by
          unfold bh
          have h1 : l * n ≤ 1000000 * 1000000 := Nat.mul_le_mul hl.2 hn.2
          have h2 : l * n * (m - m / 2) ≤ 1000000 * 1000000 * 1000000 := Nat.mul_le_mul h1 (by omega)
          have h3 : m / 2 * (l + n) ≤ 1000000 * 2000000 := Nat.mul_le_mul (by omega) (by omega)
          have e : (1000000 * 1000000 * 1000000 + 1000000 * 2000000 : Nat) < 10 ^ 90 := by decide
          omega
        have hless := bh_less hl.1 hm.1 hn.1
        have last : ∀ d6, d6 = D.lst [.int (bh l m n : Nat), .bl (decide (bh l m n < l * m * n))] → R13 [some (.ptr a), some (.bl b), some (.int l), some (.int m), some (.int n), some (.lst [.int (S : Nat), .int (M : Nat)]), some d6, some (.int (2 * k : Nat)), some (.int ((m : Int) / 2)), none, none, none] L2 := by
          rintro _ rfl
          refine hR13 _ _ ?_
          have e1 : (l : Int) * n * (m - m / 2) + m / 2 * (l + n) = ((bh l m n : Nat) : Int) := (bh_cast l m n).symm
          have e2 : (decide ((bh l m n : Int) < (l : Int) * m * n)) = decide (bh l m n < l * m * n) := by rw [← Int.natCast_mul, ← Int.natCast_mul, decide_eq_decide]; exact Int.ofNat_lt
          have e3 : (decide ((1 : Int) < ((l : Int) - 1) * ((n : Int) - 1))) = decide (1 < (l - 1) * (n - 1)) := by
            rw [decide_eq_decide, ← Int.natCast_one, ← Int.natCast_sub hl.1, ← Int.natCast_sub hn.1, ← Int.natCast_mul]; exact Int.ofNat_lt
          have fin2 : ∀ d : Bool, d = decide (bh l m n < l * m * n) → fine (.list [.int (bh l m n : Nat), .bool d]) := fun d _ => fine_list (fun e he => by
            simp only [List.mem_cons, List.not_mem_nil, or_false] at he
            rcases he with rfl | rfl
            · exact Sm.nat hbh
            · exact Sm.bool) (by simp)
          simp only [gSq, gNext, gRet, gRetN, gIfS, gAsg, gPar, gPar3, gDrop, gIfE, gTst, gNot, gAnd, gOr, gAndV, gOrV, gNotV, g2, gVar, gC, gNm, gTp, gTl, gGn, gGc, rN, rM, rQ, rNn, gaNil, gaCons, gTupD, gLstF, gLstO, gCall, gCallK, gCB, Gh.c1, Gh.c2, kInt, kInt2, kToInt, gNeg, lk, stt, startG, List.map, List.replicate, List.length, gAug_, dInt, List.cons_append, List.nil_append, gBreak, gCont, gDPut_, gSubD_, gSubL_, gDGet_, gDIn_, onP, onI, onK, onD, onL, onS, onN, gLM, gLM0, gSlF, gSlO, gNo, gPt, kLen, gNewK, gDs1_, Gh.rIxD, itS, itR, itL, itK, mApp, mExt, mPop, mApp1, mExt1, keyD, isLs, gFor, gWh, giL, giT, giR1, giR2, gRvF, gLrF, gLrO, kListF, kListO, gLc, gYes, gDc, wipeG, wipeG.stn, put_same, put_put, atI_last, at0, at1, at2, ix0, ix1, ix2, List.set_cons_zero, List.set_cons_succ, Option.some.injEq, Gh.O.lst.injEq, Gh.O.dic.injEq, Gh.D.ptr.injEq, exists_eq_left', exists_eq_left, exists_eq', exists_eq, true_and, and_true, Bool.false_xor, Bool.true_xor, decide_eq_true_eq, decide_eq_false_iff_not, Bool.not_true, Bool.not_false, Bool.false_eq_true, Bool.true_eq_false, false_implies, true_implies, rRepF, and_self, atI_one]
          rw [e1, e2, e3]
          refine ⟨mulL (by omega) (by omega), mulR (by omega) (by omega), mulL (by omega) (by omega), fun hm1 => ⟨mulL (by omega) (by omega), sl _ (by decide), ?_⟩, fun hm1 => ⟨sl _ (by decide), ?_⟩⟩
          · have hd : decide (1 < (l - 1) * (n - 1)) = decide (bh l m n < l * m * n) := by
              rw [decide_eq_decide, hless]
              exact ⟨fun h => ⟨by omega, h⟩, fun h => h.2⟩
            rw [hd]
            refine ⟨_, _, _, rfl, .lst (.cons (.int _) (.cons (.bl _) .nil)), .lst (.cons (.int _) (.cons (.bl _) .nil)), fin2 _ rfl, ?_⟩
            simp only [gSq, gNext, gRet, gRetN, gIfS, gAsg, gPar, gPar3, gDrop, gIfE, gTst, gNot, gAnd, gOr, gAndV, gOrV, gNotV, g2, gVar, gC, gNm, gTp, gTl, gGn, gGc, rN, rM, rQ, rNn, gaNil, gaCons, gTupD, gLstF, gLstO, gCall, gCallK, gCB, Gh.c1, Gh.c2, kInt, kInt2, kToInt, gNeg, lk, stt, startG, List.map, List.replicate, List.length, gAug_, dInt, List.cons_append, List.nil_append, gBreak, gCont, gDPut_, gSubD_, gSubL_, gDGet_, gDIn_, onP, onI, onK, onD, onL, onS, onN, gLM, gLM0, gSlF, gSlO, gNo, gPt, kLen, gNewK, gDs1_, Gh.rIxD, itS, itR, itL, itK, mApp, mExt, mPop, mApp1, mExt1, keyD, isLs, gFor, gWh, giL, giT, giR1, giR2, gRvF, gLrF, gLrO, kListF, kListO, gLc, gYes, gDc, wipeG, wipeG.stn, put_same, put_put, atI_last, at0, at1, at2, ix0, ix1, ix2, List.set_cons_zero, List.set_cons_succ, Option.some.injEq, Gh.O.lst.injEq, Gh.O.dic.injEq, Gh.D.ptr.injEq, exists_eq_left', exists_eq_left, exists_eq', exists_eq, true_and, and_true, Bool.false_xor, Bool.true_xor, decide_eq_true_eq, decide_eq_false_iff_not, Bool.not_true, Bool.not_false, Bool.false_eq_true, Bool.true_eq_false, false_implies, true_implies, rRepF, and_self, atI_one]
            refine ⟨mulL (by omega) (by omega), mulR (by omega) (by omega), ?_⟩
            exact rt_in (hp _ hB2)
          · have hd : decide (bh l m n < l * m * n) = false := by
              rw [decide_eq_false_iff_not, hless]
              exact fun h => hm1 (by omega)
            rw [hd]
            refine ⟨_, _, _, rfl, .lst (.cons (.int _) (.cons (.bl _) .nil)), .lst (.cons (.int _) (.cons (.bl _) .nil)), fin2 _ hd.symm, ?_⟩
            simp only [gSq, gNext, gRet, gRetN, gIfS, gAsg, gPar, gPar3, gDrop, gIfE, gTst, gNot, gAnd, gOr, gAndV, gOrV, gNotV, g2, gVar, gC, gNm, gTp, gTl, gGn, gGc, rN, rM, rQ, rNn, gaNil, gaCons, gTupD, gLstF, gLstO, gCall, gCallK, gCB, Gh.c1, Gh.c2, kInt, kInt2, kToInt, gNeg, lk, stt, startG, List.map, List.replicate, List.length, gAug_, dInt, List.cons_append, List.nil_append, gBreak, gCont, gDPut_, gSubD_, gSubL_, gDGet_, gDIn_, onP, onI, onK, onD, onL, onS, onN, gLM, gLM0, gSlF, gSlO, gNo, gPt, kLen, gNewK, gDs1_, Gh.rIxD, itS, itR, itL, itK, mApp, mExt, mPop, mApp1, mExt1, keyD, isLs, gFor, gWh, giL, giT, giR1, giR2, gRvF, gLrF, gLrO, kListF, kListO, gLc, gYes, gDc, wipeG, wipeG.stn, put_same, put_put, atI_last, at0, at1, at2, ix0, ix1, ix2, List.set_cons_zero, List.set_cons_succ, Option.some.injEq, Gh.O.lst.injEq, Gh.O.dic.injEq, Gh.D.ptr.injEq, exists_eq_left', exists_eq_left, exists_eq', exists_eq, true_and, and_true, Bool.false_xor, Bool.true_xor, decide_eq_true_eq, decide_eq_false_iff_not, Bool.not_true, Bool.not_false, Bool.false_eq_true, Bool.true_eq_false, false_implies, true_implies, rRepF, and_self, atI_one]
            refine ⟨mulL (by omega) (by omega), mulR (by omega) (by omega), ?_⟩
            exact rt_in (hp _ hB2)
        simp only [gSq, gNext, gRet, gRetN, gIfS, gAsg, gPar, gPar3, gDrop, gIfE, gTst, gNot, gAnd, gOr, gAndV, gOrV, gNotV, g2, gVar, gC, gNm, gTp, gTl, gGn, gGc, rN, rM, rQ, rNn, gaNil, gaCons, gTupD, gLstF, gLstO, gCall, gCallK, gCB, Gh.c1, Gh.c2, kInt, kInt2, kToInt, gNeg, lk, stt, startG, List.map, List.replicate, List.length, gAug_, dInt, List.cons_append, List.nil_append, gBreak, gCont, gDPut_, gSubD_, gSubL_, gDGet_, gDIn_, onP, onI, onK, onD, onL, onS, onN, gLM, gLM0, gSlF, gSlO, gNo, gPt, kLen, gNewK, gDs1_, Gh.rIxD, itS, itR, itL, itK, mApp, mExt, mPop, mApp1, mExt1, keyD, isLs, gFor, gWh, giL, giT, giR1, giR2, gRvF, gLrF, gLrO, kListF, kListO, gLc, gYes, gDc, wipeG, wipeG.stn, put_same, put_put, atI_last, at0, at1, at2, ix0, ix1, ix2, List.set_cons_zero, List.set_cons_succ, Option.some.injEq, Gh.O.lst.injEq, Gh.O.dic.injEq, Gh.D.ptr.injEq, exists_eq_left', exists_eq_left, exists_eq', exists_eq, true_and, and_true, Bool.false_xor, Bool.true_xor, decide_eq_true_eq, decide_eq_false_iff_not, Bool.not_true, Bool.not_false, Bool.false_eq_true, Bool.true_eq_false, false_implies, true_implies, rRepF, and_self, atI_one]
        refine ⟨fun _ => ?_, fun _ => last _ rfl⟩
        refine ⟨l, m, n, rfl, hlb, hmb, hnb, ?_⟩
        refine ⟨l, m, n, rfl, hlb, hmb, hnb, sl _ (by decide), last _ rfl⟩
      simp only [gSq, gNext, gRet, gRetN, gIfS, gAsg, gPar, gPar3, gDrop, gIfE, gTst, gNot, gAnd, gOr, gAndV, gOrV, gNotV, g2, gVar, gC, gNm, gTp, gTl, gGn, gGc, rN, rM, rQ, rNn, gaNil, gaCons, gTupD, gLstF, gLstO, gCall, gCallK, gCB, Gh.c1, Gh.c2, kInt, kInt2, kToInt, gNeg, lk, stt, startG, List.map, List.replicate, List.length, gAug_, dInt, List.cons_append, List.nil_append, gBreak, gCont, gDPut_, gSubD_, gSubL_, gDGet_, gDIn_, onP, onI, onK, onD, onL, onS, onN, gLM, gLM0, gSlF, gSlO, gNo, gPt, kLen, gNewK, gDs1_, Gh.rIxD, itS, itR, itL, itK, mApp, mExt, mPop, mApp1, mExt1, keyD, isLs, gFor, gWh, giL, giT, giR1, giR2, gRvF, gLrF, gLrO, kListF, kListO, gLc, gYes, gDc, wipeG, wipeG.stn, put_same, put_put, atI_last, at0, at1, at2, ix0, ix1, ix2, List.set_cons_zero, List.set_cons_succ, Option.some.injEq, Gh.O.lst.injEq, Gh.O.dic.injEq, Gh.D.ptr.injEq, exists_eq_left', exists_eq_left, exists_eq', exists_eq, true_and, and_true, Bool.false_xor, Bool.true_xor, decide_eq_true_eq, decide_eq_false_iff_not, Bool.not_true, Bool.not_false, Bool.false_eq_true, Bool.true_eq_false, false_implies, true_implies, rRepF, and_self, atI_one]
      refine ⟨fun _ => ?_, fun _ => told _ rfl⟩
      have c3 : sc m n l = sc l m n := by rw [(sc_comm n l m).1, c1]
      have c4 : sc l n m = sc l m n := by rw [(sc_comm n l m).2, c1]
      refine ⟨l, m, n, rfl, hlb, hmb, hnb, ?_⟩
      refine ⟨m, n, l, rfl, hmb, hnb, hlb, ?_⟩
      refine ⟨l, n, m, rfl, hlb, hnb, hmb, sl _ (by decide), ?_⟩
      rw [c3, c4]
      exact told _ rfl
end
end K06

namespace K06
open PySem PySem.Spec L2 Gh
variable [KK]
section
variable {P : Program} {w : World} {mg : Str → Option Value} {base : Heap}
theorem shaped_int (i : Int) : SeqAt.shaped (.int i) = true := by
  unfold SeqAt.shaped
  rw [PyData.canLay0, PyData.depth]; rfl
/-- rows of two numbers -/
def rowD (f g : Nat → Nat) (n i : Nat) : D := .lst (nats [f (n + i), g (n + i)])
def rowE (f g : Nat → Nat) (n i : Nat) : PyData := .list [.int (f (n + i) : Nat), .int (g (n + i) : Nat)]
def rowsD (f g : Nat → Nat) (n t : Nat) : List D := (List.range t).map (rowD f g n)
theorem rowsD_succ (f g : Nat → Nat) (n t : Nat) : rowsD f g n (t + 1) = rowsD f g n t ++ [rowD f g n t] := by unfold rowsD; rw [List.range_succ, List.map_append]; rfl
theorem rowsD_length (f g : Nat → Nat) (n t : Nat) : (rowsD f g n t).length = t := by unfold rowsD; rw [List.length_map, List.length_range]
theorem py_rows {L : Led} (f g : Nat → Nat) (n : Nat) : PyA L (rowsD f g n 2) [rowE f g n 0, rowE f g n 1] :=
  .cons (.lst (.cons (.int _) (.cons (.int _) .nil))) (.cons (.lst (.cons (.int _) (.cons (.int _) .nil))) .nil)
theorem fine_rows {f g : Nat → Nat} {n : Nat} (h : ∀ i, i < 2 → f (n + i) < 10 ^ 90 ∧ g (n + i) < 10 ^ 90) : fine (.list [rowE f g n 0, rowE f g n 1]) := fine_list (fun e he => by
  simp only [List.mem_cons, List.not_mem_nil, or_false] at he
  rcases he with rfl | rfl
  · exact Sm.pair (h 0 (by decide)).1 (h 0 (by decide)).2
  · exact Sm.pair (h 1 (by decide)).1 (h 1 (by decide)).2) (by simp)
theorem pair_get {n t : Nat} {d : D} (h : ([D.int (n : Nat), D.int ((n : Int) + 1)] : List D)[t]? = some d) : t < 2 ∧ d = .int ((n + t : Nat)) := by
  rcases t with _ | _ | t
  · cases h; exact ⟨by decide, rfl⟩
  · cases h; exact ⟨by decide, by rw [Int.natCast_add]; rfl⟩
  · cases h
theorem hv_great {n j : Nat} (h : n ≤ 2 ^ j) (hj : j ≤ 60) : hv n < 10 ^ 90 := by
  have h1 := hv_le_byp n
  have h2 : byp 3 2 n ≤ 3 ^ j := by
    unfold byp
    have := szl_short (b := 2) (by decide) j n h
    exact Nat.pow_le_pow_right (by decide) (by omega)
  have h3 : 3 ^ j ≤ 3 ^ 60 := Nat.pow_le_pow_right (by decide) hj
  have h4 : (3 : Nat) ^ 60 < 10 ^ 90 := by decide
  omega
set_option maxHeartbeats 0 in
theorem ok__law_are_halves_right (m_min : mg "min" = none) (m_range : mg "range" = none) (c__law_size : Cal P w mg base 2 "_law_size" "_law_size" s__law_size ["bag", "base", "most"] fs__law_size) (c__law_halves : Cal P w mg base 70 "_law_halves" "_law_halves" s__law_halves ["n", "known"] (fs__law_halves 61)) (c_halves_count : Cal P w mg base 1 "halves_count" "halves_count" s_halves_count ["n"] fs_halves_count) (c_products_made : Cal P w mg base 3 "products_made" "products_made" s_products_made ["n", "least"] fs_products_made) (c__law_same : Cal P w mg base 1 "_law_same" "_law_same" s__law_same ["told", "due"] fs__law_same) (c__law_draw : Cal P w mg base 1 "_law_draw" "_law_draw" s__law_draw ["bag", "below"] fs__law_draw) (c__law_by : Cal P w mg base 2 "_law_by" "_law_by" s__law_by ["many", "base", "n"] fs__law_by) (c_products_by : Cal P w mg base 2 "products_by" "products_by" s_products_by ["many", "base", "n"] fs_products_by) (i : ∃ (f : Addr) (fd : FuncData), FunD KK.K "_law_are_halves_right" "_law_are_halves_right" (defArgs s__law_are_halves_right) (defBody s__law_are_halves_right) (defScope s__law_are_halves_right) [] [] f fd ∧ mg "_law_are_halves_right" = some (.ref f)) : Cal P w mg base 71 "_law_are_halves_right" "_law_are_halves_right" s__law_are_halves_right ["bag", "is_named"] fs__law_are_halves_right := by
  obtain ⟨f, fd, DD, hm⟩ := i
  refine ⟨f, fd, DD, fn_G (k := 70) DD sc__law_are_halves_right ?len (fun cdv A outer s H hG hR => (s_cons (s_set (n := 2) (fun _ => sc__law_are_halves_right.nd) (fun _ => rfl) (fun _ => by first | exact Or.inl rfl | exact Or.inr rfl) (g_c (fun _ => rfl) (fun _ => hG) (fun _ => hR.mono (by decide)) (fun _ => c__law_size) bd__law_size (a_cons (gv 0) (a_cons g_int (a_cons (g_sub (g_pow g_int g_int) g_int) a_nil)))))
    (s_cons (s_par (n := 3) (m := 4) (fun _ => rfl) (fun _ => sc__law_are_halves_right.nd) (fun _ => rfl) (fun _ => rfl) (by decide) (fun _ => rfl) (fun _ => rfl) (a_cons (g_lstO a_nil) (a_cons (g_lstO a_nil) a_nil)))
    (s_cons (s_for (fun _ => PassesOwn.never) (fun _ => rfl) (i_tup (fun _ => rfl) (g_tup (a_cons (gv 2) (a_cons (g_add (gv 2) g_int) a_nil)))) (t_nm (fun _ => sc__law_are_halves_right.nd) (fun _ => rfl) (fun _ => by first | exact Or.inl rfl | exact Or.inr rfl) (i := 5)) (s_cons (s_expr (g_app (fun _ => rfl) (gv 4) (a_cons (g_repF (g_lstF (a_cons (g_c (fun _ => rfl) (fun _ => hG) (fun _ => hR.mono (by decide)) (fun _ => c__law_halves) bd__law_halves (a_cons (gv 5) (a_cons g_newK a_nil))) a_nil)) g_int) a_nil)))
    (s_one (s_if (b_val (gv 1)) (s_one (s_expr (g_app (fun _ => rfl) (gv 3) (a_cons (g_lstF (a_cons (g_ck0 (fun _ => rfl) (fun _ => hG) (fun _ => hR.mono (by decide)) (fun _ => c_halves_count) kb_halves_count_0_0 (k_cons (gv 5) k_nil)) (a_cons (g_ck0 (fun _ => rfl) (fun _ => hG) (fun _ => hR.mono (by decide)) (fun _ => c_products_made) kb_products_made_0_1_0 (k_cons g_int (k_cons (gv 5) k_nil))) a_nil))) a_nil)))) (s_one (s_expr (g_app (fun _ => rfl) (gv 3) (a_cons (g_lstF (a_cons (g_c (fun _ => rfl) (fun _ => hG) (fun _ => hR.mono (by decide)) (fun _ => c_halves_count) bd_halves_count (a_cons (gv 5) a_nil)) (a_cons (g_c (fun _ => rfl) (fun _ => hG) (fun _ => hR.mono (by decide)) (fun _ => c_products_made) bd_products_made (a_cons (gv 5) (a_cons g_int a_nil))) a_nil))) a_nil))))))))
    (s_cons (s_if (b_w (w_or (b_not (b_val (g_c (fun _ => rfl) (fun _ => hG) (fun _ => hR.mono (by decide)) (fun _ => c__law_same) bd__law_same (a_cons (gv 3) (a_cons (gv 4) a_nil))))) (w_or1 (b_lt (g_ix (fun _ => rfl) (g_ix (fun _ => rfl) (gv 4) g_int (fun _ _ => rfl)) g_int (fun _ _ => rfl)) (g_ix (fun _ => rfl) (g_ix (fun _ => rfl) (gv 4) g_int (fun _ _ => rfl)) g_int (fun _ _ => rfl)))))) (s_one (s_ret g_bl)) s_nil)
    (s_cons (s_par (n := 2) (m := 6) (fun _ => rfl) (fun _ => sc__law_are_halves_right.nd) (fun _ => rfl) (fun _ => rfl) (by decide) (fun _ => rfl) (fun _ => rfl) (a_cons (f_min2 (fun _ => rfl) (fun _ => rfl) (fun _ => m_min) (a_cons (gv 2) (a_cons (g_pow g_int g_int) a_nil))) (a_cons g_int a_nil)))
    (s_cons (s_for (fun _ => PassesOwn.never) (fun _ => rfl) (i_rng1 (fun _ => rfl) (fun _ => m_range) (a_cons (g_c (fun _ => rfl) (fun _ => hG) (fun _ => hR.mono (by decide)) (fun _ => c__law_draw) bd__law_draw (a_cons (gv 0) (a_cons g_int a_nil))) a_nil)) (t_nm (fun _ => sc__law_are_halves_right.nd) (fun _ => rfl) (fun _ => by first | exact Or.inl rfl | exact Or.inr rfl) (i := 7)) (s_one (s_set (n := 6) (fun _ => sc__law_are_halves_right.nd) (fun _ => rfl) (fun _ => by first | exact Or.inl rfl | exact Or.inr rfl) (g_mul g_int (gv 6)))))
    (s_cons (s_for (fun _ => PassesOwn.never) (fun _ => rfl) (i_tup (fun _ => rfl) (g_tup (a_cons (gv 2) (a_cons (gv 6) a_nil)))) (t_nm (fun _ => sc__law_are_halves_right.nd) (fun _ => rfl) (fun _ => by first | exact Or.inl rfl | exact Or.inr rfl) (i := 5)) (s_cons (s_set (n := 8) (fun _ => sc__law_are_halves_right.nd) (fun _ => rfl) (fun _ => by first | exact Or.inl rfl | exact Or.inr rfl) (g_c (fun _ => rfl) (fun _ => hG) (fun _ => hR.mono (by decide)) (fun _ => c__law_by) bd__law_by (a_cons g_int (a_cons g_int (a_cons (gv 5) a_nil)))))
    (s_cons (s_set (n := 3) (fun _ => sc__law_are_halves_right.nd) (fun _ => rfl) (fun _ => by first | exact Or.inl rfl | exact Or.inr rfl) (g_lstO (a_cons (g_c (fun _ => rfl) (fun _ => hG) (fun _ => hR.mono (by decide)) (fun _ => c_products_by) bd_products_by (a_cons g_int (a_cons g_int (a_cons (gv 5) a_nil)))) (a_cons (g_c (fun _ => rfl) (fun _ => hG) (fun _ => hR.mono (by decide)) (fun _ => c_halves_count) bd_halves_count (a_cons (gv 5) a_nil)) a_nil))))
    (s_one (s_if (b_w (w_or (b_not (b_val (g_c (fun _ => rfl) (fun _ => hG) (fun _ => hR.mono (by decide)) (fun _ => c__law_same) bd__law_same (a_cons (gv 3) (a_cons (g_lstF (a_cons (gv 8) (a_cons (g_c (fun _ => rfl) (fun _ => hG) (fun _ => hR.mono (by decide)) (fun _ => c__law_halves) bd__law_halves (a_cons (gv 5) (a_cons g_newK a_nil))) a_nil))) a_nil))))) (w_or (b_gt (g_ix (fun _ => rfl) (gv 3) g_int (fun _ _ => rfl)) (gv 8)) (w_or1 (b_w (w_and (b_eq (gv 5) (gv 6)) (w_and1 (b_neD (fun _ => rfl) (fun _ => hR.units) (g_ix (fun _ => rfl) (gv 3) g_int (fun _ _ => rfl)) (gv 8))))))))) (s_one (s_ret g_bl)) s_nil)))))
    (s_one (s_ret g_bl)))))))))) ?main, hm⟩
  case len => intro ds L post h; unfold fs__law_are_halves_right at h; repeat (first | (obtain ⟨rfl, _⟩ := h; rfl) | (obtain ⟨_, h⟩ := h))
  case main =>
    rintro ds L post ⟨a, l0, b, rfl, hB, hp⟩
    have sl : ∀ k, k ≤ 100 → k ≤ sizeLine := fun k h => by rw [sizeLine_eq]; omega
    have e18 : (10 : Int) ^ Int.toNat 18 - 1 = ((999999999999999999 : Nat) : Int) := by decide
    refine seq_gen fun R1 hR1 => ?_
    simp only [gSq, gNext, gRet, gRetN, gIfS, gAsg, gPar, gPar3, gDrop, gIfE, gTst, gNot, gAnd, gOr, gAndV, gOrV, gNotV, g2, gVar, gC, gNm, gTp, gTl, gGn, gGc, rN, rM, rQ, rNn, gaNil, gaCons, gTupD, gLstF, gLstO, gCall, gCallK, gCB, Gh.c1, Gh.c2, kInt, kInt2, kToInt, gNeg, lk, stt, startG, List.map, List.replicate, List.length, gAug_, dInt, List.cons_append, List.nil_append, gBreak, gCont, gDPut_, gSubD_, gSubL_, gDGet_, gDIn_, onP, onI, onK, onD, onL, onS, onN, gLM, gLM0, gSlF, gSlO, gNo, gPt, kLen, gNewK, gDs1_, Gh.rIxD, itS, itR, itL, itK, mApp, mExt, mPop, mApp1, mExt1, keyD, isLs, gFor, gWh, giL, giT, giR1, giR2, gRvF, gLrF, gLrO, kListF, kListO, gLc, gYes, gDc, wipeG, wipeG.stn, put_same, put_put, atI_last, at0, at1, at2, ix0, ix1, ix2, List.set_cons_zero, List.set_cons_succ, Option.some.injEq, Gh.O.lst.injEq, Gh.O.dic.injEq, Gh.D.ptr.injEq, exists_eq_left', exists_eq_left, exists_eq', exists_eq, true_and, and_true, Bool.false_xor, Bool.true_xor, decide_eq_true_eq, decide_eq_false_iff_not, Bool.not_true, Bool.not_false, Bool.false_eq_true, Bool.true_eq_false, false_implies, true_implies, rRepF, and_self, atI_one, e18]
    refine ⟨⟨by decide, by decide, by decide⟩, a, l0, 2, 999999999999999999, rfl, hB, by decide, by decide, by decide, by decide, fun n L1 hn1 hn2 hB1 _ => hR1 _ _ ?_⟩
    refine seq_gen fun R2 hR2 => ?_
    simp only [gSq, gNext, gRet, gRetN, gIfS, gAsg, gPar, gPar3, gDrop, gIfE, gTst, gNot, gAnd, gOr, gAndV, gOrV, gNotV, g2, gVar, gC, gNm, gTp, gTl, gGn, gGc, rN, rM, rQ, rNn, gaNil, gaCons, gTupD, gLstF, gLstO, gCall, gCallK, gCB, Gh.c1, Gh.c2, kInt, kInt2, kToInt, gNeg, lk, stt, startG, List.map, List.replicate, List.length, gAug_, dInt, List.cons_append, List.nil_append, gBreak, gCont, gDPut_, gSubD_, gSubL_, gDGet_, gDIn_, onP, onI, onK, onD, onL, onS, onN, gLM, gLM0, gSlF, gSlO, gNo, gPt, kLen, gNewK, gDs1_, Gh.rIxD, itS, itR, itL, itK, mApp, mExt, mPop, mApp1, mExt1, keyD, isLs, gFor, gWh, giL, giT, giR1, giR2, gRvF, gLrF, gLrO, kListF, kListO, gLc, gYes, gDc, wipeG, wipeG.stn, put_same, put_put, atI_last, at0, at1, at2, ix0, ix1, ix2, List.set_cons_zero, List.set_cons_succ, Option.some.injEq, Gh.O.lst.injEq, Gh.O.dic.injEq, Gh.D.ptr.injEq, exists_eq_left', exists_eq_left, exists_eq', exists_eq, true_and, and_true, Bool.false_xor, Bool.true_xor, decide_eq_true_eq, decide_eq_false_iff_not, Bool.not_true, Bool.not_false, Bool.false_eq_true, Bool.true_eq_false, false_implies, true_implies, rRepF, and_self, atI_one]
    refine ⟨Nat.zero_le _, fun p hp0 => ⟨Nat.zero_le _, fun q hq0 => hR2 _ _ ?_⟩⟩
    have hpq := new_ne hq0
    have np := hB1.not hp0
    have nq := hB1.not (new_old hq0)
    have hB2 : BagAt a l0 (put (put L1 p (.lst [])) q (.lst [])) := (hB1.put np).put nq
    have hP2 : (put (put L1 p (.lst [])) q (.lst [])) p = some (.lst []) := by rw [put_ne hpq, put_same]
    have hQ2 : (put (put L1 p (.lst [])) q (.lst [])) q = some (.lst []) := put_same
    generalize put (put L1 p (.lst [])) q (.lst []) = L2 at *
    refine seq_gen fun R3 hR3 => ?_
    have bnd : ∀ i, i < 2 → hv (n + i) < 10 ^ 90 := fun i hi => hv_great (j := 60) (by omega) (by decide)
    simp only [gSq, gNext, gRet, gRetN, gIfS, gAsg, gPar, gPar3, gDrop, gIfE, gTst, gNot, gAnd, gOr, gAndV, gOrV, gNotV, g2, gVar, gC, gNm, gTp, gTl, gGn, gGc, rN, rM, rQ, rNn, gaNil, gaCons, gTupD, gLstF, gLstO, gCall, gCallK, gCB, Gh.c1, Gh.c2, kInt, kInt2, kToInt, gNeg, lk, stt, startG, List.map, List.replicate, List.length, gAug_, dInt, List.cons_append, List.nil_append, gBreak, gCont, gDPut_, gSubD_, gSubL_, gDGet_, gDIn_, onP, onI, onK, onD, onL, onS, onN, gLM, gLM0, gSlF, gSlO, gNo, gPt, kLen, gNewK, gDs1_, Gh.rIxD, itS, itR, itL, itK, mApp, mExt, mPop, mApp1, mExt1, keyD, isLs, gFor, gWh, giL, giT, giR1, giR2, gRvF, gLrF, gLrO, kListF, kListO, gLc, gYes, gDc, wipeG, wipeG.stn, put_same, put_put, atI_last, at0, at1, at2, ix0, ix1, ix2, List.set_cons_zero, List.set_cons_succ, Option.some.injEq, Gh.O.lst.injEq, Gh.O.dic.injEq, Gh.D.ptr.injEq, exists_eq_left', exists_eq_left, exists_eq', exists_eq, true_and, and_true, Bool.false_xor, Bool.true_xor, decide_eq_true_eq, decide_eq_false_iff_not, Bool.not_true, Bool.not_false, Bool.false_eq_true, Bool.true_eq_false, false_implies, true_implies, rRepF, and_self, atI_one]
    refine ⟨sl _ (by decide), fun t Γ' L' => BagAt a l0 L' ∧ L' p = some (.lst (rowsD hv hv n t)) ∧ L' q = some (.lst (rowsD hv hv n t)) ∧ ∃ o, Γ' = [some (.ptr a), some (.bl b), some (.int n), some (.ptr p), some (.ptr q), o, none, none, none], ⟨hB2, hP2, hQ2, _, rfl⟩, fun _ _ _ _ => trivial, ?_, ?_⟩
    · rintro t d _ L3 hd ⟨hB3, hP3, hQ3, o, rfl⟩
      obtain ⟨ht, rfl⟩ := pair_get hd
      have hm1 : 1 ≤ n + t := by omega
      have hm2 : n + t < 2 ^ 61 := by omega
      have hrl : (rowsD hv hv n t).length < sizeLine := by rw [rowsD_length]; exact line64 (by omega)
      simp only [gSq, gNext, gRet, gRetN, gIfS, gAsg, gPar, gPar3, gDrop, gIfE, gTst, gNot, gAnd, gOr, gAndV, gOrV, gNotV, g2, gVar, gC, gNm, gTp, gTl, gGn, gGc, rN, rM, rQ, rNn, gaNil, gaCons, gTupD, gLstF, gLstO, gCall, gCallK, gCB, Gh.c1, Gh.c2, kInt, kInt2, kToInt, gNeg, lk, stt, startG, List.map, List.replicate, List.length, gAug_, dInt, List.cons_append, List.nil_append, gBreak, gCont, gDPut_, gSubD_, gSubL_, gDGet_, gDIn_, onP, onI, onK, onD, onL, onS, onN, gLM, gLM0, gSlF, gSlO, gNo, gPt, kLen, gNewK, gDs1_, Gh.rIxD, itS, itR, itL, itK, mApp, mExt, mPop, mApp1, mExt1, keyD, isLs, gFor, gWh, giL, giT, giR1, giR2, gRvF, gLrF, gLrO, kListF, kListO, gLc, gYes, gDc, wipeG, wipeG.stn, put_same, put_put, atI_last, at0, at1, at2, ix0, ix1, ix2, List.set_cons_zero, List.set_cons_succ, Option.some.injEq, Gh.O.lst.injEq, Gh.O.dic.injEq, Gh.D.ptr.injEq, exists_eq_left', exists_eq_left, exists_eq', exists_eq, true_and, and_true, Bool.false_xor, Bool.true_xor, decide_eq_true_eq, decide_eq_false_iff_not, Bool.not_true, Bool.not_false, Bool.false_eq_true, Bool.true_eq_false, false_implies, true_implies, rRepF, and_self, atI_one, hQ3]
      refine fun z hz => ⟨n + t, n + t, z, [], rfl, ⟨60, rfl, by omega⟩, put_same, Keys.nil, hm2, fam_top (e := 0) (by decide), hm1, fun ks' _ => ?_⟩
      have nz := hB3.not hz
      have hzp : z ≠ p := fun e => by rw [e, hP3] at hz; cases hz
      have hzq : z ≠ q := fun e => by rw [e, hQ3] at hz; cases hz
      simp only [gSq, gNext, gRet, gRetN, gIfS, gAsg, gPar, gPar3, gDrop, gIfE, gTst, gNot, gAnd, gOr, gAndV, gOrV, gNotV, g2, gVar, gC, gNm, gTp, gTl, gGn, gGc, rN, rM, rQ, rNn, gaNil, gaCons, gTupD, gLstF, gLstO, gCall, gCallK, gCB, Gh.c1, Gh.c2, kInt, kInt2, kToInt, gNeg, lk, stt, startG, List.map, List.replicate, List.length, gAug_, dInt, List.cons_append, List.nil_append, gBreak, gCont, gDPut_, gSubD_, gSubL_, gDGet_, gDIn_, onP, onI, onK, onD, onL, onS, onN, gLM, gLM0, gSlF, gSlO, gNo, gPt, kLen, gNewK, gDs1_, Gh.rIxD, itS, itR, itL, itK, mApp, mExt, mPop, mApp1, mExt1, keyD, isLs, gFor, gWh, giL, giT, giR1, giR2, gRvF, gLrF, gLrO, kListF, kListO, gLc, gYes, gDc, wipeG, wipeG.stn, put_same, put_put, atI_last, at0, at1, at2, ix0, ix1, ix2, List.set_cons_zero, List.set_cons_succ, Option.some.injEq, Gh.O.lst.injEq, Gh.O.dic.injEq, Gh.D.ptr.injEq, exists_eq_left', exists_eq_left, exists_eq', exists_eq, true_and, and_true, Bool.false_xor, Bool.true_xor, decide_eq_true_eq, decide_eq_false_iff_not, Bool.not_true, Bool.not_false, Bool.false_eq_true, Bool.true_eq_false, false_implies, true_implies, rRepF, and_self, atI_one, put_ne hzq.symm, put_ne hzp.symm, put_ne hpq, hQ3, hP3]
      have er : repD 2 [D.int (hv (n + t) : Nat)] = nats [hv (n + t), hv (n + t)] := rfl
      rw [er]
      have row : rowsD hv hv n t ++ [D.lst (nats [hv (n + t), hv (n + t)])] = rowsD hv hv n (t + 1) := (rowsD_succ _ _ _ _).symm
      rw [row]
      have fP : (put (put L3 z (.dic (dk hD ks'))) q (.lst (rowsD hv hv n (t + 1)))) p = some (.lst (rowsD hv hv n t)) := by rw [put_ne hpq, put_ne hzp.symm, hP3]
      have fQ : (put (put L3 z (.dic (dk hD ks'))) q (.lst (rowsD hv hv n (t + 1)))) q = some (.lst (rowsD hv hv n (t + 1))) := put_same
      have fB : BagAt a l0 (put (put L3 z (.dic (dk hD ks'))) q (.lst (rowsD hv hv n (t + 1)))) := (hB3.put nz).put nq
      generalize put (put L3 z (.dic (dk hD ks'))) q (.lst (rowsD hv hv n (t + 1))) = L4 at *
      refine ⟨sl _ (by decide), ⟨by decide, by decide, sl _ (by decide)⟩, hrl, fun _ => ?_, fun _ => ?_⟩
      all_goals
        refine ⟨n + t, rfl, hm1, hm2, ?_⟩
        refine ⟨n + t, rfl, hm1, hm2, sl _ (by decide), _, fP, hrl, fB.put np, ?_, ?_, _, rfl⟩
        · exact row
        · rw [put_ne hpq.symm, fQ]
    · rintro _ L3 ⟨hB3, hP3, hQ3, o, rfl⟩
      refine hR3 _ _ ?_
      refine seq_gen fun R4 hR4 => ?_
      have hP3 : L3 p = some (.lst (rowsD hv hv n 2)) := hP3
      have hQ3 : L3 q = some (.lst (rowsD hv hv n 2)) := hQ3
      have er : rowsD hv hv n 2 = [.lst [.int (hv n : Nat), .int (hv n : Nat)], .lst [.int (hv (n + 1) : Nat), .int (hv (n + 1) : Nat)]] := rfl
      simp only [gSq, gNext, gRet, gRetN, gIfS, gAsg, gPar, gPar3, gDrop, gIfE, gTst, gNot, gAnd, gOr, gAndV, gOrV, gNotV, g2, gVar, gC, gNm, gTp, gTl, gGn, gGc, rN, rM, rQ, rNn, gaNil, gaCons, gTupD, gLstF, gLstO, gCall, gCallK, gCB, Gh.c1, Gh.c2, kInt, kInt2, kToInt, gNeg, lk, stt, startG, List.map, List.replicate, List.length, gAug_, dInt, List.cons_append, List.nil_append, gBreak, gCont, gDPut_, gSubD_, gSubL_, gDGet_, gDIn_, onP, onI, onK, onD, onL, onS, onN, gLM, gLM0, gSlF, gSlO, gNo, gPt, kLen, gNewK, gDs1_, Gh.rIxD, itS, itR, itL, itK, mApp, mExt, mPop, mApp1, mExt1, keyD, isLs, gFor, gWh, giL, giT, giR1, giR2, gRvF, gLrF, gLrO, kListF, kListO, gLc, gYes, gDc, wipeG, wipeG.stn, put_same, put_put, atI_last, at0, at1, at2, ix0, ix1, ix2, List.set_cons_zero, List.set_cons_succ, Option.some.injEq, Gh.O.lst.injEq, Gh.O.dic.injEq, Gh.D.ptr.injEq, exists_eq_left', exists_eq_left, exists_eq', exists_eq, true_and, and_true, Bool.false_xor, Bool.true_xor, decide_eq_true_eq, decide_eq_false_iff_not, Bool.not_true, Bool.not_false, Bool.false_eq_true, Bool.true_eq_false, false_implies, true_implies, rRepF, and_self, atI_one, hQ3, er]
      refine ⟨_, _, _, rfl, .ptr hP3 (py_rows hv hv n), .ptr hQ3 (py_rows hv hv n), fine_rows fun i hi => ⟨bnd i hi, bnd i hi⟩, ?_⟩
      have hmo : hv n ≤ hv (n + 1) := hv_mono (by omega)
      simp only [gSq, gNext, gRet, gRetN, gIfS, gAsg, gPar, gPar3, gDrop, gIfE, gTst, gNot, gAnd, gOr, gAndV, gOrV, gNotV, g2, gVar, gC, gNm, gTp, gTl, gGn, gGc, rN, rM, rQ, rNn, gaNil, gaCons, gTupD, gLstF, gLstO, gCall, gCallK, gCB, Gh.c1, Gh.c2, kInt, kInt2, kToInt, gNeg, lk, stt, startG, List.map, List.replicate, List.length, gAug_, dInt, List.cons_append, List.nil_append, gBreak, gCont, gDPut_, gSubD_, gSubL_, gDGet_, gDIn_, onP, onI, onK, onD, onL, onS, onN, gLM, gLM0, gSlF, gSlO, gNo, gPt, kLen, gNewK, gDs1_, Gh.rIxD, itS, itR, itL, itK, mApp, mExt, mPop, mApp1, mExt1, keyD, isLs, gFor, gWh, giL, giT, giR1, giR2, gRvF, gLrF, gLrO, kListF, kListO, gLc, gYes, gDc, wipeG, wipeG.stn, put_same, put_put, atI_last, at0, at1, at2, ix0, ix1, ix2, List.set_cons_zero, List.set_cons_succ, Option.some.injEq, Gh.O.lst.injEq, Gh.O.dic.injEq, Gh.D.ptr.injEq, exists_eq_left', exists_eq_left, exists_eq', exists_eq, true_and, and_true, Bool.false_xor, Bool.true_xor, decide_eq_true_eq, decide_eq_false_iff_not, Bool.not_true, Bool.not_false, Bool.false_eq_true, Bool.true_eq_false, false_implies, true_implies, rRepF, and_self, atI_one, hQ3, er]
      refine ⟨fun h => absurd h (by omega), fun _ => hR4 _ _ ?_⟩
      refine seq_gen fun R5 hR5 => ?_
      have e12 : (if (10 : Int) ^ Int.toNat 12 < (n : Int) then (10 : Int) ^ Int.toNat 12 else (n : Int)) = ((min n 1000000000000 : Nat) : Int) := by
        have : (10 : Int) ^ Int.toNat 12 = 1000000000000 := by decide
        rw [this]
        split <;> omega
      simp only [gSq, gNext, gRet, gRetN, gIfS, gAsg, gPar, gPar3, gDrop, gIfE, gTst, gNot, gAnd, gOr, gAndV, gOrV, gNotV, g2, gVar, gC, gNm, gTp, gTl, gGn, gGc, rN, rM, rQ, rNn, gaNil, gaCons, gTupD, gLstF, gLstO, gCall, gCallK, gCB, Gh.c1, Gh.c2, kInt, kInt2, kToInt, gNeg, lk, stt, startG, List.map, List.replicate, List.length, gAug_, dInt, List.cons_append, List.nil_append, gBreak, gCont, gDPut_, gSubD_, gSubL_, gDGet_, gDIn_, onP, onI, onK, onD, onL, onS, onN, gLM, gLM0, gSlF, gSlO, gNo, gPt, kLen, gNewK, gDs1_, Gh.rIxD, itS, itR, itL, itK, mApp, mExt, mPop, mApp1, mExt1, keyD, isLs, gFor, gWh, giL, giT, giR1, giR2, gRvF, gLrF, gLrO, kListF, kListO, gLc, gYes, gDc, wipeG, wipeG.stn, put_same, put_put, atI_last, at0, at1, at2, ix0, ix1, ix2, List.set_cons_zero, List.set_cons_succ, Option.some.injEq, Gh.O.lst.injEq, Gh.O.dic.injEq, Gh.D.ptr.injEq, exists_eq_left', exists_eq_left, exists_eq', exists_eq, true_and, and_true, Bool.false_xor, Bool.true_xor, decide_eq_true_eq, decide_eq_false_iff_not, Bool.not_true, Bool.not_false, Bool.false_eq_true, Bool.true_eq_false, false_implies, true_implies, rRepF, and_self, atI_one]
      rw [e12]
      refine ⟨⟨by decide, by decide, by decide⟩, hR5 _ _ ?_⟩
      obtain ⟨n', hn'⟩ : ∃ n', n' = min n 1000000000000 := ⟨_, rfl⟩
      rw [← hn']
      have hn1' : 1 ≤ n' := by omega
      have hn2' : n' ≤ 2 ^ 40 := by omega
      refine seq_gen fun R6 hR6 => ?_
      simp only [gSq, gNext, gRet, gRetN, gIfS, gAsg, gPar, gPar3, gDrop, gIfE, gTst, gNot, gAnd, gOr, gAndV, gOrV, gNotV, g2, gVar, gC, gNm, gTp, gTl, gGn, gGc, rN, rM, rQ, rNn, gaNil, gaCons, gTupD, gLstF, gLstO, gCall, gCallK, gCB, Gh.c1, Gh.c2, kInt, kInt2, kToInt, gNeg, lk, stt, startG, List.map, List.replicate, List.length, gAug_, dInt, List.cons_append, List.nil_append, gBreak, gCont, gDPut_, gSubD_, gSubL_, gDGet_, gDIn_, onP, onI, onK, onD, onL, onS, onN, gLM, gLM0, gSlF, gSlO, gNo, gPt, kLen, gNewK, gDs1_, Gh.rIxD, itS, itR, itL, itK, mApp, mExt, mPop, mApp1, mExt1, keyD, isLs, gFor, gWh, giL, giT, giR1, giR2, gRvF, gLrF, gLrO, kListF, kListO, gLc, gYes, gDc, wipeG, wipeG.stn, put_same, put_put, atI_last, at0, at1, at2, ix0, ix1, ix2, List.set_cons_zero, List.set_cons_succ, Option.some.injEq, Gh.O.lst.injEq, Gh.O.dic.injEq, Gh.D.ptr.injEq, exists_eq_left', exists_eq_left, exists_eq', exists_eq, true_and, and_true, Bool.false_xor, Bool.true_xor, decide_eq_true_eq, decide_eq_false_iff_not, Bool.not_true, Bool.not_false, Bool.false_eq_true, Bool.true_eq_false, false_implies, true_implies, rRepF, and_self, atI_one]
      refine ⟨a, l0, 40, rfl, hB3, by decide, by decide, fun r L4 hr hB4 _ => ?_⟩
      simp only [gSq, gNext, gRet, gRetN, gIfS, gAsg, gPar, gPar3, gDrop, gIfE, gTst, gNot, gAnd, gOr, gAndV, gOrV, gNotV, g2, gVar, gC, gNm, gTp, gTl, gGn, gGc, rN, rM, rQ, rNn, gaNil, gaCons, gTupD, gLstF, gLstO, gCall, gCallK, gCB, Gh.c1, Gh.c2, kInt, kInt2, kToInt, gNeg, lk, stt, startG, List.map, List.replicate, List.length, gAug_, dInt, List.cons_append, List.nil_append, gBreak, gCont, gDPut_, gSubD_, gSubL_, gDGet_, gDIn_, onP, onI, onK, onD, onL, onS, onN, gLM, gLM0, gSlF, gSlO, gNo, gPt, kLen, gNewK, gDs1_, Gh.rIxD, itS, itR, itL, itK, mApp, mExt, mPop, mApp1, mExt1, keyD, isLs, gFor, gWh, giL, giT, giR1, giR2, gRvF, gLrF, gLrO, kListF, kListO, gLc, gYes, gDc, wipeG, wipeG.stn, put_same, put_put, atI_last, at0, at1, at2, ix0, ix1, ix2, List.set_cons_zero, List.set_cons_succ, Option.some.injEq, Gh.O.lst.injEq, Gh.O.dic.injEq, Gh.D.ptr.injEq, exists_eq_left', exists_eq_left, exists_eq', exists_eq, true_and, and_true, Bool.false_xor, Bool.true_xor, decide_eq_true_eq, decide_eq_false_iff_not, Bool.not_true, Bool.not_false, Bool.false_eq_true, Bool.true_eq_false, false_implies, true_implies, rRepF, and_self, atI_one]
      refine ⟨⟨by omega, by omega⟩, fun i Γ' L' => L' = L4 ∧ ∃ o7, Γ' = [some (.ptr a), some (.bl b), some (.int n'), some (.ptr p), some (.ptr q), o, some (.int ((2 ^ i : Nat))), o7, none], ⟨rfl, none, rfl⟩, fun _ _ _ _ => trivial, ?_, ?_⟩
      · rintro i d _ _ hd ⟨rfl, o7, rfl⟩
        simp only [gSq, gNext, gRet, gRetN, gIfS, gAsg, gPar, gPar3, gDrop, gIfE, gTst, gNot, gAnd, gOr, gAndV, gOrV, gNotV, g2, gVar, gC, gNm, gTp, gTl, gGn, gGc, rN, rM, rQ, rNn, gaNil, gaCons, gTupD, gLstF, gLstO, gCall, gCallK, gCB, Gh.c1, Gh.c2, kInt, kInt2, kToInt, gNeg, lk, stt, startG, List.map, List.replicate, List.length, gAug_, dInt, List.cons_append, List.nil_append, gBreak, gCont, gDPut_, gSubD_, gSubL_, gDGet_, gDIn_, onP, onI, onK, onD, onL, onS, onN, gLM, gLM0, gSlF, gSlO, gNo, gPt, kLen, gNewK, gDs1_, Gh.rIxD, itS, itR, itL, itK, mApp, mExt, mPop, mApp1, mExt1, keyD, isLs, gFor, gWh, giL, giT, giR1, giR2, gRvF, gLrF, gLrO, kListF, kListO, gLc, gYes, gDc, wipeG, wipeG.stn, put_same, put_put, atI_last, at0, at1, at2, ix0, ix1, ix2, List.set_cons_zero, List.set_cons_succ, Option.some.injEq, Gh.O.lst.injEq, Gh.O.dic.injEq, Gh.D.ptr.injEq, exists_eq_left', exists_eq_left, exists_eq', exists_eq, true_and, and_true, Bool.false_xor, Bool.true_xor, decide_eq_true_eq, decide_eq_false_iff_not, Bool.not_true, Bool.not_false, Bool.false_eq_true, Bool.true_eq_false, false_implies, true_implies, rRepF, and_self, atI_one]
        refine ⟨mulL (by decide) (by decide), some d, ?_⟩
        rw [Nat.pow_succ', Int.natCast_mul]; rfl
      · rintro _ _ ⟨rfl, o7, rfl⟩
        rw [rngD_length, Int.toNat_natCast]
        refine hR6 _ _ ?_
        refine seq_gen fun R7 hR7 => ?_
        simp only [gSq, gNext, gRet, gRetN, gIfS, gAsg, gPar, gPar3, gDrop, gIfE, gTst, gNot, gAnd, gOr, gAndV, gOrV, gNotV, g2, gVar, gC, gNm, gTp, gTl, gGn, gGc, rN, rM, rQ, rNn, gaNil, gaCons, gTupD, gLstF, gLstO, gCall, gCallK, gCB, Gh.c1, Gh.c2, kInt, kInt2, kToInt, gNeg, lk, stt, startG, List.map, List.replicate, List.length, gAug_, dInt, List.cons_append, List.nil_append, gBreak, gCont, gDPut_, gSubD_, gSubL_, gDGet_, gDIn_, onP, onI, onK, onD, onL, onS, onN, gLM, gLM0, gSlF, gSlO, gNo, gPt, kLen, gNewK, gDs1_, Gh.rIxD, itS, itR, itL, itK, mApp, mExt, mPop, mApp1, mExt1, keyD, isLs, gFor, gWh, giL, giT, giR1, giR2, gRvF, gLrF, gLrO, kListF, kListO, gLc, gYes, gDc, wipeG, wipeG.stn, put_same, put_put, atI_last, at0, at1, at2, ix0, ix1, ix2, List.set_cons_zero, List.set_cons_succ, Option.some.injEq, Gh.O.lst.injEq, Gh.O.dic.injEq, Gh.D.ptr.injEq, exists_eq_left', exists_eq_left, exists_eq', exists_eq, true_and, and_true, Bool.false_xor, Bool.true_xor, decide_eq_true_eq, decide_eq_false_iff_not, Bool.not_true, Bool.not_false, Bool.false_eq_true, Bool.true_eq_false, false_implies, true_implies, rRepF, and_self, atI_one]
        refine ⟨sl _ (by decide), fun t Γ' L' => BagAt a l0 L' ∧ ∃ o3 o5 o8, Γ' = [some (.ptr a), some (.bl b), some (.int n'), o3, some (.ptr q), o5, some (.int ((2 ^ r : Nat))), o7, o8], ⟨hB4, _, _, _, rfl⟩, fun _ _ _ _ => trivial, ?_, ?_⟩
        · rintro t d _ L5 hd ⟨hB5, o3, o5, o8, rfl⟩
          have h2r : 2 ^ r ≤ 2 ^ 40 := Nat.pow_le_pow_right (by decide) (by omega)
          have h2p : 1 ≤ 2 ^ r := Nat.one_le_two_pow
          have hd2 : ∃ s : Nat, d = .int (s : Nat) ∧ 1 ≤ s ∧ s ≤ 2 ^ 40 := by
            rcases t with _ | _ | t
            · cases hd; exact ⟨_, rfl, hn1', hn2'⟩
            · cases hd; exact ⟨_, rfl, h2p, h2r⟩
            · cases hd
          obtain ⟨s, rfl, hs1, hs2⟩ := hd2
          have hs6 : s < 2 ^ 61 := by omega
          have hs7 : s < 2 ^ 62 := by omega
          have hbg : byp 3 2 s < 10 ^ 90 := by
            have := byp_great (k := 3) (b := 2) (n := s) (j := 40) (by decide) (by decide) (by decide) hs2
            have e : (64 : Nat) ^ 40 < 10 ^ 90 := by decide
            omega
          have hvg : hv s < 10 ^ 90 := hv_great hs2 (by decide)
          have hle := hv_le_byp s
          try simp only [gSq, gNext, gRet, gRetN, gIfS, gAsg, gPar, gPar3, gDrop, gIfE, gTst, gNot, gAnd, gOr, gAndV, gOrV, gNotV, g2, gVar, gC, gNm, gTp, gTl, gGn, gGc, rN, rM, rQ, rNn, gaNil, gaCons, gTupD, gLstF, gLstO, gCall, gCallK, gCB, Gh.c1, Gh.c2, kInt, kInt2, kToInt, gNeg, lk, stt, startG, List.map, List.replicate, List.length, gAug_, dInt, List.cons_append, List.nil_append, gBreak, gCont, gDPut_, gSubD_, gSubL_, gDGet_, gDIn_, onP, onI, onK, onD, onL, onS, onN, gLM, gLM0, gSlF, gSlO, gNo, gPt, kLen, gNewK, gDs1_, Gh.rIxD, itS, itR, itL, itK, mApp, mExt, mPop, mApp1, mExt1, keyD, isLs, gFor, gWh, giL, giT, giR1, giR2, gRvF, gLrF, gLrO, kListF, kListO, gLc, gYes, gDc, wipeG, wipeG.stn, put_same, put_put, atI_last, at0, at1, at2, ix0, ix1, ix2, List.set_cons_zero, List.set_cons_succ, Option.some.injEq, Gh.O.lst.injEq, Gh.O.dic.injEq, Gh.D.ptr.injEq, exists_eq_left', exists_eq_left, exists_eq', exists_eq, true_and, and_true, Bool.false_xor, Bool.true_xor, decide_eq_true_eq, decide_eq_false_iff_not, Bool.not_true, Bool.not_false, Bool.false_eq_true, Bool.true_eq_false, false_implies, true_implies, rRepF, and_self, atI_one]
          refine ⟨3, 2, s, rfl, by decide, by decide, by decide, hs1, hs7, ?_⟩
          refine ⟨3, 2, s, rfl, by decide, by decide, by decide, hs1, hs7, s, rfl, hs1, hs6, sl _ (by decide), fun v hv0 => ?_⟩
          have nv := hB5.not hv0
          try simp only [gSq, gNext, gRet, gRetN, gIfS, gAsg, gPar, gPar3, gDrop, gIfE, gTst, gNot, gAnd, gOr, gAndV, gOrV, gNotV, g2, gVar, gC, gNm, gTp, gTl, gGn, gGc, rN, rM, rQ, rNn, gaNil, gaCons, gTupD, gLstF, gLstO, gCall, gCallK, gCB, Gh.c1, Gh.c2, kInt, kInt2, kToInt, gNeg, lk, stt, startG, List.map, List.replicate, List.length, gAug_, dInt, List.cons_append, List.nil_append, gBreak, gCont, gDPut_, gSubD_, gSubL_, gDGet_, gDIn_, onP, onI, onK, onD, onL, onS, onN, gLM, gLM0, gSlF, gSlO, gNo, gPt, kLen, gNewK, gDs1_, Gh.rIxD, itS, itR, itL, itK, mApp, mExt, mPop, mApp1, mExt1, keyD, isLs, gFor, gWh, giL, giT, giR1, giR2, gRvF, gLrF, gLrO, kListF, kListO, gLc, gYes, gDc, wipeG, wipeG.stn, put_same, put_put, atI_last, at0, at1, at2, ix0, ix1, ix2, List.set_cons_zero, List.set_cons_succ, Option.some.injEq, Gh.O.lst.injEq, Gh.O.dic.injEq, Gh.D.ptr.injEq, exists_eq_left', exists_eq_left, exists_eq', exists_eq, true_and, and_true, Bool.false_xor, Bool.true_xor, decide_eq_true_eq, decide_eq_false_iff_not, Bool.not_true, Bool.not_false, Bool.false_eq_true, Bool.true_eq_false, false_implies, true_implies, rRepF, and_self, atI_one]
          intro z hz
          refine ⟨s, s, z, [], rfl, ⟨60, rfl, by omega⟩, put_same, Keys.nil, hs6, fam_top (e := 0) (by decide), hs1, fun ks' _ => ?_⟩
          have hzv := new_ne hz
          have nz : z ≠ a ∧ z ≠ l0 := (hB5.put nv).not hz
          simp only [gSq, gNext, gRet, gRetN, gIfS, gAsg, gPar, gPar3, gDrop, gIfE, gTst, gNot, gAnd, gOr, gAndV, gOrV, gNotV, g2, gVar, gC, gNm, gTp, gTl, gGn, gGc, rN, rM, rQ, rNn, gaNil, gaCons, gTupD, gLstF, gLstO, gCall, gCallK, gCB, Gh.c1, Gh.c2, kInt, kInt2, kToInt, gNeg, lk, stt, startG, List.map, List.replicate, List.length, gAug_, dInt, List.cons_append, List.nil_append, gBreak, gCont, gDPut_, gSubD_, gSubL_, gDGet_, gDIn_, onP, onI, onK, onD, onL, onS, onN, gLM, gLM0, gSlF, gSlO, gNo, gPt, kLen, gNewK, gDs1_, Gh.rIxD, itS, itR, itL, itK, mApp, mExt, mPop, mApp1, mExt1, keyD, isLs, gFor, gWh, giL, giT, giR1, giR2, gRvF, gLrF, gLrO, kListF, kListO, gLc, gYes, gDc, wipeG, wipeG.stn, put_same, put_put, atI_last, at0, at1, at2, ix0, ix1, ix2, List.set_cons_zero, List.set_cons_succ, Option.some.injEq, Gh.O.lst.injEq, Gh.O.dic.injEq, Gh.D.ptr.injEq, exists_eq_left', exists_eq_left, exists_eq', exists_eq, true_and, and_true, Bool.false_xor, Bool.true_xor, decide_eq_true_eq, decide_eq_false_iff_not, Bool.not_true, Bool.not_false, Bool.false_eq_true, Bool.true_eq_false, false_implies, true_implies, rRepF, and_self, atI_one]
          refine ⟨sl _ (by decide), ?_⟩
          have g1 : (put (put L5 v (.lst [.int (byp 3 2 s : Nat), .int (hv s : Nat)])) z (.dic (dk hD ks'))) v = some (.lst (nats [byp 3 2 s, hv s])) := by rw [put_ne hzv, put_same]; rfl
          have gB : BagAt a l0 (put (put L5 v (.lst [.int (byp 3 2 s : Nat), .int (hv s : Nat)])) z (.dic (dk hD ks'))) := (hB5.put nv).put nz
          generalize put (put L5 v (.lst [.int (byp 3 2 s : Nat), .int (hv s : Nat)])) z (.dic (dk hD ks')) = L6 at *
          refine ⟨_, _, _, rfl, .ptr g1 (py_ints [byp 3 2 s, hv s]), .lst (py_ints [byp 3 2 s, hv s]), fine_nats (by simp [hbg, hvg]) (by simp), ?_⟩
          simp only [gSq, gNext, gRet, gRetN, gIfS, gAsg, gPar, gPar3, gDrop, gIfE, gTst, gNot, gAnd, gOr, gAndV, gOrV, gNotV, g2, gVar, gC, gNm, gTp, gTl, gGn, gGc, rN, rM, rQ, rNn, gaNil, gaCons, gTupD, gLstF, gLstO, gCall, gCallK, gCB, Gh.c1, Gh.c2, kInt, kInt2, kToInt, gNeg, lk, stt, startG, List.map, List.replicate, List.length, gAug_, dInt, List.cons_append, List.nil_append, gBreak, gCont, gDPut_, gSubD_, gSubL_, gDGet_, gDIn_, onP, onI, onK, onD, onL, onS, onN, gLM, gLM0, gSlF, gSlO, gNo, gPt, kLen, gNewK, gDs1_, Gh.rIxD, itS, itR, itL, itK, mApp, mExt, mPop, mApp1, mExt1, keyD, isLs, gFor, gWh, giL, giT, giR1, giR2, gRvF, gLrF, gLrO, kListF, kListO, gLc, gYes, gDc, wipeG, wipeG.stn, put_same, put_put, atI_last, at0, at1, at2, ix0, ix1, ix2, List.set_cons_zero, List.set_cons_succ, Option.some.injEq, Gh.O.lst.injEq, Gh.O.dic.injEq, Gh.D.ptr.injEq, exists_eq_left', exists_eq_left, exists_eq', exists_eq, true_and, and_true, Bool.false_xor, Bool.true_xor, decide_eq_true_eq, decide_eq_false_iff_not, Bool.not_true, Bool.not_false, Bool.false_eq_true, Bool.true_eq_false, false_implies, true_implies, rRepF, and_self, atI_one, g1]
          refine ⟨fun h => absurd h (by omega), fun _ => ⟨fun h => ?_, fun _ => ⟨gB, _, _, _, rfl⟩⟩⟩
          have hs : s = 2 ^ r := Int.ofNat.inj h
          have hev : hv s = byp 3 2 s := by rw [hs]; exact hv_two r
          refine ⟨.int (hv s : Nat), .int (byp 3 2 s : Nat), .int _, .int _, shaped_int _, shaped_int _, ?_⟩
          rw [hev, SeqAt.eqv_refl _ (by rw [PyData.canLay0])]
          exact ⟨fun h => (by cases h), fun _ => ⟨gB, _, _, _, rfl⟩⟩
        · rintro _ L5 ⟨hB5, o3, o5, o8, rfl⟩
          refine hR7 _ _ ?_
          simp only [gSq, gNext, gRet, gRetN, gIfS, gAsg, gPar, gPar3, gDrop, gIfE, gTst, gNot, gAnd, gOr, gAndV, gOrV, gNotV, g2, gVar, gC, gNm, gTp, gTl, gGn, gGc, rN, rM, rQ, rNn, gaNil, gaCons, gTupD, gLstF, gLstO, gCall, gCallK, gCB, Gh.c1, Gh.c2, kInt, kInt2, kToInt, gNeg, lk, stt, startG, List.map, List.replicate, List.length, gAug_, dInt, List.cons_append, List.nil_append, gBreak, gCont, gDPut_, gSubD_, gSubL_, gDGet_, gDIn_, onP, onI, onK, onD, onL, onS, onN, gLM, gLM0, gSlF, gSlO, gNo, gPt, kLen, gNewK, gDs1_, Gh.rIxD, itS, itR, itL, itK, mApp, mExt, mPop, mApp1, mExt1, keyD, isLs, gFor, gWh, giL, giT, giR1, giR2, gRvF, gLrF, gLrO, kListF, kListO, gLc, gYes, gDc, wipeG, wipeG.stn, put_same, put_put, atI_last, at0, at1, at2, ix0, ix1, ix2, List.set_cons_zero, List.set_cons_succ, Option.some.injEq, Gh.O.lst.injEq, Gh.O.dic.injEq, Gh.D.ptr.injEq, exists_eq_left', exists_eq_left, exists_eq', exists_eq, true_and, and_true, Bool.false_xor, Bool.true_xor, decide_eq_true_eq, decide_eq_false_iff_not, Bool.not_true, Bool.not_false, Bool.false_eq_true, Bool.true_eq_false, false_implies, true_implies, rRepF, and_self, atI_one]
          exact rt_in (hp _ hB5)
end
end K06

namespace K06
open PySem PySem.Spec L2 Gh
theorem chp_one {k b p : Nat} {d d' : D} (h : Chp k b p d) (h' : Chp k b p d') : d = d' := by
  rcases h with ⟨h1, rfl⟩ | ⟨m, h1, h2, h3, h4, rfl⟩ <;> rcases h' with ⟨g1, rfl⟩ | ⟨m', g1, g2, g3, g4, rfl⟩
  · rfl
  · exfalso
    have : m' ^ p ≤ b ^ p := Nat.pow_le_pow_left g2 p
    omega
  · exfalso
    have : m ^ p ≤ b ^ p := Nat.pow_le_pow_left h2 p
    omega
  · have : m = m' := by
      rcases Nat.lt_trichotomy m m' with q | q | q
      · have := g4 m h1 q; omega
      · exact q
      · have := h4 m' g1 q; omega
    rw [this]
theorem up_one {b s : Nat} (h1 : 1 ≤ s) (h2 : s ≤ b) : up b s = 1 := by
  unfold up
  rw [Nat.div_eq_of_lt_le] <;> omega
variable [KK]
section
variable {P : Program} {w : World} {mg : Str → Option Value} {base : Heap}
/-- a row of told: frozen, or in the ledger -/
def TR (p q : Addr) (L : Led) (x : List D) (d : D) : Prop := d = .lst x ∨ ∃ v, d = .ptr v ∧ v ≠ p ∧ v ≠ q ∧ L v = some (.lst x)
theorem TR.py {p q : Addr} {L : Led} {x : List D} {e : List PyData} {d : D} (h : TR p q L x d) (hx : PyA L x e) : Py L d (.list e) := by
  rcases h with rfl | ⟨v, rfl, _, _, h⟩
  · exact .lst hx
  · exact .ptr h hx
theorem TR.keep {p q : Addr} {L L' : Led} {x : List D} {d : D} (h : TR p q L x d) (hk : ∀ v o, v ≠ p → v ≠ q → L v = some o → L' v = some o) : TR p q L' x d := by
  rcases h with rfl | ⟨v, rfl, h1, h2, h⟩
  · exact .inl rfl
  · exact .inr ⟨v, rfl, h1, h2, hk v _ h1 h2 h⟩
def rowP (k b p n i : Nat) : List D := [.int (byp k b (n + i) : Nat), .int (mix k b p (n + i) : Nat)]
def duesP (k b p n t : Nat) : List D := (List.range t).map fun i => .lst (rowP k b p n i)
theorem duesP_succ (k b p n t : Nat) : duesP k b p n (t + 1) = duesP k b p n t ++ [.lst (rowP k b p n t)] := by unfold duesP; rw [List.range_succ, List.map_append]; rfl
theorem duesP_length (k b p n t : Nat) : (duesP k b p n t).length = t := by unfold duesP; rw [List.length_map, List.length_range]
set_option maxHeartbeats 0 in
theorem ok__law_are_products_right (m_max : mg "max" = none) (m_min : mg "min" = none) (m_range : mg "range" = none) (c__law_draw : Cal P w mg base 1 "_law_draw" "_law_draw" s__law_draw ["bag", "below"] fs__law_draw) (c__law_power : Cal P w mg base 1 "_law_power" "_law_power" s__law_power ["n", "power"] fs__law_power) (c__law_size : Cal P w mg base 2 "_law_size" "_law_size" s__law_size ["bag", "base", "most"] fs__law_size) (c_products_by : Cal P w mg base 2 "products_by" "products_by" s_products_by ["many", "base", "n"] fs_products_by) (c_products_mixed : Cal P w mg base 2 "products_mixed" "products_mixed" s_products_mixed ["many", "base", "power", "n"] fs_products_mixed) (c__law_by : Cal P w mg base 2 "_law_by" "_law_by" s__law_by ["many", "base", "n"] fs__law_by) (c__law_mixed : Cal P w mg base 2 "_law_mixed" "_law_mixed" s__law_mixed ["many", "base", "power", "n"] fs__law_mixed) (c__law_same : Cal P w mg base 1 "_law_same" "_law_same" s__law_same ["told", "due"] fs__law_same) (c__law_up : Cal P w mg base 1 "_law_up" "_law_up" s__law_up ["n", "by"] fs__law_up) (c_cheaper_from : Cal P w mg base 2 "cheaper_from" "cheaper_from" s_cheaper_from ["many", "base", "power"] fs_cheaper_from) (i : ∃ (f : Addr) (fd : FuncData), FunD KK.K "_law_are_products_right" "_law_are_products_right" (defArgs s__law_are_products_right) (defBody s__law_are_products_right) (defScope s__law_are_products_right) [] [] f fd ∧ mg "_law_are_products_right" = some (.ref f)) : Cal P w mg base 3 "_law_are_products_right" "_law_are_products_right" s__law_are_products_right ["bag", "is_named"] fs__law_are_products_right := by
  obtain ⟨f, fd, DD, hm⟩ := i
  refine ⟨f, fd, DD, fn_G (k := 2) DD sc__law_are_products_right ?len (fun cdv A outer s H hG hR => (s_cons (s_par3 (n := 2) (m := 3) (l := 4) (fun _ => rfl) (fun _ => sc__law_are_products_right.nd) (fun _ => rfl) (fun _ => rfl) (fun _ => rfl) (by decide) (by decide) (by decide) (fun _ => rfl) (fun _ => rfl) (fun _ => rfl) (a_cons (g_add g_int (g_c (fun _ => rfl) (fun _ => hG) (fun _ => hR.mono (by decide)) (fun _ => c__law_draw) bd__law_draw (a_cons (gv 0) (a_cons g_int a_nil)))) (a_cons (g_add g_int (g_c (fun _ => rfl) (fun _ => hG) (fun _ => hR.mono (by decide)) (fun _ => c__law_draw) bd__law_draw (a_cons (gv 0) (a_cons g_int a_nil)))) (a_cons (g_add g_int (g_c (fun _ => rfl) (fun _ => hG) (fun _ => hR.mono (by decide)) (fun _ => c__law_draw) bd__law_draw (a_cons (gv 0) (a_cons g_int a_nil)))) a_nil))))
    (s_cons (s_if (b_eq (g_c (fun _ => rfl) (fun _ => hG) (fun _ => hR.mono (by decide)) (fun _ => c__law_draw) bd__law_draw (a_cons (gv 0) (a_cons g_int a_nil))) g_int) (s_one (s_set (n := 2) (fun _ => sc__law_are_products_right.nd) (fun _ => rfl) (fun _ => by first | exact Or.inl rfl | exact Or.inr rfl) (f_min2 (fun _ => rfl) (fun _ => rfl) (fun _ => m_min) (a_cons g_int (a_cons (f_max2 (fun _ => rfl) (fun _ => rfl) (fun _ => m_max) (a_cons g_int (a_cons (g_sub (g_c (fun _ => rfl) (fun _ => hG) (fun _ => hR.mono (by decide)) (fun _ => c__law_power) bd__law_power (a_cons (gv 3) (a_cons (gv 4) a_nil))) (g_c (fun _ => rfl) (fun _ => hG) (fun _ => hR.mono (by decide)) (fun _ => c__law_draw) bd__law_draw (a_cons (gv 0) (a_cons g_int a_nil)))) a_nil))) a_nil))))) s_nil)
    (s_cons (s_set (n := 5) (fun _ => sc__law_are_products_right.nd) (fun _ => rfl) (fun _ => by first | exact Or.inl rfl | exact Or.inr rfl) (g_c (fun _ => rfl) (fun _ => hG) (fun _ => hR.mono (by decide)) (fun _ => c__law_size) bd__law_size (a_cons (gv 0) (a_cons (gv 3) (a_cons (g_sub (g_pow g_int g_int) g_int) a_nil)))))
    (s_cons (s_par (n := 6) (m := 7) (fun _ => rfl) (fun _ => sc__law_are_products_right.nd) (fun _ => rfl) (fun _ => rfl) (by decide) (fun _ => rfl) (fun _ => rfl) (a_cons (g_lstO a_nil) (a_cons (g_lstO a_nil) a_nil)))
    (s_cons (s_for (fun _ => PassesOwn.never) (fun _ => rfl) (i_tup (fun _ => rfl) (g_tup (a_cons (gv 5) (a_cons (g_add (gv 5) g_int) a_nil)))) (t_nm (fun _ => sc__law_are_products_right.nd) (fun _ => rfl) (fun _ => by first | exact Or.inl rfl | exact Or.inr rfl) (i := 8)) (s_cons (s_if (b_val (gv 1)) (s_cons (s_expr (g_app (fun _ => rfl) (gv 6) (a_cons (g_lstO (a_cons (g_ck0 (fun _ => rfl) (fun _ => hG) (fun _ => hR.mono (by decide)) (fun _ => c_products_by) kb_products_by_0_2_1_0 (k_cons (gv 8) (k_cons (gv 3) (k_cons (gv 2) k_nil)))) a_nil)) a_nil)))
    (s_one (s_expr (g_app (fun _ => rfl) (g_ix (fun _ => rfl) (gv 6) (g_neg g_int) (fun _ _ => rfl)) (a_cons (g_ck0 (fun _ => rfl) (fun _ => hG) (fun _ => hR.mono (by decide)) (fun _ => c_products_mixed) kb_products_mixed_0_3_2_1_0 (k_cons (gv 8) (k_cons (gv 4) (k_cons (gv 3) (k_cons (gv 2) k_nil))))) a_nil))))) (s_one (s_expr (g_app (fun _ => rfl) (gv 6) (a_cons (g_lstF (a_cons (g_c (fun _ => rfl) (fun _ => hG) (fun _ => hR.mono (by decide)) (fun _ => c_products_by) bd_products_by (a_cons (gv 2) (a_cons (gv 3) (a_cons (gv 8) a_nil)))) (a_cons (g_c (fun _ => rfl) (fun _ => hG) (fun _ => hR.mono (by decide)) (fun _ => c_products_mixed) bd_products_mixed (a_cons (gv 2) (a_cons (gv 3) (a_cons (gv 4) (a_cons (gv 8) a_nil))))) a_nil))) a_nil)))))
    (s_one (s_expr (g_app (fun _ => rfl) (gv 7) (a_cons (g_lstF (a_cons (g_c (fun _ => rfl) (fun _ => hG) (fun _ => hR.mono (by decide)) (fun _ => c__law_by) bd__law_by (a_cons (gv 2) (a_cons (gv 3) (a_cons (gv 8) a_nil)))) (a_cons (g_c (fun _ => rfl) (fun _ => hG) (fun _ => hR.mono (by decide)) (fun _ => c__law_mixed) bd__law_mixed (a_cons (gv 2) (a_cons (gv 3) (a_cons (gv 4) (a_cons (gv 8) a_nil))))) a_nil))) a_nil))))))
    (s_cons (s_if (b_w (w_or (b_not (b_val (g_c (fun _ => rfl) (fun _ => hG) (fun _ => hR.mono (by decide)) (fun _ => c__law_same) bd__law_same (a_cons (gv 6) (a_cons (gv 7) a_nil))))) (w_or1 (b_gt (g_ix (fun _ => rfl) (g_ix (fun _ => rfl) (gv 7) g_int (fun _ _ => rfl)) g_int (fun _ _ => rfl)) (f_min2 (fun _ => rfl) (fun _ => rfl) (fun _ => m_min) (a_cons (g_ix (fun _ => rfl) (g_ix (fun _ => rfl) (gv 7) g_int (fun _ _ => rfl)) g_int (fun _ _ => rfl)) (a_cons (g_c (fun _ => rfl) (fun _ => hG) (fun _ => hR.mono (by decide)) (fun _ => c__law_power) bd__law_power (a_cons (gv 5) (a_cons (gv 4) a_nil))) a_nil))))))) (s_one (s_ret g_bl)) s_nil)
    (s_cons (s_if (b_w (w_or (b_lt (g_ix (fun _ => rfl) (g_ix (fun _ => rfl) (gv 7) g_int (fun _ _ => rfl)) g_int (fun _ _ => rfl)) (g_ix (fun _ => rfl) (g_ix (fun _ => rfl) (gv 7) g_int (fun _ _ => rfl)) g_int (fun _ _ => rfl))) (w_or1 (b_lt (g_ix (fun _ => rfl) (g_ix (fun _ => rfl) (gv 7) g_int (fun _ _ => rfl)) g_int (fun _ _ => rfl)) (g_ix (fun _ => rfl) (g_ix (fun _ => rfl) (gv 7) g_int (fun _ _ => rfl)) g_int (fun _ _ => rfl)))))) (s_one (s_ret g_bl)) s_nil)
    (s_cons (s_set (n := 9) (fun _ => sc__law_are_products_right.nd) (fun _ => rfl) (fun _ => by first | exact Or.inl rfl | exact Or.inr rfl) g_non)
    (s_cons (s_for (fun _ => PassesOwn.never) (fun _ => rfl) (i_rng2 (fun _ => rfl) (fun _ => m_range) (a_cons g_int (a_cons (g_add (gv 3) g_int) a_nil))) (t_nm (fun _ => sc__law_are_products_right.nd) (fun _ => rfl) (fun _ => by first | exact Or.inl rfl | exact Or.inr rfl) (i := 8)) (s_cons (s_set (n := 10) (fun _ => sc__law_are_products_right.nd) (fun _ => rfl) (fun _ => by first | exact Or.inl rfl | exact Or.inr rfl) (g_lt (g_mul (gv 2) (g_c (fun _ => rfl) (fun _ => hG) (fun _ => hR.mono (by decide)) (fun _ => c__law_mixed) bd__law_mixed (a_cons (gv 2) (a_cons (gv 3) (a_cons (gv 4) (a_cons (g_c (fun _ => rfl) (fun _ => hG) (fun _ => hR.mono (by decide)) (fun _ => c__law_up) bd__law_up (a_cons (gv 8) (a_cons (gv 3) a_nil))) a_nil)))))) (g_c (fun _ => rfl) (fun _ => hG) (fun _ => hR.mono (by decide)) (fun _ => c__law_power) bd__law_power (a_cons (gv 8) (a_cons (gv 4) a_nil)))))
    (s_one (s_set (n := 9) (fun _ => sc__law_are_products_right.nd) (fun _ => rfl) (fun _ => by first | exact Or.inl rfl | exact Or.inr rfl) (g_ite (b_w (w_and (b_val (gv 10)) (w_and1 (b_is (gv 9) g_non)))) (gv 8) (gv 9))))))
    (s_cons (s_set (n := 6) (fun _ => sc__law_are_products_right.nd) (fun _ => rfl) (fun _ => by first | exact Or.inl rfl | exact Or.inr rfl) (g_ite (b_val (gv 1)) (g_ck0 (fun _ => rfl) (fun _ => hG) (fun _ => hR.mono (by decide)) (fun _ => c_cheaper_from) kb_cheaper_from_0_2_1_0 (k_cons (gv 4) (k_cons (gv 3) (k_cons (gv 2) k_nil)))) (g_c (fun _ => rfl) (fun _ => hG) (fun _ => hR.mono (by decide)) (fun _ => c_cheaper_from) bd_cheaper_from (a_cons (gv 2) (a_cons (gv 3) (a_cons (gv 4) a_nil))))))
    (s_one (s_ret (g_and (g_c (fun _ => rfl) (fun _ => hG) (fun _ => hR.mono (by decide)) (fun _ => c__law_same) bd__law_same (a_cons (gv 6) (a_cons (gv 9) a_nil))) (g_one (g_eq (g_is (gv 9) g_non) (g_ge (gv 2) (g_c (fun _ => rfl) (fun _ => hG) (fun _ => hR.mono (by decide)) (fun _ => c__law_power) bd__law_power (a_cons (gv 3) (a_cons (gv 4) a_nil)))))))))))))))))))) ?main, hm⟩
  case len => intro ds L post h; unfold fs__law_are_products_right at h; repeat (first | (obtain ⟨rfl, _⟩ := h; rfl) | (obtain ⟨_, h⟩ := h))
  case main =>
    rintro ds L post ⟨a, l0, b, rfl, hB, hp⟩
    have sl : ∀ k, k ≤ 100 → k ≤ sizeLine := fun k h => by rw [sizeLine_eq]; omega
    have e12 : (10 : Int) ^ Int.toNat 12 - 1 = ((999999999999 : Nat) : Int) := by decide
    refine seq_gen fun R1 hR1 => ?_
    simp only [gSq, gNext, gRet, gRetN, gIfS, gAsg, gPar, gPar3, gDrop, gIfE, gTst, gNot, gAnd, gOr, gAndV, gOrV, gNotV, g2, gVar, gC, gNm, gTp, gTl, gGn, gGc, rN, rM, rQ, rNn, gaNil, gaCons, gTupD, gLstF, gLstO, gCall, gCallK, gCB, Gh.c1, Gh.c2, kInt, kInt2, kToInt, gNeg, lk, stt, startG, List.map, List.replicate, List.length, gAug_, dInt, List.cons_append, List.nil_append, gBreak, gCont, gDPut_, gSubD_, gSubL_, gDGet_, gDIn_, onP, onI, onK, onD, onL, onS, onN, gLM, gLM0, gSlF, gSlO, gNo, gPt, kLen, gNewK, gDs1_, Gh.rIxD, itS, itR, itL, itK, mApp, mExt, mPop, mApp1, mExt1, keyD, isLs, gFor, gWh, giL, giT, giR1, giR2, gRvF, gLrF, gLrO, kListF, kListO, gLc, gYes, gDc, wipeG, wipeG.stn, put_same, put_put, atI_last, at0, at1, at2, ix0, ix1, ix2, List.set_cons_zero, List.set_cons_succ, Option.some.injEq, Gh.O.lst.injEq, Gh.O.dic.injEq, Gh.D.ptr.injEq, exists_eq_left', exists_eq_left, exists_eq', exists_eq, true_and, and_true, Bool.false_xor, Bool.true_xor, decide_eq_true_eq, decide_eq_false_iff_not, Bool.not_true, Bool.not_false, Bool.false_eq_true, Bool.true_eq_false, false_implies, true_implies, rRepF, and_self, atI_one]
    refine ⟨a, l0, 64, rfl, hB, by decide, by decide, fun r1 L1 hr1 hB1 _ => ?_⟩
    simp only [gSq, gNext, gRet, gRetN, gIfS, gAsg, gPar, gPar3, gDrop, gIfE, gTst, gNot, gAnd, gOr, gAndV, gOrV, gNotV, g2, gVar, gC, gNm, gTp, gTl, gGn, gGc, rN, rM, rQ, rNn, gaNil, gaCons, gTupD, gLstF, gLstO, gCall, gCallK, gCB, Gh.c1, Gh.c2, kInt, kInt2, kToInt, gNeg, lk, stt, startG, List.map, List.replicate, List.length, gAug_, dInt, List.cons_append, List.nil_append, gBreak, gCont, gDPut_, gSubD_, gSubL_, gDGet_, gDIn_, onP, onI, onK, onD, onL, onS, onN, gLM, gLM0, gSlF, gSlO, gNo, gPt, kLen, gNewK, gDs1_, Gh.rIxD, itS, itR, itL, itK, mApp, mExt, mPop, mApp1, mExt1, keyD, isLs, gFor, gWh, giL, giT, giR1, giR2, gRvF, gLrF, gLrO, kListF, kListO, gLc, gYes, gDc, wipeG, wipeG.stn, put_same, put_put, atI_last, at0, at1, at2, ix0, ix1, ix2, List.set_cons_zero, List.set_cons_succ, Option.some.injEq, Gh.O.lst.injEq, Gh.O.dic.injEq, Gh.D.ptr.injEq, exists_eq_left', exists_eq_left, exists_eq', exists_eq, true_and, and_true, Bool.false_xor, Bool.true_xor, decide_eq_true_eq, decide_eq_false_iff_not, Bool.not_true, Bool.not_false, Bool.false_eq_true, Bool.true_eq_false, false_implies, true_implies, rRepF, and_self, atI_one]
    refine ⟨a, l0, 8, rfl, hB1, by decide, by decide, fun r2 L2 hr2 hB2 _ => ?_⟩
    simp only [gSq, gNext, gRet, gRetN, gIfS, gAsg, gPar, gPar3, gDrop, gIfE, gTst, gNot, gAnd, gOr, gAndV, gOrV, gNotV, g2, gVar, gC, gNm, gTp, gTl, gGn, gGc, rN, rM, rQ, rNn, gaNil, gaCons, gTupD, gLstF, gLstO, gCall, gCallK, gCB, Gh.c1, Gh.c2, kInt, kInt2, kToInt, gNeg, lk, stt, startG, List.map, List.replicate, List.length, gAug_, dInt, List.cons_append, List.nil_append, gBreak, gCont, gDPut_, gSubD_, gSubL_, gDGet_, gDIn_, onP, onI, onK, onD, onL, onS, onN, gLM, gLM0, gSlF, gSlO, gNo, gPt, kLen, gNewK, gDs1_, Gh.rIxD, itS, itR, itL, itK, mApp, mExt, mPop, mApp1, mExt1, keyD, isLs, gFor, gWh, giL, giT, giR1, giR2, gRvF, gLrF, gLrO, kListF, kListO, gLc, gYes, gDc, wipeG, wipeG.stn, put_same, put_put, atI_last, at0, at1, at2, ix0, ix1, ix2, List.set_cons_zero, List.set_cons_succ, Option.some.injEq, Gh.O.lst.injEq, Gh.O.dic.injEq, Gh.D.ptr.injEq, exists_eq_left', exists_eq_left, exists_eq', exists_eq, true_and, and_true, Bool.false_xor, Bool.true_xor, decide_eq_true_eq, decide_eq_false_iff_not, Bool.not_true, Bool.not_false, Bool.false_eq_true, Bool.true_eq_false, false_implies, true_implies, rRepF, and_self, atI_one]
    refine ⟨a, l0, 2, rfl, hB2, by decide, by decide, fun r3 L3 hr3 hB3 _ => ?_⟩
    simp only [gSq, gNext, gRet, gRetN, gIfS, gAsg, gPar, gPar3, gDrop, gIfE, gTst, gNot, gAnd, gOr, gAndV, gOrV, gNotV, g2, gVar, gC, gNm, gTp, gTl, gGn, gGc, rN, rM, rQ, rNn, gaNil, gaCons, gTupD, gLstF, gLstO, gCall, gCallK, gCB, Gh.c1, Gh.c2, kInt, kInt2, kToInt, gNeg, lk, stt, startG, List.map, List.replicate, List.length, gAug_, dInt, List.cons_append, List.nil_append, gBreak, gCont, gDPut_, gSubD_, gSubL_, gDGet_, gDIn_, onP, onI, onK, onD, onL, onS, onN, gLM, gLM0, gSlF, gSlO, gNo, gPt, kLen, gNewK, gDs1_, Gh.rIxD, itS, itR, itL, itK, mApp, mExt, mPop, mApp1, mExt1, keyD, isLs, gFor, gWh, giL, giT, giR1, giR2, gRvF, gLrF, gLrO, kListF, kListO, gLc, gYes, gDc, wipeG, wipeG.stn, put_same, put_put, atI_last, at0, at1, at2, ix0, ix1, ix2, List.set_cons_zero, List.set_cons_succ, Option.some.injEq, Gh.O.lst.injEq, Gh.O.dic.injEq, Gh.D.ptr.injEq, exists_eq_left', exists_eq_left, exists_eq', exists_eq, true_and, and_true, Bool.false_xor, Bool.true_xor, decide_eq_true_eq, decide_eq_false_iff_not, Bool.not_true, Bool.not_false, Bool.false_eq_true, Bool.true_eq_false, false_implies, true_implies, rRepF, and_self, atI_one]
    have c1 : D.int (1 + (r1 : Int)) = D.int ((1 + r1 : Nat) : Int) := by rw [Int.natCast_add]; rfl
    have c2 : D.int (2 + (r2 : Int)) = D.int ((2 + r2 : Nat) : Int) := by rw [Int.natCast_add]; rfl
    have c3 : D.int (2 + (r3 : Int)) = D.int ((2 + r3 : Nat) : Int) := by rw [Int.natCast_add]; rfl
    rw [c1, c2, c3]
    refine hR1 _ _ ?_
    obtain ⟨k0, hk0⟩ : ∃ k0, k0 = 1 + r1 := ⟨_, rfl⟩
    obtain ⟨bb, hbb⟩ : ∃ bb, bb = 2 + r2 := ⟨_, rfl⟩
    obtain ⟨pw, hpw⟩ : ∃ pw, pw = 2 + r3 := ⟨_, rfl⟩
    rw [← hk0, ← hbb, ← hpw]
    have hb2 : 2 ≤ bb := by omega
    have hb9 : bb ≤ 9 := by omega
    have hp23 : pw = 2 ∨ pw = 3 := by omega
    refine seq_gen fun R2 hR2 => ?_
    have rest : ∀ (k : Nat) (L4 : Led), 1 ≤ k → k ≤ 64 → BagAt a l0 L4 → R2 [some (.ptr a), some (.bl b), some (.int k), some (.int bb), some (.int pw), none, none, none, none, none, none] L4 := by
      intro k L4 hk1 hk2 hB4
      refine hR2 _ _ ?_
      refine seq_gen fun R3 hR3 => ?_
      simp only [gSq, gNext, gRet, gRetN, gIfS, gAsg, gPar, gPar3, gDrop, gIfE, gTst, gNot, gAnd, gOr, gAndV, gOrV, gNotV, g2, gVar, gC, gNm, gTp, gTl, gGn, gGc, rN, rM, rQ, rNn, gaNil, gaCons, gTupD, gLstF, gLstO, gCall, gCallK, gCB, Gh.c1, Gh.c2, kInt, kInt2, kToInt, gNeg, lk, stt, startG, List.map, List.replicate, List.length, gAug_, dInt, List.cons_append, List.nil_append, gBreak, gCont, gDPut_, gSubD_, gSubL_, gDGet_, gDIn_, onP, onI, onK, onD, onL, onS, onN, gLM, gLM0, gSlF, gSlO, gNo, gPt, kLen, gNewK, gDs1_, Gh.rIxD, itS, itR, itL, itK, mApp, mExt, mPop, mApp1, mExt1, keyD, isLs, gFor, gWh, giL, giT, giR1, giR2, gRvF, gLrF, gLrO, kListF, kListO, gLc, gYes, gDc, wipeG, wipeG.stn, put_same, put_put, atI_last, at0, at1, at2, ix0, ix1, ix2, List.set_cons_zero, List.set_cons_succ, Option.some.injEq, Gh.O.lst.injEq, Gh.O.dic.injEq, Gh.D.ptr.injEq, exists_eq_left', exists_eq_left, exists_eq', exists_eq, true_and, and_true, Bool.false_xor, Bool.true_xor, decide_eq_true_eq, decide_eq_false_iff_not, Bool.not_true, Bool.not_false, Bool.false_eq_true, Bool.true_eq_false, false_implies, true_implies, rRepF, and_self, atI_one, e12]
      refine ⟨⟨by decide, by decide, by decide⟩, a, l0, bb, 999999999999, rfl, hB4, hb2, by omega, by decide, by decide, fun n L5 hn1 hn2 hB5 _ => hR3 _ _ ?_⟩
      refine seq_gen fun R4 hR4 => ?_
      simp only [gSq, gNext, gRet, gRetN, gIfS, gAsg, gPar, gPar3, gDrop, gIfE, gTst, gNot, gAnd, gOr, gAndV, gOrV, gNotV, g2, gVar, gC, gNm, gTp, gTl, gGn, gGc, rN, rM, rQ, rNn, gaNil, gaCons, gTupD, gLstF, gLstO, gCall, gCallK, gCB, Gh.c1, Gh.c2, kInt, kInt2, kToInt, gNeg, lk, stt, startG, List.map, List.replicate, List.length, gAug_, dInt, List.cons_append, List.nil_append, gBreak, gCont, gDPut_, gSubD_, gSubL_, gDGet_, gDIn_, onP, onI, onK, onD, onL, onS, onN, gLM, gLM0, gSlF, gSlO, gNo, gPt, kLen, gNewK, gDs1_, Gh.rIxD, itS, itR, itL, itK, mApp, mExt, mPop, mApp1, mExt1, keyD, isLs, gFor, gWh, giL, giT, giR1, giR2, gRvF, gLrF, gLrO, kListF, kListO, gLc, gYes, gDc, wipeG, wipeG.stn, put_same, put_put, atI_last, at0, at1, at2, ix0, ix1, ix2, List.set_cons_zero, List.set_cons_succ, Option.some.injEq, Gh.O.lst.injEq, Gh.O.dic.injEq, Gh.D.ptr.injEq, exists_eq_left', exists_eq_left, exists_eq', exists_eq, true_and, and_true, Bool.false_xor, Bool.true_xor, decide_eq_true_eq, decide_eq_false_iff_not, Bool.not_true, Bool.not_false, Bool.false_eq_true, Bool.true_eq_false, false_implies, true_implies, rRepF, and_self, atI_one]
      refine ⟨Nat.zero_le _, fun p hp0 => ⟨Nat.zero_le _, fun q hq0 => hR4 _ _ ?_⟩⟩
      have hpq := new_ne hq0
      have np := hB5.not hp0
      have nq := hB5.not (new_old hq0)
      have hB6 : BagAt a l0 (put (put L5 p (.lst [])) q (.lst [])) := (hB5.put np).put nq
      have hP6 : (put (put L5 p (.lst [])) q (.lst [])) p = some (.lst []) := by rw [put_ne hpq, put_same]
      have hQ6 : (put (put L5 p (.lst [])) q (.lst [])) q = some (.lst []) := put_same
      generalize put (put L5 p (.lst [])) q (.lst []) = L6 at *
      refine seq_gen fun R5 hR5 => ?_
      simp only [gSq, gNext, gRet, gRetN, gIfS, gAsg, gPar, gPar3, gDrop, gIfE, gTst, gNot, gAnd, gOr, gAndV, gOrV, gNotV, g2, gVar, gC, gNm, gTp, gTl, gGn, gGc, rN, rM, rQ, rNn, gaNil, gaCons, gTupD, gLstF, gLstO, gCall, gCallK, gCB, Gh.c1, Gh.c2, kInt, kInt2, kToInt, gNeg, lk, stt, startG, List.map, List.replicate, List.length, gAug_, dInt, List.cons_append, List.nil_append, gBreak, gCont, gDPut_, gSubD_, gSubL_, gDGet_, gDIn_, onP, onI, onK, onD, onL, onS, onN, gLM, gLM0, gSlF, gSlO, gNo, gPt, kLen, gNewK, gDs1_, Gh.rIxD, itS, itR, itL, itK, mApp, mExt, mPop, mApp1, mExt1, keyD, isLs, gFor, gWh, giL, giT, giR1, giR2, gRvF, gLrF, gLrO, kListF, kListO, gLc, gYes, gDc, wipeG, wipeG.stn, put_same, put_put, atI_last, at0, at1, at2, ix0, ix1, ix2, List.set_cons_zero, List.set_cons_succ, Option.some.injEq, Gh.O.lst.injEq, Gh.O.dic.injEq, Gh.D.ptr.injEq, exists_eq_left', exists_eq_left, exists_eq', exists_eq, true_and, and_true, Bool.false_xor, Bool.true_xor, decide_eq_true_eq, decide_eq_false_iff_not, Bool.not_true, Bool.not_false, Bool.false_eq_true, Bool.true_eq_false, false_implies, true_implies, rRepF, and_self, atI_one]
      refine ⟨sl _ (by decide), fun t Γ' L' => BagAt a l0 L' ∧ (∃ ts, L' p = some (.lst ts) ∧ ts.length = t ∧ ∀ i d, ts[i]? = some d → TR p q L' (rowP k bb pw n i) d) ∧ L' q = some (.lst (duesP k bb pw n t)) ∧ ∃ o, Γ' = [some (.ptr a), some (.bl b), some (.int k), some (.int bb), some (.int pw), some (.int n), some (.ptr p), some (.ptr q), o, none, none], ⟨hB6, ⟨[], hP6, rfl, by simp⟩, hQ6, _, rfl⟩, fun _ _ _ _ => trivial, ?_, ?_⟩
      · rintro t d _ L7 hd ⟨hB7, ⟨ts, hP7, htl, hts⟩, hQ7, o, rfl⟩
        obtain ⟨ht, rfl⟩ := pair_get hd
        have hm1 : 1 ≤ n + t := by omega
        have hm2 : n + t < 2 ^ 62 := by omega
        have fin : ∀ (L8 : Led) (ts' : List D), BagAt a l0 L8 → L8 p = some (.lst ts') → ts'.length = t + 1 → (∀ i d, ts'[i]? = some d → TR p q L8 (rowP k bb pw n i) d) → L8 q = some (.lst (duesP k bb pw n t)) →
            (∃ ds_1, L8 q = some (.lst ds_1)) ∧ fs__law_by [.int k, .int bb, .int ((n + t : Nat))] L8 fun d L1 => fs__law_mixed [.int k, .int bb, .int pw, .int ((n + t : Nat))] L1 fun d_1 L1 => 0 + 1 + 1 ≤ sizeLine ∧ ∃ ds, L1 q = some (.lst ds) ∧ ds.length < sizeLine ∧
              BagAt a l0 (put L1 q (.lst (ds ++ [D.lst [d, d_1]]))) ∧ (∃ ts, put L1 q (.lst (ds ++ [D.lst [d, d_1]])) p = some (.lst ts) ∧ ts.length = t + 1 ∧ ∀ (i : Nat) (d_2 : D), ts[i]? = some d_2 → TR p q (put L1 q (.lst (ds ++ [D.lst [d, d_1]]))) (rowP k bb pw n i) d_2) ∧
                ds ++ [D.lst [d, d_1]] = duesP k bb pw n (t + 1) ∧ ∃ o, ([some (.ptr a), some (.bl b), some (.int k), some (.int bb), some (.int pw), some (.int n), some (.ptr p), some (.ptr q), some (.int ((n + t : Nat))), none, none] : Gm) = [some (.ptr a), some (.bl b), some (.int k), some (.int bb), some (.int pw), some (.int n), some (.ptr p), some (.ptr q), o, none, none] := by
          intro L8 ts' hB8 hP8 hl8 hT8 hQ8
          refine ⟨⟨_, hQ8⟩, k, bb, n + t, rfl, by omega, hb2, by omega, hm1, hm2, k, bb, pw, n + t, rfl, by omega, hb2, by omega, hp23, hm1, hm2, sl _ (by decide), _, hQ8, ?_, hB8.put nq, ⟨ts', ?_, hl8, ?_⟩, ?_, _, rfl⟩
          · rw [duesP_length]; exact line64 (by omega)
          · rw [put_ne hpq, hP8]
          · intro i d hd
            exact (hT8 i d hd).keep fun v o h1 h2 h3 => by rw [put_ne h2, h3]
          · rw [duesP_succ]; rfl
        simp only [gSq, gNext, gRet, gRetN, gIfS, gAsg, gPar, gPar3, gDrop, gIfE, gTst, gNot, gAnd, gOr, gAndV, gOrV, gNotV, g2, gVar, gC, gNm, gTp, gTl, gGn, gGc, rN, rM, rQ, rNn, gaNil, gaCons, gTupD, gLstF, gLstO, gCall, gCallK, gCB, Gh.c1, Gh.c2, kInt, kInt2, kToInt, gNeg, lk, stt, startG, List.map, List.replicate, List.length, gAug_, dInt, List.cons_append, List.nil_append, gBreak, gCont, gDPut_, gSubD_, gSubL_, gDGet_, gDIn_, onP, onI, onK, onD, onL, onS, onN, gLM, gLM0, gSlF, gSlO, gNo, gPt, kLen, gNewK, gDs1_, Gh.rIxD, itS, itR, itL, itK, mApp, mExt, mPop, mApp1, mExt1, keyD, isLs, gFor, gWh, giL, giT, giR1, giR2, gRvF, gLrF, gLrO, kListF, kListO, gLc, gYes, gDc, wipeG, wipeG.stn, put_same, put_put, atI_last, at0, at1, at2, ix0, ix1, ix2, List.set_cons_zero, List.set_cons_succ, Option.some.injEq, Gh.O.lst.injEq, Gh.O.dic.injEq, Gh.D.ptr.injEq, exists_eq_left', exists_eq_left, exists_eq', exists_eq, true_and, and_true, Bool.false_xor, Bool.true_xor, decide_eq_true_eq, decide_eq_false_iff_not, Bool.not_true, Bool.not_false, Bool.false_eq_true, Bool.true_eq_false, false_implies, true_implies, rRepF, and_self, atI_one, hP7]
        refine ⟨fun _ => ?_, fun _ => ?_⟩
        · refine ⟨k, bb, n + t, rfl, by omega, hb2, by omega, hm1, hm2, sl _ (by decide), fun v hv0 => ?_⟩
          have nv := hB7.not hv0
          have hvp : v ≠ p := fun e => by rw [e, hP7] at hv0; cases hv0
          have hvq : v ≠ q := fun e => by rw [e, hQ7] at hv0; cases hv0
          refine ⟨ts, by rw [put_ne hvp.symm, hP7], by rw [htl]; exact line64 (by omega), ⟨_, by rw [put_ne hvp, put_same]⟩, ?_⟩
          refine ⟨k, bb, pw, n + t, rfl, by omega, hb2, by omega, by omega, hm1, hm2, [.int (byp k bb (n + t) : Nat)], by rw [put_ne hvp, put_same], by rw [sizeLine_eq]; show 1 < 16777216; decide, ?_⟩
          refine fin _ (ts ++ [.ptr v]) (((hB7.put nv).put np).put nv) ?_ ?_ ?_ ?_
          · rw [put_ne hvp.symm, put_same]
          · rw [List.length_append, htl]; rfl
          · intro i d hd
            rcases Nat.lt_or_ge i ts.length with z | z
            · rw [List.getElem?_append_left z] at hd
              exact (hts i d hd).keep fun u o h1 h2 h3 => by
                have hu : u ≠ v := fun e => by rw [e, hv0] at h3; cases h3
                rw [put_ne hu, put_ne h1, put_ne hu, h3]
            · rw [List.getElem?_append_right z] at hd
              have hi : i - ts.length = 0 := by
                have := (List.getElem?_eq_some_iff.1 hd).1
                simp at this
                omega
              have hit : i = t := by omega
              rw [hi] at hd
              cases hd
              rw [hit]
              exact .inr ⟨v, rfl, hvp, hvq, put_same⟩
          · rw [put_ne hvq.symm, put_ne hpq.symm, put_ne hvq.symm, hQ7]
        · refine ⟨k, bb, n + t, rfl, by omega, hb2, by omega, hm1, hm2, ?_⟩
          refine ⟨k, bb, pw, n + t, rfl, by omega, hb2, by omega, by omega, hm1, hm2, sl _ (by decide), ts, hP7, by rw [htl]; exact line64 (by omega), ?_⟩
          refine fin _ (ts ++ [.lst (rowP k bb pw n t)]) (hB7.put np) ?_ ?_ ?_ ?_
          · exact put_same
          · rw [List.length_append, htl]; rfl
          · intro i d hd
            rcases Nat.lt_or_ge i ts.length with z | z
            · rw [List.getElem?_append_left z] at hd
              exact (hts i d hd).keep fun u o h1 h2 h3 => by rw [put_ne h1, h3]
            · rw [List.getElem?_append_right z] at hd
              have hi : i - ts.length = 0 := by
                have := (List.getElem?_eq_some_iff.1 hd).1
                simp at this
                omega
              have hit : i = t := by omega
              rw [hi] at hd
              cases hd
              rw [hit]
              exact .inl rfl
          · rw [put_ne hpq.symm, hQ7]
      · rintro _ L7 ⟨hB7, ⟨ts, hP7, htl, hts⟩, hQ7, o, rfl⟩
        refine hR5 _ _ ?_
        refine seq_gen fun R6 hR6 => ?_
        have htl : ts.length = 2 := htl
        obtain ⟨t0, t1, rfl⟩ : ∃ x y, ts = [x, y] := by
          match ts, htl with
          | [x, y], _ => exact ⟨x, y, rfl⟩
        have T0 := hts 0 t0 rfl
        have T1 := hts 1 t1 rfl
        have hQ7 : L7 q = some (.lst [.lst (rowP k bb pw n 0), .lst (rowP k bb pw n 1)]) := hQ7
        have hbg : ∀ i, i < 2 → byp k bb (n + i) < 10 ^ 90 := fun i hi => by
          have := byp_great (k := k) (b := bb) (n := n + i) (j := 41) hk1 hk2 hb2 (by omega)
          have e : (64 : Nat) ^ 41 < 10 ^ 90 := by decide
          omega
        have hmg : ∀ i, i < 2 → mix k bb pw (n + i) < 10 ^ 90 := fun i hi => by
          have h1 := mix_le_byp (k := k) (p := pw) (n := n + i) hb2
          have h2 := hbg i hi
          omega
        have py : ∀ i, PyA L7 (rowP k bb pw n i) [.int (byp k bb (n + i) : Nat), .int (mix k bb pw (n + i) : Nat)] := fun i => .cons (.int _) (.cons (.int _) .nil)
        simp only [gSq, gNext, gRet, gRetN, gIfS, gAsg, gPar, gPar3, gDrop, gIfE, gTst, gNot, gAnd, gOr, gAndV, gOrV, gNotV, g2, gVar, gC, gNm, gTp, gTl, gGn, gGc, rN, rM, rQ, rNn, gaNil, gaCons, gTupD, gLstF, gLstO, gCall, gCallK, gCB, Gh.c1, Gh.c2, kInt, kInt2, kToInt, gNeg, lk, stt, startG, List.map, List.replicate, List.length, gAug_, dInt, List.cons_append, List.nil_append, gBreak, gCont, gDPut_, gSubD_, gSubL_, gDGet_, gDIn_, onP, onI, onK, onD, onL, onS, onN, gLM, gLM0, gSlF, gSlO, gNo, gPt, kLen, gNewK, gDs1_, Gh.rIxD, itS, itR, itL, itK, mApp, mExt, mPop, mApp1, mExt1, keyD, isLs, gFor, gWh, giL, giT, giR1, giR2, gRvF, gLrF, gLrO, kListF, kListO, gLc, gYes, gDc, wipeG, wipeG.stn, put_same, put_put, atI_last, at0, at1, at2, ix0, ix1, ix2, List.set_cons_zero, List.set_cons_succ, Option.some.injEq, Gh.O.lst.injEq, Gh.O.dic.injEq, Gh.D.ptr.injEq, exists_eq_left', exists_eq_left, exists_eq', exists_eq, true_and, and_true, Bool.false_xor, Bool.true_xor, decide_eq_true_eq, decide_eq_false_iff_not, Bool.not_true, Bool.not_false, Bool.false_eq_true, Bool.true_eq_false, false_implies, true_implies, rRepF, and_self, atI_one]
        refine ⟨_, _, _, rfl, .ptr hP7 (.cons (T0.py (py 0)) (.cons (T1.py (py 1)) .nil)), .ptr hQ7 (.cons (.lst (py 0)) (.cons (.lst (py 1)) .nil)), fine_list (fun e he => by
          simp only [List.mem_cons, List.not_mem_nil, or_false] at he
          rcases he with rfl | rfl
          · exact Sm.pair (hbg 0 (by decide)) (hmg 0 (by decide))
          · exact Sm.pair (hbg 1 (by decide)) (hmg 1 (by decide))) (by simp), ?_⟩
        have m0 : mix k bb pw (n + 0) ≤ byp k bb (n + 0) := mix_le_byp hb2
        have m1 : mix k bb pw (n + 0) ≤ n ^ pw := mix_great hn1
        have m2 : byp k bb (n + 0) ≤ byp k bb (n + 1) := byp_mono hk1 hb2 (by omega)
        have m3 : mix k bb pw (n + 0) ≤ mix k bb pw (n + 1) := mix_mono hk1 hb2 (by omega)
        simp only [gSq, gNext, gRet, gRetN, gIfS, gAsg, gPar, gPar3, gDrop, gIfE, gTst, gNot, gAnd, gOr, gAndV, gOrV, gNotV, g2, gVar, gC, gNm, gTp, gTl, gGn, gGc, rN, rM, rQ, rNn, gaNil, gaCons, gTupD, gLstF, gLstO, gCall, gCallK, gCB, Gh.c1, Gh.c2, kInt, kInt2, kToInt, gNeg, lk, stt, startG, List.map, List.replicate, List.length, gAug_, dInt, List.cons_append, List.nil_append, gBreak, gCont, gDPut_, gSubD_, gSubL_, gDGet_, gDIn_, onP, onI, onK, onD, onL, onS, onN, gLM, gLM0, gSlF, gSlO, gNo, gPt, kLen, gNewK, gDs1_, Gh.rIxD, itS, itR, itL, itK, mApp, mExt, mPop, mApp1, mExt1, keyD, isLs, gFor, gWh, giL, giT, giR1, giR2, gRvF, gLrF, gLrO, kListF, kListO, gLc, gYes, gDc, wipeG, wipeG.stn, put_same, put_put, atI_last, at0, at1, at2, ix0, ix1, ix2, List.set_cons_zero, List.set_cons_succ, Option.some.injEq, Gh.O.lst.injEq, Gh.O.dic.injEq, Gh.D.ptr.injEq, exists_eq_left', exists_eq_left, exists_eq', exists_eq, true_and, and_true, Bool.false_xor, Bool.true_xor, decide_eq_true_eq, decide_eq_false_iff_not, Bool.not_true, Bool.not_false, Bool.false_eq_true, Bool.true_eq_false, false_implies, true_implies, rRepF, and_self, atI_one, hQ7, rowP]
        refine ⟨n, pw, rfl, by omega, hp23, ?_⟩
        simp only [gSq, gNext, gRet, gRetN, gIfS, gAsg, gPar, gPar3, gDrop, gIfE, gTst, gNot, gAnd, gOr, gAndV, gOrV, gNotV, g2, gVar, gC, gNm, gTp, gTl, gGn, gGc, rN, rM, rQ, rNn, gaNil, gaCons, gTupD, gLstF, gLstO, gCall, gCallK, gCB, Gh.c1, Gh.c2, kInt, kInt2, kToInt, gNeg, lk, stt, startG, List.map, List.replicate, List.length, gAug_, dInt, List.cons_append, List.nil_append, gBreak, gCont, gDPut_, gSubD_, gSubL_, gDGet_, gDIn_, onP, onI, onK, onD, onL, onS, onN, gLM, gLM0, gSlF, gSlO, gNo, gPt, kLen, gNewK, gDs1_, Gh.rIxD, itS, itR, itL, itK, mApp, mExt, mPop, mApp1, mExt1, keyD, isLs, gFor, gWh, giL, giT, giR1, giR2, gRvF, gLrF, gLrO, kListF, kListO, gLc, gYes, gDc, wipeG, wipeG.stn, put_same, put_put, atI_last, at0, at1, at2, ix0, ix1, ix2, List.set_cons_zero, List.set_cons_succ, Option.some.injEq, Gh.O.lst.injEq, Gh.O.dic.injEq, Gh.D.ptr.injEq, exists_eq_left', exists_eq_left, exists_eq', exists_eq, true_and, and_true, Bool.false_xor, Bool.true_xor, decide_eq_true_eq, decide_eq_false_iff_not, Bool.not_true, Bool.not_false, Bool.false_eq_true, Bool.true_eq_false, false_implies, true_implies, rRepF, and_self, atI_one]
        refine ⟨fun h => ?_, fun _ => hR6 _ _ ?_⟩
        · exfalso
          revert h
          generalize n ^ pw = z at *
          split <;> omega
        refine seq_gen fun R7 hR7 => ?_
        simp only [gSq, gNext, gRet, gRetN, gIfS, gAsg, gPar, gPar3, gDrop, gIfE, gTst, gNot, gAnd, gOr, gAndV, gOrV, gNotV, g2, gVar, gC, gNm, gTp, gTl, gGn, gGc, rN, rM, rQ, rNn, gaNil, gaCons, gTupD, gLstF, gLstO, gCall, gCallK, gCB, Gh.c1, Gh.c2, kInt, kInt2, kToInt, gNeg, lk, stt, startG, List.map, List.replicate, List.length, gAug_, dInt, List.cons_append, List.nil_append, gBreak, gCont, gDPut_, gSubD_, gSubL_, gDGet_, gDIn_, onP, onI, onK, onD, onL, onS, onN, gLM, gLM0, gSlF, gSlO, gNo, gPt, kLen, gNewK, gDs1_, Gh.rIxD, itS, itR, itL, itK, mApp, mExt, mPop, mApp1, mExt1, keyD, isLs, gFor, gWh, giL, giT, giR1, giR2, gRvF, gLrF, gLrO, kListF, kListO, gLc, gYes, gDc, wipeG, wipeG.stn, put_same, put_put, atI_last, at0, at1, at2, ix0, ix1, ix2, List.set_cons_zero, List.set_cons_succ, Option.some.injEq, Gh.O.lst.injEq, Gh.O.dic.injEq, Gh.D.ptr.injEq, exists_eq_left', exists_eq_left, exists_eq', exists_eq, true_and, and_true, Bool.false_xor, Bool.true_xor, decide_eq_true_eq, decide_eq_false_iff_not, Bool.not_true, Bool.not_false, Bool.false_eq_true, Bool.true_eq_false, false_implies, true_implies, rRepF, and_self, atI_one, hQ7, rowP]
        refine ⟨fun h => absurd h (by omega), fun _ => ⟨fun h => absurd h (by omega), fun _ => hR7 _ _ ?_⟩⟩
        refine seq_gen fun R8 hR8 => ?_
        simp only [gSq, gNext, gRet, gRetN, gIfS, gAsg, gPar, gPar3, gDrop, gIfE, gTst, gNot, gAnd, gOr, gAndV, gOrV, gNotV, g2, gVar, gC, gNm, gTp, gTl, gGn, gGc, rN, rM, rQ, rNn, gaNil, gaCons, gTupD, gLstF, gLstO, gCall, gCallK, gCB, Gh.c1, Gh.c2, kInt, kInt2, kToInt, gNeg, lk, stt, startG, List.map, List.replicate, List.length, gAug_, dInt, List.cons_append, List.nil_append, gBreak, gCont, gDPut_, gSubD_, gSubL_, gDGet_, gDIn_, onP, onI, onK, onD, onL, onS, onN, gLM, gLM0, gSlF, gSlO, gNo, gPt, kLen, gNewK, gDs1_, Gh.rIxD, itS, itR, itL, itK, mApp, mExt, mPop, mApp1, mExt1, keyD, isLs, gFor, gWh, giL, giT, giR1, giR2, gRvF, gLrF, gLrO, kListF, kListO, gLc, gYes, gDc, wipeG, wipeG.stn, put_same, put_put, atI_last, at0, at1, at2, ix0, ix1, ix2, List.set_cons_zero, List.set_cons_succ, Option.some.injEq, Gh.O.lst.injEq, Gh.O.dic.injEq, Gh.D.ptr.injEq, exists_eq_left', exists_eq_left, exists_eq', exists_eq, true_and, and_true, Bool.false_xor, Bool.true_xor, decide_eq_true_eq, decide_eq_false_iff_not, Bool.not_true, Bool.not_false, Bool.false_eq_true, Bool.true_eq_false, false_implies, true_implies, rRepF, and_self, atI_one]
        refine hR8 _ _ ?_
        refine seq_gen fun R9 hR9 => ?_
        simp only [gSq, gNext, gRet, gRetN, gIfS, gAsg, gPar, gPar3, gDrop, gIfE, gTst, gNot, gAnd, gOr, gAndV, gOrV, gNotV, g2, gVar, gC, gNm, gTp, gTl, gGn, gGc, rN, rM, rQ, rNn, gaNil, gaCons, gTupD, gLstF, gLstO, gCall, gCallK, gCB, Gh.c1, Gh.c2, kInt, kInt2, kToInt, gNeg, lk, stt, startG, List.map, List.replicate, List.length, gAug_, dInt, List.cons_append, List.nil_append, gBreak, gCont, gDPut_, gSubD_, gSubL_, gDGet_, gDIn_, onP, onI, onK, onD, onL, onS, onN, gLM, gLM0, gSlF, gSlO, gNo, gPt, kLen, gNewK, gDs1_, Gh.rIxD, itS, itR, itL, itK, mApp, mExt, mPop, mApp1, mExt1, keyD, isLs, gFor, gWh, giL, giT, giR1, giR2, gRvF, gLrF, gLrO, kListF, kListO, gLc, gYes, gDc, wipeG, wipeG.stn, put_same, put_put, atI_last, at0, at1, at2, ix0, ix1, ix2, List.set_cons_zero, List.set_cons_succ, Option.some.injEq, Gh.O.lst.injEq, Gh.O.dic.injEq, Gh.D.ptr.injEq, exists_eq_left', exists_eq_left, exists_eq', exists_eq, true_and, and_true, Bool.false_xor, Bool.true_xor, decide_eq_true_eq, decide_eq_false_iff_not, Bool.not_true, Bool.not_false, Bool.false_eq_true, Bool.true_eq_false, false_implies, true_implies, rRepF, and_self, atI_one]
        refine ⟨⟨by decide, by decide, by omega, by omega⟩, fun i Γ' L' => L' = L7 ∧ ∃ (o8 o10 : Option D) (d : D), Γ' = [some (.ptr a), some (.bl b), some (.int k), some (.int bb), some (.int pw), some (.int n), some (.ptr p), some (.ptr q), o8, some d, o10] ∧
          ((d = .non ∧ ∀ j, 2 ≤ j → j < 2 + i → j ^ pw ≤ k) ∨ ∃ m : Nat, d = .int m ∧ 2 ≤ m ∧ m < 2 + i ∧ k < m ^ pw ∧ ∀ j, 2 ≤ j → j < m → j ^ pw ≤ k), ⟨rfl, _, _, _, rfl, .inl ⟨rfl, fun j h1 h2 => by omega⟩⟩, fun _ _ _ _ => trivial, ?_, ?_⟩
        · rintro i d0 _ _ hd ⟨rfl, o8, o10, d, rfl, hcase⟩
          obtain ⟨hi, rfl⟩ := Gh.rngD_get hd
          have hi9 : 2 + i ≤ bb := by omega
          have es : (2 : Int) + (i : Int) = ((2 + i : Nat) : Int) := by rw [Int.natCast_add]; rfl
          rw [es]
          simp only [gSq, gNext, gRet, gRetN, gIfS, gAsg, gPar, gPar3, gDrop, gIfE, gTst, gNot, gAnd, gOr, gAndV, gOrV, gNotV, g2, gVar, gC, gNm, gTp, gTl, gGn, gGc, rN, rM, rQ, rNn, gaNil, gaCons, gTupD, gLstF, gLstO, gCall, gCallK, gCB, Gh.c1, Gh.c2, kInt, kInt2, kToInt, gNeg, lk, stt, startG, List.map, List.replicate, List.length, gAug_, dInt, List.cons_append, List.nil_append, gBreak, gCont, gDPut_, gSubD_, gSubL_, gDGet_, gDIn_, onP, onI, onK, onD, onL, onS, onN, gLM, gLM0, gSlF, gSlO, gNo, gPt, kLen, gNewK, gDs1_, Gh.rIxD, itS, itR, itL, itK, mApp, mExt, mPop, mApp1, mExt1, keyD, isLs, gFor, gWh, giL, giT, giR1, giR2, gRvF, gLrF, gLrO, kListF, kListO, gLc, gYes, gDc, wipeG, wipeG.stn, put_same, put_put, atI_last, at0, at1, at2, ix0, ix1, ix2, List.set_cons_zero, List.set_cons_succ, Option.some.injEq, Gh.O.lst.injEq, Gh.O.dic.injEq, Gh.D.ptr.injEq, exists_eq_left', exists_eq_left, exists_eq', exists_eq, true_and, and_true, Bool.false_xor, Bool.true_xor, decide_eq_true_eq, decide_eq_false_iff_not, Bool.not_true, Bool.not_false, Bool.false_eq_true, Bool.true_eq_false, false_implies, true_implies, rRepF, and_self, atI_one]
          refine ⟨2 + i, bb, rfl, by omega, by omega, ?_⟩
          refine ⟨k, bb, pw, up bb (2 + i), rfl, by omega, hb2, by omega, hp23, up_pos (by omega) (by omega), ?_, ?_⟩
          · rw [up_one (by omega) hi9]; decide
          rw [up_one (by omega) hi9, mix_end (by decide)]
          simp only [gSq, gNext, gRet, gRetN, gIfS, gAsg, gPar, gPar3, gDrop, gIfE, gTst, gNot, gAnd, gOr, gAndV, gOrV, gNotV, g2, gVar, gC, gNm, gTp, gTl, gGn, gGc, rN, rM, rQ, rNn, gaNil, gaCons, gTupD, gLstF, gLstO, gCall, gCallK, gCB, Gh.c1, Gh.c2, kInt, kInt2, kToInt, gNeg, lk, stt, startG, List.map, List.replicate, List.length, gAug_, dInt, List.cons_append, List.nil_append, gBreak, gCont, gDPut_, gSubD_, gSubL_, gDGet_, gDIn_, onP, onI, onK, onD, onL, onS, onN, gLM, gLM0, gSlF, gSlO, gNo, gPt, kLen, gNewK, gDs1_, Gh.rIxD, itS, itR, itL, itK, mApp, mExt, mPop, mApp1, mExt1, keyD, isLs, gFor, gWh, giL, giT, giR1, giR2, gRvF, gLrF, gLrO, kListF, kListO, gLc, gYes, gDc, wipeG, wipeG.stn, put_same, put_put, atI_last, at0, at1, at2, ix0, ix1, ix2, List.set_cons_zero, List.set_cons_succ, Option.some.injEq, Gh.O.lst.injEq, Gh.O.dic.injEq, Gh.D.ptr.injEq, exists_eq_left', exists_eq_left, exists_eq', exists_eq, true_and, and_true, Bool.false_xor, Bool.true_xor, decide_eq_true_eq, decide_eq_false_iff_not, Bool.not_true, Bool.not_false, Bool.false_eq_true, Bool.true_eq_false, false_implies, true_implies, rRepF, and_self, atI_one]
          refine ⟨mulL (by omega) (by omega), 2 + i, pw, rfl, by omega, hp23, ?_⟩
          have ei : ((k : Int) * ((1 : Nat) : Int) < (((2 + i) ^ pw : Nat) : Int)) ↔ k < (2 + i) ^ pw := by
            rw [show ((1 : Nat) : Int) = 1 from rfl, Int.mul_one]; exact Int.ofNat_lt
          simp only [gSq, gNext, gRet, gRetN, gIfS, gAsg, gPar, gPar3, gDrop, gIfE, gTst, gNot, gAnd, gOr, gAndV, gOrV, gNotV, g2, gVar, gC, gNm, gTp, gTl, gGn, gGc, rN, rM, rQ, rNn, gaNil, gaCons, gTupD, gLstF, gLstO, gCall, gCallK, gCB, Gh.c1, Gh.c2, kInt, kInt2, kToInt, gNeg, lk, stt, startG, List.map, List.replicate, List.length, gAug_, dInt, List.cons_append, List.nil_append, gBreak, gCont, gDPut_, gSubD_, gSubL_, gDGet_, gDIn_, onP, onI, onK, onD, onL, onS, onN, gLM, gLM0, gSlF, gSlO, gNo, gPt, kLen, gNewK, gDs1_, Gh.rIxD, itS, itR, itL, itK, mApp, mExt, mPop, mApp1, mExt1, keyD, isLs, gFor, gWh, giL, giT, giR1, giR2, gRvF, gLrF, gLrO, kListF, kListO, gLc, gYes, gDc, wipeG, wipeG.stn, put_same, put_put, atI_last, at0, at1, at2, ix0, ix1, ix2, List.set_cons_zero, List.set_cons_succ, Option.some.injEq, Gh.O.lst.injEq, Gh.O.dic.injEq, Gh.D.ptr.injEq, exists_eq_left', exists_eq_left, exists_eq', exists_eq, true_and, and_true, Bool.false_xor, Bool.true_xor, decide_eq_true_eq, decide_eq_false_iff_not, Bool.not_true, Bool.not_false, Bool.false_eq_true, Bool.true_eq_false, false_implies, true_implies, rRepF, and_self, atI_one, ei]
          generalize hz : (2 + i) ^ pw = z at *
          rcases hcase with ⟨rfl, hall⟩ | ⟨m, rfl, g1, g2, g3, g4⟩
          · simp only [isN]
            refine ⟨fun h => ⟨fun _ => ⟨_, _, _, rfl, .inr ⟨2 + i, rfl, by omega, by omega, by rw [hz]; exact h, hall⟩⟩, fun h => by cases h⟩, fun h => ⟨_, _, _, rfl, .inl ⟨rfl, fun j h1 h2 => ?_⟩⟩⟩
            rcases Nat.lt_or_ge j (2 + i) with q | q
            · exact hall j h1 q
            · have : j = 2 + i := by omega
              rw [this, hz]; omega
          · simp only [isN]
            exact ⟨fun h => ⟨fun h => (by cases h), fun _ => ⟨_, _, _, rfl, .inr ⟨m, rfl, g1, by omega, g3, g4⟩⟩⟩, fun h => ⟨_, _, _, rfl, .inr ⟨m, rfl, g1, by omega, g3, g4⟩⟩⟩
        · rintro _ L8 ⟨e8, o8, o10, d, rfl, hcase⟩
          have hB8 : BagAt a l0 L8 := by rw [e8]; exact hB7
          refine hR9 _ _ ?_
          have hl : (rngD 2 ((bb : Int) + 1 - 2).toNat).length = bb - 1 := by rw [rngD_length]; omega
          have hchp : Chp k bb pw d := by
            rcases hcase with ⟨rfl, hall⟩ | ⟨m, rfl, g1, g2, g3, g4⟩
            · exact .inl ⟨hall bb hb2 (by rw [hl]; omega), rfl⟩
            · exact .inr ⟨m, g1, by rw [hl] at g2; omega, g3, g4, rfl⟩
          refine seq_gen fun R10 hR10 => ?_
          have bse : bb ^ pw ≤ 9 ^ 3 := by
            rcases hp23 with rfl | rfl
            · exact Nat.le_trans (Nat.pow_le_pow_left hb9 2) (by decide)
            · exact Nat.pow_le_pow_left hb9 3
          have hfine : ∃ e, Py L8 d e ∧ fine e := by
            rcases hcase with ⟨rfl, hall⟩ | ⟨m, rfl, g1, g2, g3, g4⟩
            · exact ⟨_, .non, fine_atom Sm.none⟩
            · exact ⟨_, .int _, fine_atom (Sm.nat (by rw [hl] at g2; omega))⟩
          have hlast : R10 [some (.ptr a), some (.bl b), some (.int k), some (.int bb), some (.int pw), some (.int n), some d, some (.ptr q), o8, some d, o10] L8 := by
            refine hR10 _ _ ?_
            obtain ⟨e, he1, he2⟩ := hfine
            simp only [gSq, gNext, gRet, gRetN, gIfS, gAsg, gPar, gPar3, gDrop, gIfE, gTst, gNot, gAnd, gOr, gAndV, gOrV, gNotV, g2, gVar, gC, gNm, gTp, gTl, gGn, gGc, rN, rM, rQ, rNn, gaNil, gaCons, gTupD, gLstF, gLstO, gCall, gCallK, gCB, Gh.c1, Gh.c2, kInt, kInt2, kToInt, gNeg, lk, stt, startG, List.map, List.replicate, List.length, gAug_, dInt, List.cons_append, List.nil_append, gBreak, gCont, gDPut_, gSubD_, gSubL_, gDGet_, gDIn_, onP, onI, onK, onD, onL, onS, onN, gLM, gLM0, gSlF, gSlO, gNo, gPt, kLen, gNewK, gDs1_, Gh.rIxD, itS, itR, itL, itK, mApp, mExt, mPop, mApp1, mExt1, keyD, isLs, gFor, gWh, giL, giT, giR1, giR2, gRvF, gLrF, gLrO, kListF, kListO, gLc, gYes, gDc, wipeG, wipeG.stn, put_same, put_put, atI_last, at0, at1, at2, ix0, ix1, ix2, List.set_cons_zero, List.set_cons_succ, Option.some.injEq, Gh.O.lst.injEq, Gh.O.dic.injEq, Gh.D.ptr.injEq, exists_eq_left', exists_eq_left, exists_eq', exists_eq, true_and, and_true, Bool.false_xor, Bool.true_xor, decide_eq_true_eq, decide_eq_false_iff_not, Bool.not_true, Bool.not_false, Bool.false_eq_true, Bool.true_eq_false, false_implies, true_implies, rRepF, and_self, atI_one]
            refine ⟨d, d, e, rfl, he1, he1, he2, ?_⟩
            simp only [gSq, gNext, gRet, gRetN, gIfS, gAsg, gPar, gPar3, gDrop, gIfE, gTst, gNot, gAnd, gOr, gAndV, gOrV, gNotV, g2, gVar, gC, gNm, gTp, gTl, gGn, gGc, rN, rM, rQ, rNn, gaNil, gaCons, gTupD, gLstF, gLstO, gCall, gCallK, gCB, Gh.c1, Gh.c2, kInt, kInt2, kToInt, gNeg, lk, stt, startG, List.map, List.replicate, List.length, gAug_, dInt, List.cons_append, List.nil_append, gBreak, gCont, gDPut_, gSubD_, gSubL_, gDGet_, gDIn_, onP, onI, onK, onD, onL, onS, onN, gLM, gLM0, gSlF, gSlO, gNo, gPt, kLen, gNewK, gDs1_, Gh.rIxD, itS, itR, itL, itK, mApp, mExt, mPop, mApp1, mExt1, keyD, isLs, gFor, gWh, giL, giT, giR1, giR2, gRvF, gLrF, gLrO, kListF, kListO, gLc, gYes, gDc, wipeG, wipeG.stn, put_same, put_put, atI_last, at0, at1, at2, ix0, ix1, ix2, List.set_cons_zero, List.set_cons_succ, Option.some.injEq, Gh.O.lst.injEq, Gh.O.dic.injEq, Gh.D.ptr.injEq, exists_eq_left', exists_eq_left, exists_eq', exists_eq, true_and, and_true, Bool.false_xor, Bool.true_xor, decide_eq_true_eq, decide_eq_false_iff_not, Bool.not_true, Bool.not_false, Bool.false_eq_true, Bool.true_eq_false, false_implies, true_implies, rRepF, and_self, atI_one]
            refine ⟨bb, pw, rfl, by omega, hp23, ?_⟩
            have hd : isN d = decide (bb ^ pw ≤ k) := by
              rcases hchp with ⟨h1, rfl⟩ | ⟨m, g1, g2, g3, g4, rfl⟩
              · rw [decide_eq_true h1]; rfl
              · have : m ^ pw ≤ bb ^ pw := Nat.pow_le_pow_left g2 pw
                rw [decide_eq_false (by omega)]; rfl
            have hd2 : decide ((((bb ^ pw : Nat)) : Int) ≤ (k : Int)) = decide (bb ^ pw ≤ k) := by rw [decide_eq_decide]; exact Int.ofNat_le
            simp only [gSq, gNext, gRet, gRetN, gIfS, gAsg, gPar, gPar3, gDrop, gIfE, gTst, gNot, gAnd, gOr, gAndV, gOrV, gNotV, g2, gVar, gC, gNm, gTp, gTl, gGn, gGc, rN, rM, rQ, rNn, gaNil, gaCons, gTupD, gLstF, gLstO, gCall, gCallK, gCB, Gh.c1, Gh.c2, kInt, kInt2, kToInt, gNeg, lk, stt, startG, List.map, List.replicate, List.length, gAug_, dInt, List.cons_append, List.nil_append, gBreak, gCont, gDPut_, gSubD_, gSubL_, gDGet_, gDIn_, onP, onI, onK, onD, onL, onS, onN, gLM, gLM0, gSlF, gSlO, gNo, gPt, kLen, gNewK, gDs1_, Gh.rIxD, itS, itR, itL, itK, mApp, mExt, mPop, mApp1, mExt1, keyD, isLs, gFor, gWh, giL, giT, giR1, giR2, gRvF, gLrF, gLrO, kListF, kListO, gLc, gYes, gDc, wipeG, wipeG.stn, put_same, put_put, atI_last, at0, at1, at2, ix0, ix1, ix2, List.set_cons_zero, List.set_cons_succ, Option.some.injEq, Gh.O.lst.injEq, Gh.O.dic.injEq, Gh.D.ptr.injEq, exists_eq_left', exists_eq_left, exists_eq', exists_eq, true_and, and_true, Bool.false_xor, Bool.true_xor, decide_eq_true_eq, decide_eq_false_iff_not, Bool.not_true, Bool.not_false, Bool.false_eq_true, Bool.true_eq_false, false_implies, true_implies, rRepF, and_self, atI_one]
            rw [hd, hd2, decide_eq_true rfl]
            exact rt_in (hp _ hB8)
          simp only [gSq, gNext, gRet, gRetN, gIfS, gAsg, gPar, gPar3, gDrop, gIfE, gTst, gNot, gAnd, gOr, gAndV, gOrV, gNotV, g2, gVar, gC, gNm, gTp, gTl, gGn, gGc, rN, rM, rQ, rNn, gaNil, gaCons, gTupD, gLstF, gLstO, gCall, gCallK, gCB, Gh.c1, Gh.c2, kInt, kInt2, kToInt, gNeg, lk, stt, startG, List.map, List.replicate, List.length, gAug_, dInt, List.cons_append, List.nil_append, gBreak, gCont, gDPut_, gSubD_, gSubL_, gDGet_, gDIn_, onP, onI, onK, onD, onL, onS, onN, gLM, gLM0, gSlF, gSlO, gNo, gPt, kLen, gNewK, gDs1_, Gh.rIxD, itS, itR, itL, itK, mApp, mExt, mPop, mApp1, mExt1, keyD, isLs, gFor, gWh, giL, giT, giR1, giR2, gRvF, gLrF, gLrO, kListF, kListO, gLc, gYes, gDc, wipeG, wipeG.stn, put_same, put_put, atI_last, at0, at1, at2, ix0, ix1, ix2, List.set_cons_zero, List.set_cons_succ, Option.some.injEq, Gh.O.lst.injEq, Gh.O.dic.injEq, Gh.D.ptr.injEq, exists_eq_left', exists_eq_left, exists_eq', exists_eq, true_and, and_true, Bool.false_xor, Bool.true_xor, decide_eq_true_eq, decide_eq_false_iff_not, Bool.not_true, Bool.not_false, Bool.false_eq_true, Bool.true_eq_false, false_implies, true_implies, rRepF, and_self, atI_one]
          refine ⟨fun _ => ?_, fun _ => ?_⟩
          all_goals
            refine ⟨k, bb, pw, rfl, by omega, hb2, by omega, by omega, fun d' hd' => ?_⟩
            have := chp_one hd' hchp
            subst this
            exact hlast
    simp only [gSq, gNext, gRet, gRetN, gIfS, gAsg, gPar, gPar3, gDrop, gIfE, gTst, gNot, gAnd, gOr, gAndV, gOrV, gNotV, g2, gVar, gC, gNm, gTp, gTl, gGn, gGc, rN, rM, rQ, rNn, gaNil, gaCons, gTupD, gLstF, gLstO, gCall, gCallK, gCB, Gh.c1, Gh.c2, kInt, kInt2, kToInt, gNeg, lk, stt, startG, List.map, List.replicate, List.length, gAug_, dInt, List.cons_append, List.nil_append, gBreak, gCont, gDPut_, gSubD_, gSubL_, gDGet_, gDIn_, onP, onI, onK, onD, onL, onS, onN, gLM, gLM0, gSlF, gSlO, gNo, gPt, kLen, gNewK, gDs1_, Gh.rIxD, itS, itR, itL, itK, mApp, mExt, mPop, mApp1, mExt1, keyD, isLs, gFor, gWh, giL, giT, giR1, giR2, gRvF, gLrF, gLrO, kListF, kListO, gLc, gYes, gDc, wipeG, wipeG.stn, put_same, put_put, atI_last, at0, at1, at2, ix0, ix1, ix2, List.set_cons_zero, List.set_cons_succ, Option.some.injEq, Gh.O.lst.injEq, Gh.O.dic.injEq, Gh.D.ptr.injEq, exists_eq_left', exists_eq_left, exists_eq', exists_eq, true_and, and_true, Bool.false_xor, Bool.true_xor, decide_eq_true_eq, decide_eq_false_iff_not, Bool.not_true, Bool.not_false, Bool.false_eq_true, Bool.true_eq_false, false_implies, true_implies, rRepF, and_self, atI_one]
    refine ⟨a, l0, 3, rfl, hB3, by decide, by decide, fun r L4 hr hB4 _ => ?_⟩
    simp only [gSq, gNext, gRet, gRetN, gIfS, gAsg, gPar, gPar3, gDrop, gIfE, gTst, gNot, gAnd, gOr, gAndV, gOrV, gNotV, g2, gVar, gC, gNm, gTp, gTl, gGn, gGc, rN, rM, rQ, rNn, gaNil, gaCons, gTupD, gLstF, gLstO, gCall, gCallK, gCB, Gh.c1, Gh.c2, kInt, kInt2, kToInt, gNeg, lk, stt, startG, List.map, List.replicate, List.length, gAug_, dInt, List.cons_append, List.nil_append, gBreak, gCont, gDPut_, gSubD_, gSubL_, gDGet_, gDIn_, onP, onI, onK, onD, onL, onS, onN, gLM, gLM0, gSlF, gSlO, gNo, gPt, kLen, gNewK, gDs1_, Gh.rIxD, itS, itR, itL, itK, mApp, mExt, mPop, mApp1, mExt1, keyD, isLs, gFor, gWh, giL, giT, giR1, giR2, gRvF, gLrF, gLrO, kListF, kListO, gLc, gYes, gDc, wipeG, wipeG.stn, put_same, put_put, atI_last, at0, at1, at2, ix0, ix1, ix2, List.set_cons_zero, List.set_cons_succ, Option.some.injEq, Gh.O.lst.injEq, Gh.O.dic.injEq, Gh.D.ptr.injEq, exists_eq_left', exists_eq_left, exists_eq', exists_eq, true_and, and_true, Bool.false_xor, Bool.true_xor, decide_eq_true_eq, decide_eq_false_iff_not, Bool.not_true, Bool.not_false, Bool.false_eq_true, Bool.true_eq_false, false_implies, true_implies, rRepF, and_self, atI_one]
    refine ⟨fun _ => ?_, fun _ => rest k0 L4 (by omega) (by omega) hB4⟩
    refine ⟨bb, pw, rfl, by omega, hp23, ?_⟩
    refine ⟨a, l0, 2, rfl, hB4, by decide, by decide, fun r5 L5 hr5 hB5 _ => ?_⟩
    simp only [gSq, gNext, gRet, gRetN, gIfS, gAsg, gPar, gPar3, gDrop, gIfE, gTst, gNot, gAnd, gOr, gAndV, gOrV, gNotV, g2, gVar, gC, gNm, gTp, gTl, gGn, gGc, rN, rM, rQ, rNn, gaNil, gaCons, gTupD, gLstF, gLstO, gCall, gCallK, gCB, Gh.c1, Gh.c2, kInt, kInt2, kToInt, gNeg, lk, stt, startG, List.map, List.replicate, List.length, gAug_, dInt, List.cons_append, List.nil_append, gBreak, gCont, gDPut_, gSubD_, gSubL_, gDGet_, gDIn_, onP, onI, onK, onD, onL, onS, onN, gLM, gLM0, gSlF, gSlO, gNo, gPt, kLen, gNewK, gDs1_, Gh.rIxD, itS, itR, itL, itK, mApp, mExt, mPop, mApp1, mExt1, keyD, isLs, gFor, gWh, giL, giT, giR1, giR2, gRvF, gLrF, gLrO, kListF, kListO, gLc, gYes, gDc, wipeG, wipeG.stn, put_same, put_put, atI_last, at0, at1, at2, ix0, ix1, ix2, List.set_cons_zero, List.set_cons_succ, Option.some.injEq, Gh.O.lst.injEq, Gh.O.dic.injEq, Gh.D.ptr.injEq, exists_eq_left', exists_eq_left, exists_eq', exists_eq, true_and, and_true, Bool.false_xor, Bool.true_xor, decide_eq_true_eq, decide_eq_false_iff_not, Bool.not_true, Bool.not_false, Bool.false_eq_true, Bool.true_eq_false, false_implies, true_implies, rRepF, and_self, atI_one]
    have e : ∀ x : Nat, (if (if (x : Int) - (r5 : Int) > 1 then (x : Int) - (r5 : Int) else 1) < 64 then if (x : Int) - (r5 : Int) > 1 then (x : Int) - (r5 : Int) else 1 else 64) = ((min 64 (max 1 (x - r5)) : Nat) : Int) := by
      intro x
      split <;> split <;> omega
    rw [e]
    exact rest _ L5 (by omega) (by omega) hB5
end
end K06

namespace K06
open PySem PySem.Spec L2 Gh
theorem way_one {n : Nat} (h : n ≤ 1) : wayS n = "one" := by unfold wayS; rw [if_pos h]
def wa (n : Nat) : Nat := 2 * sv ((n + 1) / 2) + sv (n / 2)
theorem wsum_a (n : Nat) : wsum ("halves", [((n + 1) / 2, 2), (n / 2, 1)]) = wa n := by
  show 2 * sv ((n + 1) / 2) + (1 * sv (n / 2) + 0) = _
  unfold wa; omega
theorem wsum_b (n : Nat) : wsum ("thirds", [((n + 2) / 3, 6)]) = 6 * sv ((n + 2) / 3) := by
  show 6 * sv ((n + 2) / 3) + 0 = _
  omega
theorem way_at {n : Nat} (h : 1 < n) : wayS n = if wa n = sv n then "halves" else if 2 < n ∧ 6 * sv ((n + 2) / 3) = sv n then "thirds" else "plain" := by
  unfold wayS
  rw [if_neg (by omega)]
  unfold pts
  by_cases q : wa n = sv n
  · rw [if_pos q, List.find?_cons, wsum_a, decide_eq_true q]
  · rw [if_neg q, List.find?_cons, wsum_a, decide_eq_false q]
    by_cases z : 2 < n
    · rw [if_pos z]
      by_cases r : 6 * sv ((n + 2) / 3) = sv n
      · rw [if_pos ⟨z, r⟩]
        simp only [List.find?_cons, wsum_b, r, decide_true]
      · rw [if_neg (fun h => r h.2)]
        simp only [List.find?_cons, wsum_b, r, decide_false, List.find?_nil]
    · rw [if_neg z, if_neg (fun h => z h.1)]
      rfl
theorem Sm.way (n : Nat) : Sm (.str (wayS n)) := by
  have h1 : Sm (.str "one") := ⟨by decide +kernel, by rw [PyData.depth]; omega, by decide +kernel⟩
  have h2 : Sm (.str "halves") := ⟨by decide +kernel, by rw [PyData.depth]; omega, by decide +kernel⟩
  have h3 : Sm (.str "thirds") := ⟨by decide +kernel, by rw [PyData.depth]; omega, by decide +kernel⟩
  have h4 : Sm (.str "plain") := ⟨by decide +kernel, by rw [PyData.depth]; omega, by decide +kernel⟩
  rcases Nat.lt_or_ge 1 n with q | q
  · rw [way_at q]
    split
    · exact h2
    · split
      · exact h3
      · exact h4
  · rw [way_one q]; exact h1
def threeE (n : Nat) : List PyData := [.int (wa n : Nat), if 2 < n then .int ((6 * sv ((n + 2) / 3) : Nat)) else .none, .int ((n * n : Nat))]
theorem eqv_i (x y : Int) : PyData.eqv (.int x) (.int y) = decide (x = y) := by
  rw [PyData.eqv]; by_cases h : x = y <;> simp [h]
theorem eqv_n (y : Int) : PyData.eqv .none (.int y) = false := by rw [PyData.eqv]
theorem shaped_three (n : Nat) : SeqAt.shaped (.list (threeE n)) = true := by
  unfold SeqAt.shaped threeE
  split
  · simp only [PyData.canLay0, PyData.canLayAll0, PyData.depth, PyData.depthAll]; rfl
  · simp only [PyData.canLay0, PyData.canLayAll0, PyData.depth, PyData.depthAll]; rfl
theorem ints_ne {x y : Nat} (h : x ≠ y) : PyData.eqv (.int (x : Nat)) (.int (y : Nat)) = false := by
  rw [eqv_i]; exact decide_eq_false fun e => h (by omega)
theorem ints_eq {x y : Nat} (h : x = y) : PyData.eqv (.int (x : Nat)) (.int (y : Nat)) = true := by
  rw [eqv_i]; exact decide_eq_true (by rw [h])
theorem three_at {n : Nat} (h : 1 < n) : ∃ (j : Nat) (z : PyData), (threeE n)[j]? = some z ∧ PyData.eqv z (.int (sv n : Nat)) = true ∧ (∀ (m : Nat) (z' : PyData), m < j → (threeE n)[m]? = some z' → PyData.eqv z' (.int (sv n : Nat)) = false) ∧
    atI [D.str "halves", D.str "thirds", D.str "plain"] (j : Nat) = some (.str (wayS n)) := by
  rw [way_at h]
  by_cases q : wa n = sv n
  · rw [if_pos q]
    exact ⟨0, _, rfl, ints_eq q, fun m z' hm => by omega, atI_nat rfl⟩
  · rw [if_neg q]
    by_cases r : 2 < n ∧ 6 * sv ((n + 2) / 3) = sv n
    · rw [if_pos r]
      refine ⟨1, .int ((6 * sv ((n + 2) / 3) : Nat)), by unfold threeE; rw [if_pos r.1]; rfl, ints_eq r.2, fun m z' hm hz => ?_, atI_nat rfl⟩
      have : m = 0 := by omega
      subst this
      cases hz
      exact ints_ne q
    · rw [if_neg r]
      have e : n * n = sv n := by
        have h1 := sv_more h
        have h2 : wa n = 2 * sv ((n + 1) / 2) + sv (n / 2) := rfl
        split at h1
        · rename_i z
          have : ¬ 6 * sv ((n + 2) / 3) = sv n := fun e => r ⟨z, e⟩
          omega
        · omega
      refine ⟨2, .int ((n * n : Nat)), rfl, ints_eq e, fun m z' hm hz => ?_, atI_nat rfl⟩
      rcases m with _ | _ | m
      · cases hz
        exact ints_ne q
      · have hz : (if 2 < n then PyData.int ((6 * sv ((n + 2) / 3) : Nat)) else .none) = z' := Option.some.inj hz
        subst hz
        split
        · rename_i z
          exact ints_ne fun e => r ⟨z, e⟩
        · exact eqv_n _
      · omega
variable [KK]
section
variable {P : Program} {w : World} {mg : Str → Option Value} {base : Heap}
theorem py_three (L : Led) (n : Nat) : PyA L (threeD n) (threeE n) := by
  unfold threeD threeE
  refine .cons (.int _) (.cons ?_ (.cons (.int _) .nil))
  split
  · exact .int _
  · exact .non
set_option maxHeartbeats 0 in
theorem ok__law_are_splits_right  (c__law_size : Cal P w mg base 2 "_law_size" "_law_size" s__law_size ["bag", "base", "most"] fs__law_size) (c__law_pick : Cal P w mg base 2 "_law_pick" "_law_pick" s__law_pick ["bag", "some"] fs__law_pick) (c__law_split : Cal P w mg base 70 "_law_split" "_law_split" s__law_split ["n", "known"] (fs__law_split 28)) (c__law_mixed : Cal P w mg base 2 "_law_mixed" "_law_mixed" s__law_mixed ["many", "base", "power", "n"] fs__law_mixed) (c__law_three_ways : Cal P w mg base 70 "_law_three_ways" "_law_three_ways" s__law_three_ways ["n", "known"] (fs__law_three_ways 27)) (c_split_count : Cal P w mg base 3 "split_count" "split_count" s_split_count ["n"] fs_split_count) (c_products_mixed : Cal P w mg base 2 "products_mixed" "products_mixed" s_products_mixed ["many", "base", "power", "n"] fs_products_mixed) (c_split_way : Cal P w mg base 3 "split_way" "split_way" s_split_way ["n"] fs_split_way) (c__law_halves : Cal P w mg base 70 "_law_halves" "_law_halves" s__law_halves ["n", "known"] (fs__law_halves 61)) (c__law_same : Cal P w mg base 1 "_law_same" "_law_same" s__law_same ["told", "due"] fs__law_same) (i : ∃ (f : Addr) (fd : FuncData), FunD KK.K "_law_are_splits_right" "_law_are_splits_right" (defArgs s__law_are_splits_right) (defBody s__law_are_splits_right) (defScope s__law_are_splits_right) [] [] f fd ∧ mg "_law_are_splits_right" = some (.ref f)) : Cal P w mg base 71 "_law_are_splits_right" "_law_are_splits_right" s__law_are_splits_right ["bag", "is_named"] fs__law_are_splits_right := by
  obtain ⟨f, fd, DD, hm⟩ := i
  refine ⟨f, fd, DD, fn_G (k := 70) DD sc__law_are_splits_right ?len (fun cdv A outer s H hG hR => (s_cons (s_par3 (n := 2) (m := 3) (l := 4) (fun _ => rfl) (fun _ => sc__law_are_splits_right.nd) (fun _ => rfl) (fun _ => rfl) (fun _ => rfl) (by decide) (by decide) (by decide) (fun _ => rfl) (fun _ => rfl) (fun _ => rfl) (a_cons (g_c (fun _ => rfl) (fun _ => hG) (fun _ => hR.mono (by decide)) (fun _ => c__law_size) bd__law_size (a_cons (gv 0) (a_cons (g_c (fun _ => rfl) (fun _ => hG) (fun _ => hR.mono (by decide)) (fun _ => c__law_pick) bd__law_pick (a_cons (gv 0) (a_cons (g_lstF (a_cons g_int (a_cons g_int a_nil))) a_nil))) (a_cons (g_pow g_int g_int) a_nil)))) (a_cons g_newK (a_cons g_int a_nil))))
    (s_cons (s_for (fun _ => PassesOwn.never) (fun _ => rfl) (i_tup (fun _ => rfl) (g_tup (a_cons (gv 2) (a_cons (g_add (gv 2) g_int) a_nil)))) (t_nm (fun _ => sc__law_are_splits_right.nd) (fun _ => rfl) (fun _ => by first | exact Or.inl rfl | exact Or.inr rfl) (i := 5)) (s_cons (s_par (n := 6) (m := 7) (fun _ => rfl) (fun _ => sc__law_are_splits_right.nd) (fun _ => rfl) (fun _ => rfl) (by decide) (fun _ => rfl) (fun _ => rfl) (a_cons (g_lstF (a_cons (g_c (fun _ => rfl) (fun _ => hG) (fun _ => hR.mono (by decide)) (fun _ => c__law_split) bd__law_split (a_cons (gv 5) (a_cons (gv 3) a_nil))) (a_cons (g_c (fun _ => rfl) (fun _ => hG) (fun _ => hR.mono (by decide)) (fun _ => c__law_mixed) bd__law_mixed (a_cons g_int (a_cons g_int (a_cons g_int (a_cons (gv 5) a_nil))))) a_nil))) (a_cons g_str a_nil)))
    (s_cons (s_if (b_gt (gv 5) g_int) (s_one (s_set (n := 7) (fun _ => sc__law_are_splits_right.nd) (fun _ => rfl) (fun _ => by first | exact Or.inl rfl | exact Or.inr rfl) (g_ix (fun _ => rfl) (g_lstF (a_cons g_str (a_cons g_str (a_cons g_str a_nil)))) (g_idxD (fun _ => rfl) (fun _ => hu_of2 hR) (g_c (fun _ => rfl) (fun _ => hG) (fun _ => hR.mono (by decide)) (fun _ => c__law_three_ways) bd__law_three_ways (a_cons (gv 5) (a_cons (gv 3) a_nil))) (a_cons (g_ix (fun _ => rfl) (gv 6) g_int (fun _ _ => rfl)) a_nil)) (fun _ _ => rfl)))) s_nil)
    (s_cons (s_set (n := 8) (fun _ => sc__law_are_splits_right.nd) (fun _ => rfl) (fun _ => by first | exact Or.inl rfl | exact Or.inr rfl) (g_lstF (a_cons (g_c (fun _ => rfl) (fun _ => hG) (fun _ => hR.mono (by decide)) (fun _ => c_split_count) bd_split_count (a_cons (gv 5) a_nil)) (a_cons (g_c (fun _ => rfl) (fun _ => hG) (fun _ => hR.mono (by decide)) (fun _ => c_products_mixed) bd_products_mixed (a_cons g_int (a_cons g_int (a_cons g_int (a_cons (gv 5) a_nil))))) (a_cons (g_c (fun _ => rfl) (fun _ => hG) (fun _ => hR.mono (by decide)) (fun _ => c_split_way) bd_split_way (a_cons (gv 5) a_nil)) a_nil)))))
    (s_cons (s_if (b_val (gv 1)) (s_one (s_set (n := 8) (fun _ => sc__law_are_splits_right.nd) (fun _ => rfl) (fun _ => by first | exact Or.inl rfl | exact Or.inr rfl) (g_lstF (a_cons (g_ck0 (fun _ => rfl) (fun _ => hG) (fun _ => hR.mono (by decide)) (fun _ => c_split_count) kb_split_count_0_0 (k_cons (gv 5) k_nil)) (a_cons (g_ck0 (fun _ => rfl) (fun _ => hG) (fun _ => hR.mono (by decide)) (fun _ => c_products_mixed) kb_products_mixed_0_0_1_2_3 (k_cons g_int (k_cons g_int (k_cons g_int (k_cons (gv 5) k_nil))))) (a_cons (g_ck0 (fun _ => rfl) (fun _ => hG) (fun _ => hR.mono (by decide)) (fun _ => c_split_way) kb_split_way_0_0 (k_cons (gv 5) k_nil)) a_nil)))))) s_nil)
    (s_cons (s_if (b_w (w_or (b_not (b_val (g_c (fun _ => rfl) (fun _ => hG) (fun _ => hR.mono (by decide)) (fun _ => c__law_same) bd__law_same (a_cons (gv 8) (a_cons (g_catF (gv 6) (g_lstF (a_cons (gv 7) a_nil))) a_nil))))) (w_or (b_gt (g_ix (fun _ => rfl) (gv 6) g_int (fun _ _ => rfl)) (g_ix (fun _ => rfl) (gv 6) g_int (fun _ _ => rfl))) (w_or (b_lt (g_ix (fun _ => rfl) (gv 6) g_int (fun _ _ => rfl)) (gv 4)) (w_or1 (b_gt (g_ix (fun _ => rfl) (gv 6) g_int (fun _ _ => rfl)) (g_c (fun _ => rfl) (fun _ => hG) (fun _ => hR.mono (by decide)) (fun _ => c__law_halves) bd__law_halves (a_cons (gv 5) (a_cons g_newK a_nil))))))))) (s_one (s_ret g_bl)) s_nil)
    (s_one (s_par (n := 4) (m := 1) (fun _ => rfl) (fun _ => sc__law_are_splits_right.nd) (fun _ => rfl) (fun _ => rfl) (by decide) (fun _ => rfl) (fun _ => rfl) (a_cons (g_ix (fun _ => rfl) (gv 6) g_int (fun _ _ => rfl)) (a_cons (g_not (gv 1)) a_nil))))))))))
    (s_one (s_ret g_bl))))) ?main, hm⟩
  case len => intro ds L post h; unfold fs__law_are_splits_right at h; repeat (first | (obtain ⟨rfl, _⟩ := h; rfl) | (obtain ⟨_, h⟩ := h))
  case main =>
    rintro ds L post ⟨a, l0, b, rfl, hB, hp⟩
    have sl : ∀ k, k ≤ 100 → k ≤ sizeLine := fun k h => by rw [sizeLine_eq]; omega
    have e8 : (10 : Int) ^ Int.toNat 8 = ((100000000 : Nat) : Int) := by decide
    refine seq_gen fun R1 hR1 => ?_
    simp only [gSq, gNext, gRet, gRetN, gIfS, gAsg, gPar, gPar3, gDrop, gIfE, gTst, gNot, gAnd, gOr, gAndV, gOrV, gNotV, g2, gVar, gC, gNm, gTp, gTl, gGn, gGc, rN, rM, rQ, rNn, gaNil, gaCons, gTupD, gLstF, gLstO, gCall, gCallK, gCB, Gh.c1, Gh.c2, kInt, kInt2, kToInt, gNeg, lk, stt, startG, List.map, List.replicate, List.length, gAug_, dInt, List.cons_append, List.nil_append, gBreak, gCont, gDPut_, gSubD_, gSubL_, gDGet_, gDIn_, onP, onI, onK, onD, onL, onS, onN, gLM, gLM0, gSlF, gSlO, gNo, gPt, kLen, gNewK, gDs1_, Gh.rIxD, itS, itR, itL, itK, mApp, mExt, mPop, mApp1, mExt1, keyD, isLs, gFor, gWh, giL, giT, giR1, giR2, gRvF, gLrF, gLrO, kListF, kListO, gLc, gYes, gDc, wipeG, wipeG.stn, put_same, put_put, atI_last, at0, at1, at2, ix0, ix1, ix2, List.set_cons_zero, List.set_cons_succ, Option.some.injEq, Gh.O.lst.injEq, Gh.O.dic.injEq, Gh.D.ptr.injEq, exists_eq_left', exists_eq_left, exists_eq', exists_eq, true_and, and_true, Bool.false_xor, Bool.true_xor, decide_eq_true_eq, decide_eq_false_iff_not, Bool.not_true, Bool.not_false, Bool.false_eq_true, Bool.true_eq_false, false_implies, true_implies, rRepF, and_self, atI_one, e8]
    refine ⟨sl _ (by decide), a, l0, _, rfl, hB, by simp, by simp, fun d L1 hd hB1 _ => ?_⟩
    obtain ⟨bb, rfl, hb2, hb3⟩ : ∃ bb : Nat, d = .int bb ∧ 2 ≤ bb ∧ bb ≤ 3 := by
      simp only [List.mem_cons, List.not_mem_nil, or_false] at hd
      rcases hd with rfl | rfl
      · exact ⟨2, rfl, by decide, by decide⟩
      · exact ⟨3, rfl, by decide, by decide⟩
    refine ⟨⟨by decide, by decide, by decide⟩, a, l0, bb, 100000000, rfl, hB1, hb2, by omega, by decide, by decide, fun n L2 hn1 hn2 hB2 _ => ?_⟩
    simp only [gSq, gNext, gRet, gRetN, gIfS, gAsg, gPar, gPar3, gDrop, gIfE, gTst, gNot, gAnd, gOr, gAndV, gOrV, gNotV, g2, gVar, gC, gNm, gTp, gTl, gGn, gGc, rN, rM, rQ, rNn, gaNil, gaCons, gTupD, gLstF, gLstO, gCall, gCallK, gCB, Gh.c1, Gh.c2, kInt, kInt2, kToInt, gNeg, lk, stt, startG, List.map, List.replicate, List.length, gAug_, dInt, List.cons_append, List.nil_append, gBreak, gCont, gDPut_, gSubD_, gSubL_, gDGet_, gDIn_, onP, onI, onK, onD, onL, onS, onN, gLM, gLM0, gSlF, gSlO, gNo, gPt, kLen, gNewK, gDs1_, Gh.rIxD, itS, itR, itL, itK, mApp, mExt, mPop, mApp1, mExt1, keyD, isLs, gFor, gWh, giL, giT, giR1, giR2, gRvF, gLrF, gLrO, kListF, kListO, gLc, gYes, gDc, wipeG, wipeG.stn, put_same, put_put, atI_last, at0, at1, at2, ix0, ix1, ix2, List.set_cons_zero, List.set_cons_succ, Option.some.injEq, Gh.O.lst.injEq, Gh.O.dic.injEq, Gh.D.ptr.injEq, exists_eq_left', exists_eq_left, exists_eq', exists_eq, true_and, and_true, Bool.false_xor, Bool.true_xor, decide_eq_true_eq, decide_eq_false_iff_not, Bool.not_true, Bool.not_false, Bool.false_eq_true, Bool.true_eq_false, false_implies, true_implies, rRepF, and_self, atI_one]
    intro z hz0
    refine hR1 _ _ ?_
    refine seq_gen fun R2 hR2 => ?_
    have nz := hB2.not hz0
    have hB3 := hB2.put (o := .dic (dk svD [])) nz
    have hZ3 : (put L2 z (.dic (dk svD []))) z = some (.dic (dk svD [])) := put_same
    have ed : dk svD [] = [] := rfl
    rw [ed] at hB3 hZ3
    generalize put L2 z (.dic []) = L3 at *
    simp only [gNext, gRet, gRetN, gIfS, gAsg, gPar, gPar3, gDrop, gIfE, gTst, gNot, gAnd, gOr, gAndV, gOrV, gNotV, g2, gVar, gC, gNm, gTp, gTl, gGn, gGc, rN, rM, rQ, rNn, gaNil, gaCons, gTupD, gLstF, gLstO, gCall, gCallK, gCB, Gh.c1, Gh.c2, kInt, kInt2, kToInt, gNeg, lk, stt, startG, List.map, List.replicate, List.length, gAug_, dInt, List.cons_append, List.nil_append, gBreak, gCont, gDPut_, gSubD_, gSubL_, gDGet_, gDIn_, onP, onI, onK, onD, onL, onS, onN, gLM, gLM0, gSlF, gSlO, gNo, gPt, kLen, gNewK, gDs1_, Gh.rIxD, itS, itR, itL, itK, mApp, mExt, mPop, mApp1, mExt1, keyD, isLs, gFor, gWh, giL, giT, giR1, giR2, gRvF, gLrF, gLrO, kListF, kListO, gLc, gYes, gDc, wipeG, wipeG.stn, put_same, put_put, atI_last, at0, at1, at2, ix0, ix1, ix2, List.set_cons_zero, List.set_cons_succ, Option.some.injEq, Gh.O.lst.injEq, Gh.O.dic.injEq, Gh.D.ptr.injEq, exists_eq_left', exists_eq_left, exists_eq', exists_eq, true_and, and_true, Bool.false_xor, Bool.true_xor, decide_eq_true_eq, decide_eq_false_iff_not]
    refine ⟨sl _ (by decide), fun t Γ' L' => BagAt a l0 L' ∧ (∃ ks, L' z = some (.dic (dk svD ks)) ∧ Keys n ks) ∧ ∃ (b' : Bool) (ah : Nat) (o5 o6 o7 o8 : Option D), ah ≤ sv (n + t) ∧ Γ' = [some (.ptr a), some (.bl b'), some (.int n), some (.ptr z), some (.int ah), o5, o6, o7, o8], ⟨hB3, ⟨[], hZ3, Keys.nil⟩, b, 0, none, none, none, none, Nat.zero_le _, rfl⟩, fun _ _ _ _ => trivial, ?_, ?_⟩
    · rintro t d _ L4 hd ⟨hB4, ⟨ks, hZ4, hK4⟩, b', ah, o5, o6, o7, o8, hah, rfl⟩
      obtain ⟨ht, rfl⟩ := pair_get hd
      have s1 : 1 ≤ n + t := by omega
      have s2 : n + t ≤ 2 ^ 27 := by omega
      have s3 : n + t < 2 ^ 61 := by omega
      have s4 : n + t < 2 ^ 62 := by omega
      have hnf : n + t ∈ fam n := fam_top (by omega)
      have hN : n < 2 ^ 61 := by omega
      refine seq_gen fun R3 hR3 => ?_
      simp only [gSq, gNext, gRet, gRetN, gIfS, gAsg, gPar, gPar3, gDrop, gIfE, gTst, gNot, gAnd, gOr, gAndV, gOrV, gNotV, g2, gVar, gC, gNm, gTp, gTl, gGn, gGc, rN, rM, rQ, rNn, gaNil, gaCons, gTupD, gLstF, gLstO, gCall, gCallK, gCB, Gh.c1, Gh.c2, kInt, kInt2, kToInt, gNeg, lk, stt, startG, List.map, List.replicate, List.length, gAug_, dInt, List.cons_append, List.nil_append, gBreak, gCont, gDPut_, gSubD_, gSubL_, gDGet_, gDIn_, onP, onI, onK, onD, onL, onS, onN, gLM, gLM0, gSlF, gSlO, gNo, gPt, kLen, gNewK, gDs1_, Gh.rIxD, itS, itR, itL, itK, mApp, mExt, mPop, mApp1, mExt1, keyD, isLs, gFor, gWh, giL, giT, giR1, giR2, gRvF, gLrF, gLrO, kListF, kListO, gLc, gYes, gDc, wipeG, wipeG.stn, put_same, put_put, atI_last, at0, at1, at2, ix0, ix1, ix2, List.set_cons_zero, List.set_cons_succ, Option.some.injEq, Gh.O.lst.injEq, Gh.O.dic.injEq, Gh.D.ptr.injEq, exists_eq_left', exists_eq_left, exists_eq', exists_eq, true_and, and_true, Bool.false_xor, Bool.true_xor, decide_eq_true_eq, decide_eq_false_iff_not, Bool.not_true, Bool.not_false, Bool.false_eq_true, Bool.true_eq_false, false_implies, true_implies, rRepF, and_self, atI_one]
      refine ⟨n + t, n, z, ks, rfl, ⟨27, rfl, s2⟩, hZ4, hK4, hN, hnf, s1, s3, fun ks1 hK5 => ?_⟩
      have hB5 := hB4.put (o := .dic (dk svD ks1)) nz
      have hZ5 : (put L4 z (.dic (dk svD ks1))) z = some (.dic (dk svD ks1)) := put_same
      generalize put L4 z (.dic (dk svD ks1)) = L5 at *
      refine ⟨3, 2, 2, n + t, rfl, by decide, by decide, by decide, .inl rfl, s1, s4, sl _ (by decide), hR3 _ _ ?_⟩
      refine seq_gen fun R4 hR4 => ?_
      obtain ⟨s, hs⟩ : ∃ s, s = n + t := ⟨_, rfl⟩
      rw [← hs] at s1 s2 s3 s4 hnf hah ⊢
      have tail : ∀ (L6 : Led) (ks2 : List Nat), BagAt a l0 L6 → L6 z = some (.dic (dk svD ks2)) → Keys n ks2 → R4 [some (.ptr a), some (.bl b'), some (.int n), some (.ptr z), some (.int ah), some (.int (s : Nat)), some (.lst [.int (sv s : Nat), .int (mix 3 2 2 s : Nat)]), some (.str (wayS s)), o8] L6 := by
        intro L6 ks2 hB6 hZ6 hK6
        refine hR4 _ _ ?_
        refine seq_gen fun R5 hR5 => ?_
        simp only [gSq, gNext, gRet, gRetN, gIfS, gAsg, gPar, gPar3, gDrop, gIfE, gTst, gNot, gAnd, gOr, gAndV, gOrV, gNotV, g2, gVar, gC, gNm, gTp, gTl, gGn, gGc, rN, rM, rQ, rNn, gaNil, gaCons, gTupD, gLstF, gLstO, gCall, gCallK, gCB, Gh.c1, Gh.c2, kInt, kInt2, kToInt, gNeg, lk, stt, startG, List.map, List.replicate, List.length, gAug_, dInt, List.cons_append, List.nil_append, gBreak, gCont, gDPut_, gSubD_, gSubL_, gDGet_, gDIn_, onP, onI, onK, onD, onL, onS, onN, gLM, gLM0, gSlF, gSlO, gNo, gPt, kLen, gNewK, gDs1_, Gh.rIxD, itS, itR, itL, itK, mApp, mExt, mPop, mApp1, mExt1, keyD, isLs, gFor, gWh, giL, giT, giR1, giR2, gRvF, gLrF, gLrO, kListF, kListO, gLc, gYes, gDc, wipeG, wipeG.stn, put_same, put_put, atI_last, at0, at1, at2, ix0, ix1, ix2, List.set_cons_zero, List.set_cons_succ, Option.some.injEq, Gh.O.lst.injEq, Gh.O.dic.injEq, Gh.D.ptr.injEq, exists_eq_left', exists_eq_left, exists_eq', exists_eq, true_and, and_true, Bool.false_xor, Bool.true_xor, decide_eq_true_eq, decide_eq_false_iff_not, Bool.not_true, Bool.not_false, Bool.false_eq_true, Bool.true_eq_false, false_implies, true_implies, rRepF, and_self, atI_one]
        refine ⟨s, rfl, s1, s3, 3, 2, 2, s, rfl, by decide, by decide, by decide, by decide, s1, s4, s, rfl, s1, s3, sl _ (by decide), hR5 _ _ ?_⟩
        refine seq_gen fun R6 hR6 => ?_
        have last : R6 [some (.ptr a), some (.bl b'), some (.int n), some (.ptr z), some (.int ah), some (.int (s : Nat)), some (.lst [.int (sv s : Nat), .int (mix 3 2 2 s : Nat)]), some (.str (wayS s)), some (.lst [.int (sv s : Nat), .int (mix 3 2 2 s : Nat), .str (wayS s)])] L6 := by
          refine hR6 _ _ ?_
          have q1 := sv_le_mix s
          have q2 := sv_le_hv s
          have q3 : hv s < 10 ^ 90 := hv_great s2 (by decide)
          have q4 : mix 3 2 2 s < 10 ^ 90 := by
            have h1 := mix_great (k := 3) (b := 2) (p := 2) s1
            have h2 : s ^ 2 ≤ (2 ^ 27) ^ 2 := Nat.pow_le_pow_left s2 2
            have e : ((2 : Nat) ^ 27) ^ 2 < 10 ^ 90 := by decide
            omega
          simp only [gSq, gNext, gRet, gRetN, gIfS, gAsg, gPar, gPar3, gDrop, gIfE, gTst, gNot, gAnd, gOr, gAndV, gOrV, gNotV, g2, gVar, gC, gNm, gTp, gTl, gGn, gGc, rN, rM, rQ, rNn, gaNil, gaCons, gTupD, gLstF, gLstO, gCall, gCallK, gCB, Gh.c1, Gh.c2, kInt, kInt2, kToInt, gNeg, lk, stt, startG, List.map, List.replicate, List.length, gAug_, dInt, List.cons_append, List.nil_append, gBreak, gCont, gDPut_, gSubD_, gSubL_, gDGet_, gDIn_, onP, onI, onK, onD, onL, onS, onN, gLM, gLM0, gSlF, gSlO, gNo, gPt, kLen, gNewK, gDs1_, Gh.rIxD, itS, itR, itL, itK, mApp, mExt, mPop, mApp1, mExt1, keyD, isLs, gFor, gWh, giL, giT, giR1, giR2, gRvF, gLrF, gLrO, kListF, kListO, gLc, gYes, gDc, wipeG, wipeG.stn, put_same, put_put, atI_last, at0, at1, at2, ix0, ix1, ix2, List.set_cons_zero, List.set_cons_succ, Option.some.injEq, Gh.O.lst.injEq, Gh.O.dic.injEq, Gh.D.ptr.injEq, exists_eq_left', exists_eq_left, exists_eq', exists_eq, true_and, and_true, Bool.false_xor, Bool.true_xor, decide_eq_true_eq, decide_eq_false_iff_not, Bool.not_true, Bool.not_false, Bool.false_eq_true, Bool.true_eq_false, false_implies, true_implies, rRepF, and_self, atI_one, rCatF]
          refine ⟨sl _ (by decide), sl _ (by decide), ?_⟩
          refine ⟨_, _, .list [.int (sv s : Nat), .int (mix 3 2 2 s : Nat), .str (wayS s)], rfl, .lst (.cons (.int _) (.cons (.int _) (.cons (.str _) .nil))), .lst (.cons (.int _) (.cons (.int _) (.cons (.str _) .nil))), fine_list (fun e he => by
            simp only [List.mem_cons, List.not_mem_nil, or_false] at he
            rcases he with rfl | rfl | rfl
            · exact Sm.nat (by omega)
            · exact Sm.nat q4
            · exact Sm.way s) (by simp), ?_⟩
          simp only [gSq, gNext, gRet, gRetN, gIfS, gAsg, gPar, gPar3, gDrop, gIfE, gTst, gNot, gAnd, gOr, gAndV, gOrV, gNotV, g2, gVar, gC, gNm, gTp, gTl, gGn, gGc, rN, rM, rQ, rNn, gaNil, gaCons, gTupD, gLstF, gLstO, gCall, gCallK, gCB, Gh.c1, Gh.c2, kInt, kInt2, kToInt, gNeg, lk, stt, startG, List.map, List.replicate, List.length, gAug_, dInt, List.cons_append, List.nil_append, gBreak, gCont, gDPut_, gSubD_, gSubL_, gDGet_, gDIn_, onP, onI, onK, onD, onL, onS, onN, gLM, gLM0, gSlF, gSlO, gNo, gPt, kLen, gNewK, gDs1_, Gh.rIxD, itS, itR, itL, itK, mApp, mExt, mPop, mApp1, mExt1, keyD, isLs, gFor, gWh, giL, giT, giR1, giR2, gRvF, gLrF, gLrO, kListF, kListO, gLc, gYes, gDc, wipeG, wipeG.stn, put_same, put_put, atI_last, at0, at1, at2, ix0, ix1, ix2, List.set_cons_zero, List.set_cons_succ, Option.some.injEq, Gh.O.lst.injEq, Gh.O.dic.injEq, Gh.D.ptr.injEq, exists_eq_left', exists_eq_left, exists_eq', exists_eq, true_and, and_true, Bool.false_xor, Bool.true_xor, decide_eq_true_eq, decide_eq_false_iff_not, Bool.not_true, Bool.not_false, Bool.false_eq_true, Bool.true_eq_false, false_implies, true_implies, rRepF, and_self, atI_one]
          refine ⟨fun h => absurd h (by omega), fun _ => ⟨fun h => absurd h (by omega), fun _ => fun y hy => ?_⟩⟩
          have ny := hB6.not hy
          have hyz : y ≠ z := fun e => by rw [e, hZ6] at hy; cases hy
          refine ⟨s, s, y, [], rfl, ⟨60, rfl, by omega⟩, put_same, Keys.nil, s3, fam_top (e := 0) (by decide), s1, fun ks' _ => ?_⟩
          simp only [gSq, gNext, gRet, gRetN, gIfS, gAsg, gPar, gPar3, gDrop, gIfE, gTst, gNot, gAnd, gOr, gAndV, gOrV, gNotV, g2, gVar, gC, gNm, gTp, gTl, gGn, gGc, rN, rM, rQ, rNn, gaNil, gaCons, gTupD, gLstF, gLstO, gCall, gCallK, gCB, Gh.c1, Gh.c2, kInt, kInt2, kToInt, gNeg, lk, stt, startG, List.map, List.replicate, List.length, gAug_, dInt, List.cons_append, List.nil_append, gBreak, gCont, gDPut_, gSubD_, gSubL_, gDGet_, gDIn_, onP, onI, onK, onD, onL, onS, onN, gLM, gLM0, gSlF, gSlO, gNo, gPt, kLen, gNewK, gDs1_, Gh.rIxD, itS, itR, itL, itK, mApp, mExt, mPop, mApp1, mExt1, keyD, isLs, gFor, gWh, giL, giT, giR1, giR2, gRvF, gLrF, gLrO, kListF, kListO, gLc, gYes, gDc, wipeG, wipeG.stn, put_same, put_put, atI_last, at0, at1, at2, ix0, ix1, ix2, List.set_cons_zero, List.set_cons_succ, Option.some.injEq, Gh.O.lst.injEq, Gh.O.dic.injEq, Gh.D.ptr.injEq, exists_eq_left', exists_eq_left, exists_eq', exists_eq, true_and, and_true, Bool.false_xor, Bool.true_xor, decide_eq_true_eq, decide_eq_false_iff_not, Bool.not_true, Bool.not_false, Bool.false_eq_true, Bool.true_eq_false, false_implies, true_implies, rRepF, and_self, atI_one]
          refine ⟨fun h => absurd h (by omega), fun _ => ?_⟩
          refine ⟨hB6.put ny, ⟨ks2, by rw [put_ne hyz.symm, hZ6], hK6⟩, _, sv s, _, _, _, _, sv_mono (by omega), rfl⟩
        simp only [gSq, gNext, gRet, gRetN, gIfS, gAsg, gPar, gPar3, gDrop, gIfE, gTst, gNot, gAnd, gOr, gAndV, gOrV, gNotV, g2, gVar, gC, gNm, gTp, gTl, gGn, gGc, rN, rM, rQ, rNn, gaNil, gaCons, gTupD, gLstF, gLstO, gCall, gCallK, gCB, Gh.c1, Gh.c2, kInt, kInt2, kToInt, gNeg, lk, stt, startG, List.map, List.replicate, List.length, gAug_, dInt, List.cons_append, List.nil_append, gBreak, gCont, gDPut_, gSubD_, gSubL_, gDGet_, gDIn_, onP, onI, onK, onD, onL, onS, onN, gLM, gLM0, gSlF, gSlO, gNo, gPt, kLen, gNewK, gDs1_, Gh.rIxD, itS, itR, itL, itK, mApp, mExt, mPop, mApp1, mExt1, keyD, isLs, gFor, gWh, giL, giT, giR1, giR2, gRvF, gLrF, gLrO, kListF, kListO, gLc, gYes, gDc, wipeG, wipeG.stn, put_same, put_put, atI_last, at0, at1, at2, ix0, ix1, ix2, List.set_cons_zero, List.set_cons_succ, Option.some.injEq, Gh.O.lst.injEq, Gh.O.dic.injEq, Gh.D.ptr.injEq, exists_eq_left', exists_eq_left, exists_eq', exists_eq, true_and, and_true, Bool.false_xor, Bool.true_xor, decide_eq_true_eq, decide_eq_false_iff_not, Bool.not_true, Bool.not_false, Bool.false_eq_true, Bool.true_eq_false, false_implies, true_implies, rRepF, and_self, atI_one]
        refine ⟨fun _ => ?_, fun _ => last⟩
        refine ⟨s, rfl, s1, s3, ?_⟩
        refine ⟨3, 2, 2, s, rfl, by decide, by decide, by decide, by decide, s1, s4, ?_⟩
        refine ⟨s, rfl, s1, s3, sl _ (by decide), last⟩
      simp only [gSq, gNext, gRet, gRetN, gIfS, gAsg, gPar, gPar3, gDrop, gIfE, gTst, gNot, gAnd, gOr, gAndV, gOrV, gNotV, g2, gVar, gC, gNm, gTp, gTl, gGn, gGc, rN, rM, rQ, rNn, gaNil, gaCons, gTupD, gLstF, gLstO, gCall, gCallK, gCB, Gh.c1, Gh.c2, kInt, kInt2, kToInt, gNeg, lk, stt, startG, List.map, List.replicate, List.length, gAug_, dInt, List.cons_append, List.nil_append, gBreak, gCont, gDPut_, gSubD_, gSubL_, gDGet_, gDIn_, onP, onI, onK, onD, onL, onS, onN, gLM, gLM0, gSlF, gSlO, gNo, gPt, kLen, gNewK, gDs1_, Gh.rIxD, itS, itR, itL, itK, mApp, mExt, mPop, mApp1, mExt1, keyD, isLs, gFor, gWh, giL, giT, giR1, giR2, gRvF, gLrF, gLrO, kListF, kListO, gLc, gYes, gDc, wipeG, wipeG.stn, put_same, put_put, atI_last, at0, at1, at2, ix0, ix1, ix2, List.set_cons_zero, List.set_cons_succ, Option.some.injEq, Gh.O.lst.injEq, Gh.O.dic.injEq, Gh.D.ptr.injEq, exists_eq_left', exists_eq_left, exists_eq', exists_eq, true_and, and_true, Bool.false_xor, Bool.true_xor, decide_eq_true_eq, decide_eq_false_iff_not, Bool.not_true, Bool.not_false, Bool.false_eq_true, Bool.true_eq_false, false_implies, true_implies, rRepF, and_self, atI_one]
      refine ⟨fun h => ?_, fun h => ?_⟩
      · refine ⟨sl _ (by decide), ?_⟩
        refine ⟨s, n, z, ks1, rfl, s2, hZ5, hK5, hN, hnf, by omega, s3, fun ks2 hK6 => ⟨trivial, ?_⟩⟩
        obtain ⟨j, zz, h1, h2, h3, h4⟩ := three_at (n := s) (by omega)
        refine ⟨_, .int (sv s : Nat), threeE s, j, zz, rfl, .lst (py_three _ s), .int _, shaped_three s, shaped_int _, h1, h2, h3, ?_⟩
        simp only [h4]
        exact tail _ ks2 (hB5.put nz) put_same hK6
      · have : wayS s = "one" := way_one (by omega)
        have t2 := tail L5 ks1 hB5 hZ5 hK5
        rw [this] at t2
        exact t2
    · rintro _ L4 ⟨hB4, _, b', ah, o5, o6, o7, o8, hah, rfl⟩
      refine hR2 _ _ ?_
      simp only [gSq, gNext, gRet, gRetN, gIfS, gAsg, gPar, gPar3, gDrop, gIfE, gTst, gNot, gAnd, gOr, gAndV, gOrV, gNotV, g2, gVar, gC, gNm, gTp, gTl, gGn, gGc, rN, rM, rQ, rNn, gaNil, gaCons, gTupD, gLstF, gLstO, gCall, gCallK, gCB, Gh.c1, Gh.c2, kInt, kInt2, kToInt, gNeg, lk, stt, startG, List.map, List.replicate, List.length, gAug_, dInt, List.cons_append, List.nil_append, gBreak, gCont, gDPut_, gSubD_, gSubL_, gDGet_, gDIn_, onP, onI, onK, onD, onL, onS, onN, gLM, gLM0, gSlF, gSlO, gNo, gPt, kLen, gNewK, gDs1_, Gh.rIxD, itS, itR, itL, itK, mApp, mExt, mPop, mApp1, mExt1, keyD, isLs, gFor, gWh, giL, giT, giR1, giR2, gRvF, gLrF, gLrO, kListF, kListO, gLc, gYes, gDc, wipeG, wipeG.stn, put_same, put_put, atI_last, at0, at1, at2, ix0, ix1, ix2, List.set_cons_zero, List.set_cons_succ, Option.some.injEq, Gh.O.lst.injEq, Gh.O.dic.injEq, Gh.D.ptr.injEq, exists_eq_left', exists_eq_left, exists_eq', exists_eq, true_and, and_true, Bool.false_xor, Bool.true_xor, decide_eq_true_eq, decide_eq_false_iff_not, Bool.not_true, Bool.not_false, Bool.false_eq_true, Bool.true_eq_false, false_implies, true_implies, rRepF, and_self, atI_one]
      exact rt_in (hp _ hB4)
end
end K06

namespace K06
open PySem PySem.Spec L2 Gh
variable [KK]
section
variable {P : Program} {w : World} {mg : Str → Option Value} {base : Heap}
def fs_law : FSp := fun ds L post => ∃ (ns : List Int), ds = [.scr (ns.map .int)] ∧ L = (fun _ => none) ∧ ∀ L', post (.bl true) L'
set_option maxHeartbeats 0 in
theorem okF_law (m_range : mg "range" = none) (c__law_own_bag : Cal P w mg base 1 "_law_own_bag" "_law_own_bag" s__law_own_bag ["script"] fs__law_own_bag) (c__law_draw : Cal P w mg base 1 "_law_draw" "_law_draw" s__law_draw ["bag", "below"] fs__law_draw) (c__law_are_halves_right : Cal P w mg base 71 "_law_are_halves_right" "_law_are_halves_right" s__law_are_halves_right ["bag", "is_named"] fs__law_are_halves_right) (c__law_are_products_right : Cal P w mg base 3 "_law_are_products_right" "_law_are_products_right" s__law_are_products_right ["bag", "is_named"] fs__law_are_products_right) (c__law_are_strips_right : Cal P w mg base 3 "_law_are_strips_right" "_law_are_strips_right" s__law_are_strips_right ["bag", "is_named"] fs__law_are_strips_right) (c__law_are_splits_right : Cal P w mg base 71 "_law_are_splits_right" "_law_are_splits_right" s__law_are_splits_right ["bag", "is_named"] fs__law_are_splits_right) {f : Addr} {fd : FuncData} (DD : FunD KK.K "law" "law" (defArgs s_law) (defBody s_law) (defScope s_law) [] [] f fd) : FnG P w KK.K mg base 72 f fd ["script"] fs_law := by
  refine fn_G (k := 71) DD sc_law ?len (fun cdv A outer s H hG hR => (s_cons (s_set (n := 1) (fun _ => sc_law.nd) (fun _ => rfl) (fun _ => by first | exact Or.inl rfl | exact Or.inr rfl) (g_c (fun _ => rfl) (fun _ => hG) (fun _ => hR.mono (by decide)) (fun _ => c__law_own_bag) bd__law_own_bag (a_cons (gv 0) a_nil)))
    (s_cons (s_set (n := 2) (fun _ => sc_law.nd) (fun _ => rfl) (fun _ => by first | exact Or.inl rfl | exact Or.inr rfl) (g_eq (g_c (fun _ => rfl) (fun _ => hG) (fun _ => hR.mono (by decide)) (fun _ => c__law_draw) bd__law_draw (a_cons (gv 1) (a_cons g_int a_nil))) g_int))
    (s_cons (s_for (fun _ => PassesOwn.never) (fun _ => rfl) (i_rng1 (fun _ => rfl) (fun _ => m_range) (a_cons g_int a_nil)) (t_nm (fun _ => sc_law.nd) (fun _ => rfl) (fun _ => by first | exact Or.inl rfl | exact Or.inr rfl) (i := 3)) (s_cons (s_if (b_w (w_or (b_not (b_val (g_c (fun _ => rfl) (fun _ => hG) (fun _ => hR.mono (by decide)) (fun _ => c__law_are_products_right) bd__law_are_products_right (a_cons (gv 1) (a_cons (gv 2) a_nil))))) (w_or1 (b_not (b_val (g_c (fun _ => rfl) (fun _ => hG) (fun _ => hR.mono (by decide)) (fun _ => c__law_are_halves_right) bd__law_are_halves_right (a_cons (gv 1) (a_cons (g_not (gv 2)) a_nil)))))))) (s_one (s_ret g_bl)) s_nil)
    (s_cons (s_if (b_not (b_val (g_c (fun _ => rfl) (fun _ => hG) (fun _ => hR.mono (by decide)) (fun _ => c__law_are_strips_right) bd__law_are_strips_right (a_cons (gv 1) (a_cons (gv 2) a_nil))))) (s_one (s_ret g_bl)) s_nil)
    (s_one (s_set (n := 2) (fun _ => sc_law.nd) (fun _ => rfl) (fun _ => by first | exact Or.inl rfl | exact Or.inr rfl) (g_not (gv 2)))))))
    (s_one (s_ret (g_c (fun _ => rfl) (fun _ => hG) (fun _ => hR.mono (by decide)) (fun _ => c__law_are_splits_right) bd__law_are_splits_right (a_cons (gv 1) (a_cons (gv 2) a_nil))))))))) ?main
  case len => intro ds L post h; unfold fs_law at h; repeat (first | (obtain ⟨rfl, _⟩ := h; rfl) | (obtain ⟨_, h⟩ := h))
  case main =>
    rintro ds L post ⟨ns, rfl, rfl, hp⟩
    refine seq_gen fun R1 hR1 => ?_
    simp only [gSq, gNext, gRet, gRetN, gIfS, gAsg, gPar, gPar3, gDrop, gIfE, gTst, gNot, gAnd, gOr, gAndV, gOrV, gNotV, g2, gVar, gC, gNm, gTp, gTl, gGn, gGc, rN, rM, rQ, rNn, gaNil, gaCons, gTupD, gLstF, gLstO, gCall, gCallK, gCB, Gh.c1, Gh.c2, kInt, kInt2, kToInt, gNeg, lk, stt, startG, List.map, List.replicate, List.length, gAug_, dInt, List.cons_append, List.nil_append, gBreak, gCont, gDPut_, gSubD_, gSubL_, gDGet_, gDIn_, onP, onI, onK, onD, onL, onS, onN, gLM, gLM0, gSlF, gSlO, gNo, gPt, kLen, gNewK, gDs1_, Gh.rIxD, itS, itR, itL, itK, mApp, mExt, mPop, mApp1, mExt1, keyD, isLs, gFor, gWh, giL, giT, giR1, giR2, gRvF, gLrF, gLrO, kListF, kListO, gLc, gYes, gDc, wipeG, wipeG.stn, put_same, put_put, atI_last, at0, at1, at2, ix0, ix1, ix2, List.set_cons_zero, List.set_cons_succ, Option.some.injEq, Gh.O.lst.injEq, Gh.O.dic.injEq, Gh.D.ptr.injEq, exists_eq_left', exists_eq_left, exists_eq', exists_eq, true_and, and_true, Bool.false_xor, Bool.true_xor, decide_eq_true_eq, decide_eq_false_iff_not, Bool.not_true, Bool.not_false, Bool.false_eq_true, Bool.true_eq_false, false_implies, true_implies, rRepF, and_self, atI_one]
    refine ⟨ns, rfl, fun a l L1 hB1 _ _ _ => hR1 _ _ ?_⟩
    refine seq_gen fun R2 hR2 => ?_
    simp only [gSq, gNext, gRet, gRetN, gIfS, gAsg, gPar, gPar3, gDrop, gIfE, gTst, gNot, gAnd, gOr, gAndV, gOrV, gNotV, g2, gVar, gC, gNm, gTp, gTl, gGn, gGc, rN, rM, rQ, rNn, gaNil, gaCons, gTupD, gLstF, gLstO, gCall, gCallK, gCB, Gh.c1, Gh.c2, kInt, kInt2, kToInt, gNeg, lk, stt, startG, List.map, List.replicate, List.length, gAug_, dInt, List.cons_append, List.nil_append, gBreak, gCont, gDPut_, gSubD_, gSubL_, gDGet_, gDIn_, onP, onI, onK, onD, onL, onS, onN, gLM, gLM0, gSlF, gSlO, gNo, gPt, kLen, gNewK, gDs1_, Gh.rIxD, itS, itR, itL, itK, mApp, mExt, mPop, mApp1, mExt1, keyD, isLs, gFor, gWh, giL, giT, giR1, giR2, gRvF, gLrF, gLrO, kListF, kListO, gLc, gYes, gDc, wipeG, wipeG.stn, put_same, put_put, atI_last, at0, at1, at2, ix0, ix1, ix2, List.set_cons_zero, List.set_cons_succ, Option.some.injEq, Gh.O.lst.injEq, Gh.O.dic.injEq, Gh.D.ptr.injEq, exists_eq_left', exists_eq_left, exists_eq', exists_eq, true_and, and_true, Bool.false_xor, Bool.true_xor, decide_eq_true_eq, decide_eq_false_iff_not, Bool.not_true, Bool.not_false, Bool.false_eq_true, Bool.true_eq_false, false_implies, true_implies, rRepF, and_self, atI_one]
    refine ⟨a, l, 2, rfl, hB1, by decide, by decide, fun r L2 _ hB2 _ => ?_⟩
    simp only [gSq, gNext, gRet, gRetN, gIfS, gAsg, gPar, gPar3, gDrop, gIfE, gTst, gNot, gAnd, gOr, gAndV, gOrV, gNotV, g2, gVar, gC, gNm, gTp, gTl, gGn, gGc, rN, rM, rQ, rNn, gaNil, gaCons, gTupD, gLstF, gLstO, gCall, gCallK, gCB, Gh.c1, Gh.c2, kInt, kInt2, kToInt, gNeg, lk, stt, startG, List.map, List.replicate, List.length, gAug_, dInt, List.cons_append, List.nil_append, gBreak, gCont, gDPut_, gSubD_, gSubL_, gDGet_, gDIn_, onP, onI, onK, onD, onL, onS, onN, gLM, gLM0, gSlF, gSlO, gNo, gPt, kLen, gNewK, gDs1_, Gh.rIxD, itS, itR, itL, itK, mApp, mExt, mPop, mApp1, mExt1, keyD, isLs, gFor, gWh, giL, giT, giR1, giR2, gRvF, gLrF, gLrO, kListF, kListO, gLc, gYes, gDc, wipeG, wipeG.stn, put_same, put_put, atI_last, at0, at1, at2, ix0, ix1, ix2, List.set_cons_zero, List.set_cons_succ, Option.some.injEq, Gh.O.lst.injEq, Gh.O.dic.injEq, Gh.D.ptr.injEq, exists_eq_left', exists_eq_left, exists_eq', exists_eq, true_and, and_true, Bool.false_xor, Bool.true_xor, decide_eq_true_eq, decide_eq_false_iff_not, Bool.not_true, Bool.not_false, Bool.false_eq_true, Bool.true_eq_false, false_implies, true_implies, rRepF, and_self, atI_one]
    refine hR2 _ _ ?_
    refine seq_gen fun R3 hR3 => ?_
    simp only [gSq, gNext, gRet, gRetN, gIfS, gAsg, gPar, gPar3, gDrop, gIfE, gTst, gNot, gAnd, gOr, gAndV, gOrV, gNotV, g2, gVar, gC, gNm, gTp, gTl, gGn, gGc, rN, rM, rQ, rNn, gaNil, gaCons, gTupD, gLstF, gLstO, gCall, gCallK, gCB, Gh.c1, Gh.c2, kInt, kInt2, kToInt, gNeg, lk, stt, startG, List.map, List.replicate, List.length, gAug_, dInt, List.cons_append, List.nil_append, gBreak, gCont, gDPut_, gSubD_, gSubL_, gDGet_, gDIn_, onP, onI, onK, onD, onL, onS, onN, gLM, gLM0, gSlF, gSlO, gNo, gPt, kLen, gNewK, gDs1_, Gh.rIxD, itS, itR, itL, itK, mApp, mExt, mPop, mApp1, mExt1, keyD, isLs, gFor, gWh, giL, giT, giR1, giR2, gRvF, gLrF, gLrO, kListF, kListO, gLc, gYes, gDc, wipeG, wipeG.stn, put_same, put_put, atI_last, at0, at1, at2, ix0, ix1, ix2, List.set_cons_zero, List.set_cons_succ, Option.some.injEq, Gh.O.lst.injEq, Gh.O.dic.injEq, Gh.D.ptr.injEq, exists_eq_left', exists_eq_left, exists_eq', exists_eq, true_and, and_true, Bool.false_xor, Bool.true_xor, decide_eq_true_eq, decide_eq_false_iff_not, Bool.not_true, Bool.not_false, Bool.false_eq_true, Bool.true_eq_false, false_implies, true_implies, rRepF, and_self, atI_one]
    refine ⟨⟨by decide, by decide⟩, fun i Γ' L' => BagAt a l L' ∧ ∃ (b : Bool) (o : Option D), Γ' = [some (.scr (ns.map .int)), some (.ptr a), some (.bl b), o], ⟨hB2, _, _, rfl⟩, fun _ _ _ _ => trivial, ?_, ?_⟩
    · rintro i d _ L3 hd ⟨hB3, b, o, rfl⟩
      simp only [gSq, gNext, gRet, gRetN, gIfS, gAsg, gPar, gPar3, gDrop, gIfE, gTst, gNot, gAnd, gOr, gAndV, gOrV, gNotV, g2, gVar, gC, gNm, gTp, gTl, gGn, gGc, rN, rM, rQ, rNn, gaNil, gaCons, gTupD, gLstF, gLstO, gCall, gCallK, gCB, Gh.c1, Gh.c2, kInt, kInt2, kToInt, gNeg, lk, stt, startG, List.map, List.replicate, List.length, gAug_, dInt, List.cons_append, List.nil_append, gBreak, gCont, gDPut_, gSubD_, gSubL_, gDGet_, gDIn_, onP, onI, onK, onD, onL, onS, onN, gLM, gLM0, gSlF, gSlO, gNo, gPt, kLen, gNewK, gDs1_, Gh.rIxD, itS, itR, itL, itK, mApp, mExt, mPop, mApp1, mExt1, keyD, isLs, gFor, gWh, giL, giT, giR1, giR2, gRvF, gLrF, gLrO, kListF, kListO, gLc, gYes, gDc, wipeG, wipeG.stn, put_same, put_put, atI_last, at0, at1, at2, ix0, ix1, ix2, List.set_cons_zero, List.set_cons_succ, Option.some.injEq, Gh.O.lst.injEq, Gh.O.dic.injEq, Gh.D.ptr.injEq, exists_eq_left', exists_eq_left, exists_eq', exists_eq, true_and, and_true, Bool.false_xor, Bool.true_xor, decide_eq_true_eq, decide_eq_false_iff_not, Bool.not_true, Bool.not_false, Bool.false_eq_true, Bool.true_eq_false, false_implies, true_implies, rRepF, and_self, atI_one]
      refine ⟨a, l, b, rfl, hB3, fun L4 hB4 => ?_⟩
      simp only [gSq, gNext, gRet, gRetN, gIfS, gAsg, gPar, gPar3, gDrop, gIfE, gTst, gNot, gAnd, gOr, gAndV, gOrV, gNotV, g2, gVar, gC, gNm, gTp, gTl, gGn, gGc, rN, rM, rQ, rNn, gaNil, gaCons, gTupD, gLstF, gLstO, gCall, gCallK, gCB, Gh.c1, Gh.c2, kInt, kInt2, kToInt, gNeg, lk, stt, startG, List.map, List.replicate, List.length, gAug_, dInt, List.cons_append, List.nil_append, gBreak, gCont, gDPut_, gSubD_, gSubL_, gDGet_, gDIn_, onP, onI, onK, onD, onL, onS, onN, gLM, gLM0, gSlF, gSlO, gNo, gPt, kLen, gNewK, gDs1_, Gh.rIxD, itS, itR, itL, itK, mApp, mExt, mPop, mApp1, mExt1, keyD, isLs, gFor, gWh, giL, giT, giR1, giR2, gRvF, gLrF, gLrO, kListF, kListO, gLc, gYes, gDc, wipeG, wipeG.stn, put_same, put_put, atI_last, at0, at1, at2, ix0, ix1, ix2, List.set_cons_zero, List.set_cons_succ, Option.some.injEq, Gh.O.lst.injEq, Gh.O.dic.injEq, Gh.D.ptr.injEq, exists_eq_left', exists_eq_left, exists_eq', exists_eq, true_and, and_true, Bool.false_xor, Bool.true_xor, decide_eq_true_eq, decide_eq_false_iff_not, Bool.not_true, Bool.not_false, Bool.false_eq_true, Bool.true_eq_false, false_implies, true_implies, rRepF, and_self, atI_one]
      refine ⟨a, l, !b, rfl, hB4, fun L5 hB5 => ?_⟩
      simp only [gSq, gNext, gRet, gRetN, gIfS, gAsg, gPar, gPar3, gDrop, gIfE, gTst, gNot, gAnd, gOr, gAndV, gOrV, gNotV, g2, gVar, gC, gNm, gTp, gTl, gGn, gGc, rN, rM, rQ, rNn, gaNil, gaCons, gTupD, gLstF, gLstO, gCall, gCallK, gCB, Gh.c1, Gh.c2, kInt, kInt2, kToInt, gNeg, lk, stt, startG, List.map, List.replicate, List.length, gAug_, dInt, List.cons_append, List.nil_append, gBreak, gCont, gDPut_, gSubD_, gSubL_, gDGet_, gDIn_, onP, onI, onK, onD, onL, onS, onN, gLM, gLM0, gSlF, gSlO, gNo, gPt, kLen, gNewK, gDs1_, Gh.rIxD, itS, itR, itL, itK, mApp, mExt, mPop, mApp1, mExt1, keyD, isLs, gFor, gWh, giL, giT, giR1, giR2, gRvF, gLrF, gLrO, kListF, kListO, gLc, gYes, gDc, wipeG, wipeG.stn, put_same, put_put, atI_last, at0, at1, at2, ix0, ix1, ix2, List.set_cons_zero, List.set_cons_succ, Option.some.injEq, Gh.O.lst.injEq, Gh.O.dic.injEq, Gh.D.ptr.injEq, exists_eq_left', exists_eq_left, exists_eq', exists_eq, true_and, and_true, Bool.false_xor, Bool.true_xor, decide_eq_true_eq, decide_eq_false_iff_not, Bool.not_true, Bool.not_false, Bool.false_eq_true, Bool.true_eq_false, false_implies, true_implies, rRepF, and_self, atI_one]
      refine ⟨a, l, b, rfl, hB5, fun L6 hB6 => ?_⟩
      simp only [gSq, gNext, gRet, gRetN, gIfS, gAsg, gPar, gPar3, gDrop, gIfE, gTst, gNot, gAnd, gOr, gAndV, gOrV, gNotV, g2, gVar, gC, gNm, gTp, gTl, gGn, gGc, rN, rM, rQ, rNn, gaNil, gaCons, gTupD, gLstF, gLstO, gCall, gCallK, gCB, Gh.c1, Gh.c2, kInt, kInt2, kToInt, gNeg, lk, stt, startG, List.map, List.replicate, List.length, gAug_, dInt, List.cons_append, List.nil_append, gBreak, gCont, gDPut_, gSubD_, gSubL_, gDGet_, gDIn_, onP, onI, onK, onD, onL, onS, onN, gLM, gLM0, gSlF, gSlO, gNo, gPt, kLen, gNewK, gDs1_, Gh.rIxD, itS, itR, itL, itK, mApp, mExt, mPop, mApp1, mExt1, keyD, isLs, gFor, gWh, giL, giT, giR1, giR2, gRvF, gLrF, gLrO, kListF, kListO, gLc, gYes, gDc, wipeG, wipeG.stn, put_same, put_put, atI_last, at0, at1, at2, ix0, ix1, ix2, List.set_cons_zero, List.set_cons_succ, Option.some.injEq, Gh.O.lst.injEq, Gh.O.dic.injEq, Gh.D.ptr.injEq, exists_eq_left', exists_eq_left, exists_eq', exists_eq, true_and, and_true, Bool.false_xor, Bool.true_xor, decide_eq_true_eq, decide_eq_false_iff_not, Bool.not_true, Bool.not_false, Bool.false_eq_true, Bool.true_eq_false, false_implies, true_implies, rRepF, and_self, atI_one]
      exact ⟨hB6, _, _, rfl⟩
    · rintro _ L3 ⟨hB3, b, o, rfl⟩
      refine hR3 _ _ ?_
      simp only [gSq, gNext, gRet, gRetN, gIfS, gAsg, gPar, gPar3, gDrop, gIfE, gTst, gNot, gAnd, gOr, gAndV, gOrV, gNotV, g2, gVar, gC, gNm, gTp, gTl, gGn, gGc, rN, rM, rQ, rNn, gaNil, gaCons, gTupD, gLstF, gLstO, gCall, gCallK, gCB, Gh.c1, Gh.c2, kInt, kInt2, kToInt, gNeg, lk, stt, startG, List.map, List.replicate, List.length, gAug_, dInt, List.cons_append, List.nil_append, gBreak, gCont, gDPut_, gSubD_, gSubL_, gDGet_, gDIn_, onP, onI, onK, onD, onL, onS, onN, gLM, gLM0, gSlF, gSlO, gNo, gPt, kLen, gNewK, gDs1_, Gh.rIxD, itS, itR, itL, itK, mApp, mExt, mPop, mApp1, mExt1, keyD, isLs, gFor, gWh, giL, giT, giR1, giR2, gRvF, gLrF, gLrO, kListF, kListO, gLc, gYes, gDc, wipeG, wipeG.stn, put_same, put_put, atI_last, at0, at1, at2, ix0, ix1, ix2, List.set_cons_zero, List.set_cons_succ, Option.some.injEq, Gh.O.lst.injEq, Gh.O.dic.injEq, Gh.D.ptr.injEq, exists_eq_left', exists_eq_left, exists_eq', exists_eq, true_and, and_true, Bool.false_xor, Bool.true_xor, decide_eq_true_eq, decide_eq_false_iff_not, Bool.not_true, Bool.not_false, Bool.false_eq_true, Bool.true_eq_false, false_implies, true_implies, rRepF, and_self, atI_one]
      exact ⟨a, l, b, rfl, hB3, fun L4 _ => rt_in (hp _)⟩
end
end K06

set_option maxHeartbeats 0
namespace K06
open PySem PySem.Spec PyProof.Rows L2 Gh
def d_sizes_of : He.DefD := ⟨("sizes_of_figurecounts", none), "sizes_of", "sizes_of", defArgs s_sizes_of, defBody s_sizes_of, defScope s_sizes_of, [], []⟩
def d_made_by : He.DefD := ⟨("made_by", none), "made_by", "made_by", defArgs s_made_by, defBody s_made_by, defScope s_made_by, [], []⟩
def d_products_made : He.DefD := ⟨("products_made", none), "products_made", "products_made", defArgs s_products_made, defBody s_products_made, defScope s_products_made, [], []⟩
def d_strip_count : He.DefD := ⟨("strip_count", none), "strip_count", "strip_count", defArgs s_strip_count, defBody s_strip_count, defScope s_strip_count, [], []⟩
def d_by_halves_count : He.DefD := ⟨("by_halves_count", none), "by_halves_count", "by_halves_count", defArgs s_by_halves_count, defBody s_by_halves_count, defScope s_by_halves_count, [], []⟩
def d_is_cheaper : He.DefD := ⟨("is_cheaper", none), "is_cheaper", "is_cheaper", defArgs s_is_cheaper, defBody s_is_cheaper, defScope s_is_cheaper, [], []⟩
def d_halves_count : He.DefD := ⟨("halves_count", none), "halves_count", "halves_count", defArgs s_halves_count, defBody s_halves_count, defScope s_halves_count, [], []⟩
def d_parts_of : He.DefD := ⟨("parts_of", none), "parts_of", "parts_of", defArgs s_parts_of, defBody s_parts_of, defScope s_parts_of, [], []⟩
def d_split_counts : He.DefD := ⟨("split_counts", none), "split_counts", "split_counts", defArgs s_split_counts, defBody s_split_counts, defScope s_split_counts, [], []⟩
def d_split_count : He.DefD := ⟨("split_count", none), "split_count", "split_count", defArgs s_split_count, defBody s_split_count, defScope s_split_count, [], []⟩
def d_split_way : He.DefD := ⟨("split_way", none), "split_way", "split_way", defArgs s_split_way, defBody s_split_way, defScope s_split_way, [], []⟩
def d_sizes_of_2 : He.DefD := ⟨("sizes_of_productcounts", none), "sizes_of", "sizes_of", defArgs s_sizes_of_2, defBody s_sizes_of_2, defScope s_sizes_of_2, [], []⟩
def d_power_of : He.DefD := ⟨("power_of", none), "power_of", "power_of", defArgs s_power_of, defBody s_power_of, defScope s_power_of, [], []⟩
def d_products_by : He.DefD := ⟨("products_by", none), "products_by", "products_by", defArgs s_products_by, defBody s_products_by, defScope s_products_by, [], []⟩
def d_products_mixed : He.DefD := ⟨("products_mixed", none), "products_mixed", "products_mixed", defArgs s_products_mixed, defBody s_products_mixed, defScope s_products_mixed, [], []⟩
def d_cheaper_from : He.DefD := ⟨("cheaper_from", none), "cheaper_from", "cheaper_from", defArgs s_cheaper_from, defBody s_cheaper_from, defScope s_cheaper_from, [], []⟩
def d__law_own_bag : He.DefD := ⟨("_law_own_bag", none), "_law_own_bag", "_law_own_bag", defArgs s__law_own_bag, defBody s__law_own_bag, defScope s__law_own_bag, [], []⟩
def d__law_draw : He.DefD := ⟨("_law_draw", none), "_law_draw", "_law_draw", defArgs s__law_draw, defBody s__law_draw, defScope s__law_draw, [], []⟩
def d__law_pick : He.DefD := ⟨("_law_pick", none), "_law_pick", "_law_pick", defArgs s__law_pick, defBody s__law_pick, defScope s__law_pick, [], []⟩
def d__law_same : He.DefD := ⟨("_law_same", none), "_law_same", "_law_same", defArgs s__law_same, defBody s__law_same, defScope s__law_same, [], []⟩
def d__law_up : He.DefD := ⟨("_law_up", none), "_law_up", "_law_up", defArgs s__law_up, defBody s__law_up, defScope s__law_up, [], []⟩
def d__law_by : He.DefD := ⟨("_law_by", none), "_law_by", "_law_by", defArgs s__law_by, defBody s__law_by, defScope s__law_by, [], []⟩
def d__law_power : He.DefD := ⟨("_law_power", none), "_law_power", "_law_power", defArgs s__law_power, defBody s__law_power, defScope s__law_power, [], []⟩
def d__law_mixed : He.DefD := ⟨("_law_mixed", none), "_law_mixed", "_law_mixed", defArgs s__law_mixed, defBody s__law_mixed, defScope s__law_mixed, [], []⟩
def d__law_halves : He.DefD := ⟨("_law_halves", none), "_law_halves", "_law_halves", defArgs s__law_halves, defBody s__law_halves, defScope s__law_halves, [], []⟩
def d__law_three_ways : He.DefD := ⟨("_law_three_ways", none), "_law_three_ways", "_law_three_ways", defArgs s__law_three_ways, defBody s__law_three_ways, defScope s__law_three_ways, [], []⟩
def d__law_split : He.DefD := ⟨("_law_split", none), "_law_split", "_law_split", defArgs s__law_split, defBody s__law_split, defScope s__law_split, [], []⟩
def d__law_size : He.DefD := ⟨("_law_size", none), "_law_size", "_law_size", defArgs s__law_size, defBody s__law_size, defScope s__law_size, [], []⟩
def d__law_are_products_right : He.DefD := ⟨("_law_are_products_right", none), "_law_are_products_right", "_law_are_products_right", defArgs s__law_are_products_right, defBody s__law_are_products_right, defScope s__law_are_products_right, [], []⟩
def d__law_are_halves_right : He.DefD := ⟨("_law_are_halves_right", none), "_law_are_halves_right", "_law_are_halves_right", defArgs s__law_are_halves_right, defBody s__law_are_halves_right, defScope s__law_are_halves_right, [], []⟩
def d__law_are_splits_right : He.DefD := ⟨("_law_are_splits_right", none), "_law_are_splits_right", "_law_are_splits_right", defArgs s__law_are_splits_right, defBody s__law_are_splits_right, defScope s__law_are_splits_right, [], []⟩
def d__law_are_strips_right : He.DefD := ⟨("_law_are_strips_right", none), "_law_are_strips_right", "_law_are_strips_right", defArgs s__law_are_strips_right, defBody s__law_are_strips_right, defScope s__law_are_strips_right, [], []⟩
def d_law : He.DefD := ⟨("law", none), "law", "law", defArgs s_law, defBody s_law, defScope s_law, [], []⟩
def fn : List He.DefD := [d_sizes_of, d_made_by, d_products_made, d_strip_count, d_by_halves_count, d_is_cheaper, d_halves_count, d_parts_of, d_split_counts, d_split_count, d_split_way, d_sizes_of_2, d_power_of, d_products_by, d_products_mixed, d_cheaper_from, d__law_own_bag, d__law_draw, d__law_pick, d__law_same, d__law_up, d__law_by, d__law_power, d__law_mixed, d__law_halves, d__law_three_ways, d__law_split, d__law_size, d__law_are_products_right, d__law_are_halves_right, d__law_are_splits_right, d__law_are_strips_right, d_law]
def fa : List He.Fa := [.glo "sizes_of_figurecounts", .glo "made_by", .glo "products_made", .glo "strip_count", .glo "by_halves_count", .glo "is_cheaper", .glo "halves_count", .glo "parts_of", .glo "split_counts", .glo "split_count", .glo "split_way", .glo "sizes_of_productcounts", .glo "power_of", .glo "products_by", .glo "products_mixed", .glo "cheaper_from", .glo "_law_own_bag", .glo "_law_draw", .glo "_law_pick", .glo "_law_same", .glo "_law_up", .glo "_law_by", .glo "_law_power", .glo "_law_mixed", .glo "_law_halves", .glo "_law_three_ways", .glo "_law_split", .glo "_law_size", .glo "_law_are_products_right", .glo "_law_are_halves_right", .glo "_law_are_splits_right", .glo "_law_are_strips_right", .glo "law", .free "abs", .free "int", .free "len", .free "list", .free "max", .free "min", .free "range", .free "repr", .free "reversed", .free "sorted", .free "sum"]
abbrev R : PySem.W.OpenRow := PySem.W.OpenLaw.row PySem.Challenge.rw_fewproducts_k06_whole_products_of_all_si
abbrev hk : PySem.W.Hook := He.hookD 4 fa fn
def ob (s : PySem.W.SharedT) : He.AlD := He.obsDG 4 fa fn (HandSHeadRun.getT s)
theorem ob_eq (s : PySem.W.SharedT) : ob s = hk.obs s.abs := He.obsDG_eq (HandSHeadRun.getT_eq s)
theorem run (w : World) : HandSHeadRun.RunEq R (PySem.W.view R.prog [40]) hk ob 3000 ((["sizes_of_figurecounts", "sizes_of", "made_by", "products_made", "strip_count", "by_halves_count", "is_cheaper", "halves_count", "parts_of", "split_counts", "split_count", "split_way", "sizes_of_productcounts", "power_of", "products_by", "products_mixed", "cheaper_from", "_law_own_bag", "_law_draw", "_law_pick"] : List PySem.Str) ++ (["_law_same", "_law_up", "_law_by", "_law_power", "_law_mixed", "_law_halves", "_law_three_ways", "_law_split", "_law_size", "_law_are_products_right", "_law_are_halves_right", "_law_are_splits_right", "_law_are_strips_right"] : List PySem.Str)) w := by
  intro os
  kernel_rfl
theorem facts {P : Program} {w : World} {K : PySem.W.Frag} {h : Heap} {mg : Str → Option Value} {f : Addr} (X : K.In h) (G : h.Ns mainGlobals mg) (hfa : mg ("law" : Str) = some (.ref f)) (c : He.SaysD fa fn K) :
    ∃ fd : FuncData, (∀ (s : Shared) (v : Value), BindsTo s fd ⟨[v], []⟩ [("script", v)]) ∧ ∀ base : Heap, K.In base → base.Ns mainGlobals mg → @FnG ⟨K⟩ P w K mg base 72 f fd ["script"] (@fs_law) := by
  letI : KK := ⟨K⟩
  obtain ⟨fd, DL⟩ := c.def_ 32 (d := d_law) rfl
  have e := hfa.symm.trans (He.glo_ok X G (c.fact 32 (f := .glo "law") rfl))
  cases e
  have b := FunD.bindsA (ps := ["script"]) DL fun _ _ _ _ _ _ us hl => match us, hl with | [_], _ => rfl
  refine ⟨fd, fun s v => b s [v] rfl, fun base _ _ => ?_⟩
  have m_abs : mg "abs" = none := He.free_ok X G (c.fact 33 (f := .free "abs") rfl)
  have m_int : mg "int" = none := He.free_ok X G (c.fact 34 (f := .free "int") rfl)
  have m_len : mg "len" = none := He.free_ok X G (c.fact 35 (f := .free "len") rfl)
  have m_list : mg "list" = none := He.free_ok X G (c.fact 36 (f := .free "list") rfl)
  have m_max : mg "max" = none := He.free_ok X G (c.fact 37 (f := .free "max") rfl)
  have m_min : mg "min" = none := He.free_ok X G (c.fact 38 (f := .free "min") rfl)
  have m_range : mg "range" = none := He.free_ok X G (c.fact 39 (f := .free "range") rfl)
  have m_repr : mg "repr" = none := He.free_ok X G (c.fact 40 (f := .free "repr") rfl)
  have m_reversed : mg "reversed" = none := He.free_ok X G (c.fact 41 (f := .free "reversed") rfl)
  have m_sorted : mg "sorted" = none := He.free_ok X G (c.fact 42 (f := .free "sorted") rfl)
  have m_sum : mg "sum" = none := He.free_ok X G (c.fact 43 (f := .free "sum") rfl)
  have i_sizes_of : Got mg "sizes_of_figurecounts" "sizes_of" s_sizes_of := (c.def_ 0 (d := d_sizes_of) rfl).elim fun fd D => ⟨_, fd, D, He.glo_ok X G (c.fact 0 (f := .glo "sizes_of_figurecounts") rfl)⟩
  have i_made_by : Got mg "made_by" "made_by" s_made_by := (c.def_ 1 (d := d_made_by) rfl).elim fun fd D => ⟨_, fd, D, He.glo_ok X G (c.fact 1 (f := .glo "made_by") rfl)⟩
  have i_products_made : Got mg "products_made" "products_made" s_products_made := (c.def_ 2 (d := d_products_made) rfl).elim fun fd D => ⟨_, fd, D, He.glo_ok X G (c.fact 2 (f := .glo "products_made") rfl)⟩
  have i_strip_count : Got mg "strip_count" "strip_count" s_strip_count := (c.def_ 3 (d := d_strip_count) rfl).elim fun fd D => ⟨_, fd, D, He.glo_ok X G (c.fact 3 (f := .glo "strip_count") rfl)⟩
  have i_by_halves_count : Got mg "by_halves_count" "by_halves_count" s_by_halves_count := (c.def_ 4 (d := d_by_halves_count) rfl).elim fun fd D => ⟨_, fd, D, He.glo_ok X G (c.fact 4 (f := .glo "by_halves_count") rfl)⟩
  have i_is_cheaper : Got mg "is_cheaper" "is_cheaper" s_is_cheaper := (c.def_ 5 (d := d_is_cheaper) rfl).elim fun fd D => ⟨_, fd, D, He.glo_ok X G (c.fact 5 (f := .glo "is_cheaper") rfl)⟩
  have i_halves_count : Got mg "halves_count" "halves_count" s_halves_count := (c.def_ 6 (d := d_halves_count) rfl).elim fun fd D => ⟨_, fd, D, He.glo_ok X G (c.fact 6 (f := .glo "halves_count") rfl)⟩
  have i_parts_of : Got mg "parts_of" "parts_of" s_parts_of := (c.def_ 7 (d := d_parts_of) rfl).elim fun fd D => ⟨_, fd, D, He.glo_ok X G (c.fact 7 (f := .glo "parts_of") rfl)⟩
  have i_split_counts : Got mg "split_counts" "split_counts" s_split_counts := (c.def_ 8 (d := d_split_counts) rfl).elim fun fd D => ⟨_, fd, D, He.glo_ok X G (c.fact 8 (f := .glo "split_counts") rfl)⟩
  have i_split_count : Got mg "split_count" "split_count" s_split_count := (c.def_ 9 (d := d_split_count) rfl).elim fun fd D => ⟨_, fd, D, He.glo_ok X G (c.fact 9 (f := .glo "split_count") rfl)⟩
  have i_split_way : Got mg "split_way" "split_way" s_split_way := (c.def_ 10 (d := d_split_way) rfl).elim fun fd D => ⟨_, fd, D, He.glo_ok X G (c.fact 10 (f := .glo "split_way") rfl)⟩
  have i_sizes_of_2 : Got mg "sizes_of_productcounts" "sizes_of" s_sizes_of_2 := (c.def_ 11 (d := d_sizes_of_2) rfl).elim fun fd D => ⟨_, fd, D, He.glo_ok X G (c.fact 11 (f := .glo "sizes_of_productcounts") rfl)⟩
  have i_power_of : Got mg "power_of" "power_of" s_power_of := (c.def_ 12 (d := d_power_of) rfl).elim fun fd D => ⟨_, fd, D, He.glo_ok X G (c.fact 12 (f := .glo "power_of") rfl)⟩
  have i_products_by : Got mg "products_by" "products_by" s_products_by := (c.def_ 13 (d := d_products_by) rfl).elim fun fd D => ⟨_, fd, D, He.glo_ok X G (c.fact 13 (f := .glo "products_by") rfl)⟩
  have i_products_mixed : Got mg "products_mixed" "products_mixed" s_products_mixed := (c.def_ 14 (d := d_products_mixed) rfl).elim fun fd D => ⟨_, fd, D, He.glo_ok X G (c.fact 14 (f := .glo "products_mixed") rfl)⟩
  have i_cheaper_from : Got mg "cheaper_from" "cheaper_from" s_cheaper_from := (c.def_ 15 (d := d_cheaper_from) rfl).elim fun fd D => ⟨_, fd, D, He.glo_ok X G (c.fact 15 (f := .glo "cheaper_from") rfl)⟩
  have i__law_own_bag : Got mg "_law_own_bag" "_law_own_bag" s__law_own_bag := (c.def_ 16 (d := d__law_own_bag) rfl).elim fun fd D => ⟨_, fd, D, He.glo_ok X G (c.fact 16 (f := .glo "_law_own_bag") rfl)⟩
  have i__law_draw : Got mg "_law_draw" "_law_draw" s__law_draw := (c.def_ 17 (d := d__law_draw) rfl).elim fun fd D => ⟨_, fd, D, He.glo_ok X G (c.fact 17 (f := .glo "_law_draw") rfl)⟩
  have i__law_pick : Got mg "_law_pick" "_law_pick" s__law_pick := (c.def_ 18 (d := d__law_pick) rfl).elim fun fd D => ⟨_, fd, D, He.glo_ok X G (c.fact 18 (f := .glo "_law_pick") rfl)⟩
  have i__law_same : Got mg "_law_same" "_law_same" s__law_same := (c.def_ 19 (d := d__law_same) rfl).elim fun fd D => ⟨_, fd, D, He.glo_ok X G (c.fact 19 (f := .glo "_law_same") rfl)⟩
  have i__law_up : Got mg "_law_up" "_law_up" s__law_up := (c.def_ 20 (d := d__law_up) rfl).elim fun fd D => ⟨_, fd, D, He.glo_ok X G (c.fact 20 (f := .glo "_law_up") rfl)⟩
  have i__law_by : Got mg "_law_by" "_law_by" s__law_by := (c.def_ 21 (d := d__law_by) rfl).elim fun fd D => ⟨_, fd, D, He.glo_ok X G (c.fact 21 (f := .glo "_law_by") rfl)⟩
  have i__law_power : Got mg "_law_power" "_law_power" s__law_power := (c.def_ 22 (d := d__law_power) rfl).elim fun fd D => ⟨_, fd, D, He.glo_ok X G (c.fact 22 (f := .glo "_law_power") rfl)⟩
  have i__law_mixed : Got mg "_law_mixed" "_law_mixed" s__law_mixed := (c.def_ 23 (d := d__law_mixed) rfl).elim fun fd D => ⟨_, fd, D, He.glo_ok X G (c.fact 23 (f := .glo "_law_mixed") rfl)⟩
  have i__law_halves : Got mg "_law_halves" "_law_halves" s__law_halves := (c.def_ 24 (d := d__law_halves) rfl).elim fun fd D => ⟨_, fd, D, He.glo_ok X G (c.fact 24 (f := .glo "_law_halves") rfl)⟩
  have i__law_three_ways : Got mg "_law_three_ways" "_law_three_ways" s__law_three_ways := (c.def_ 25 (d := d__law_three_ways) rfl).elim fun fd D => ⟨_, fd, D, He.glo_ok X G (c.fact 25 (f := .glo "_law_three_ways") rfl)⟩
  have i__law_split : Got mg "_law_split" "_law_split" s__law_split := (c.def_ 26 (d := d__law_split) rfl).elim fun fd D => ⟨_, fd, D, He.glo_ok X G (c.fact 26 (f := .glo "_law_split") rfl)⟩
  have i__law_size : Got mg "_law_size" "_law_size" s__law_size := (c.def_ 27 (d := d__law_size) rfl).elim fun fd D => ⟨_, fd, D, He.glo_ok X G (c.fact 27 (f := .glo "_law_size") rfl)⟩
  have i__law_are_products_right : Got mg "_law_are_products_right" "_law_are_products_right" s__law_are_products_right := (c.def_ 28 (d := d__law_are_products_right) rfl).elim fun fd D => ⟨_, fd, D, He.glo_ok X G (c.fact 28 (f := .glo "_law_are_products_right") rfl)⟩
  have i__law_are_halves_right : Got mg "_law_are_halves_right" "_law_are_halves_right" s__law_are_halves_right := (c.def_ 29 (d := d__law_are_halves_right) rfl).elim fun fd D => ⟨_, fd, D, He.glo_ok X G (c.fact 29 (f := .glo "_law_are_halves_right") rfl)⟩
  have i__law_are_splits_right : Got mg "_law_are_splits_right" "_law_are_splits_right" s__law_are_splits_right := (c.def_ 30 (d := d__law_are_splits_right) rfl).elim fun fd D => ⟨_, fd, D, He.glo_ok X G (c.fact 30 (f := .glo "_law_are_splits_right") rfl)⟩
  have i__law_are_strips_right : Got mg "_law_are_strips_right" "_law_are_strips_right" s__law_are_strips_right := (c.def_ 31 (d := d__law_are_strips_right) rfl).elim fun fd D => ⟨_, fd, D, He.glo_ok X G (c.fact 31 (f := .glo "_law_are_strips_right") rfl)⟩
  have i_law : Got mg "law" "law" s_law := (c.def_ 32 (d := d_law) rfl).elim fun fd D => ⟨_, fd, D, He.glo_ok X G (c.fact 32 (f := .glo "law") rfl)⟩
  have c_sizes_of : Cal P w mg base 1 "sizes_of_figurecounts" "sizes_of" s_sizes_of ["n", "least"] (fs_sizes_of) := ok_sizes_of m_sorted i_sizes_of
  have c_strip_count : Cal P w mg base 1 "strip_count" "strip_count" s_strip_count ["l", "m", "n"] (fs_strip_count) := ok_strip_count  i_strip_count
  have c_by_halves_count : Cal P w mg base 1 "by_halves_count" "by_halves_count" s_by_halves_count ["r", "n", "s"] (fs_by_halves_count) := ok_by_halves_count  i_by_halves_count
  have c_halves_count : Cal P w mg base 1 "halves_count" "halves_count" s_halves_count ["n"] (fs_halves_count) := ok_halves_count  i_halves_count
  have c_parts_of : Cal P w mg base 1 "parts_of" "parts_of" s_parts_of ["n"] (fs_parts_of) := ok_parts_of  i_parts_of
  have c_sizes_of_2 : Cal P w mg base 1 "sizes_of_productcounts" "sizes_of" s_sizes_of_2 ["base", "n"] (fs_sizes_of_2) := ok_sizes_of_2  i_sizes_of_2
  have c_power_of : Cal P w mg base 1 "power_of" "power_of" s_power_of ["number", "often"] (fs_power_of) := ok_power_of m_range i_power_of
  have c__law_own_bag : Cal P w mg base 1 "_law_own_bag" "_law_own_bag" s__law_own_bag ["script"] (fs__law_own_bag) := ok__law_own_bag m_abs m_int m_len m_list m_reversed i__law_own_bag
  have c__law_draw : Cal P w mg base 1 "_law_draw" "_law_draw" s__law_draw ["bag", "below"] (fs__law_draw) := ok__law_draw m_int m_range i__law_draw
  have c__law_same : Cal P w mg base 1 "_law_same" "_law_same" s__law_same ["told", "due"] (fs__law_same) := ok__law_same m_repr i__law_same
  have c__law_up : Cal P w mg base 1 "_law_up" "_law_up" s__law_up ["n", "by"] (fs__law_up) := ok__law_up  i__law_up
  have c__law_power : Cal P w mg base 1 "_law_power" "_law_power" s__law_power ["n", "power"] (fs__law_power) := ok__law_power  i__law_power
  have c_made_by : Cal P w mg base 2 "made_by" "made_by" s_made_by ["n", "least"] (fs_made_by) := ok_made_by c_sizes_of i_made_by
  have c_is_cheaper : Cal P w mg base 2 "is_cheaper" "is_cheaper" s_is_cheaper ["r", "n", "s"] (fs_is_cheaper) := ok_is_cheaper c_by_halves_count i_is_cheaper
  have c_split_counts : Cal P w mg base 2 "split_counts" "split_counts" s_split_counts ["n"] (fs_split_counts) := ok_split_counts m_min m_sorted m_sum c_parts_of i_split_counts
  have c_products_by : Cal P w mg base 2 "products_by" "products_by" s_products_by ["many", "base", "n"] (fs_products_by) := ok_products_by m_len c_power_of c_sizes_of_2 i_products_by
  have c_products_mixed : Cal P w mg base 2 "products_mixed" "products_mixed" s_products_mixed ["many", "base", "power", "n"] (fs_products_mixed) := ok_products_mixed m_min c_sizes_of_2 c_power_of i_products_mixed
  have c_cheaper_from : Cal P w mg base 2 "cheaper_from" "cheaper_from" s_cheaper_from ["many", "base", "power"] (fs_cheaper_from) := ok_cheaper_from m_range c_power_of i_cheaper_from
  have c__law_pick : Cal P w mg base 2 "_law_pick" "_law_pick" s__law_pick ["bag", "some"] (fs__law_pick) := ok__law_pick m_len c__law_draw i__law_pick
  have c__law_by : Cal P w mg base 2 "_law_by" "_law_by" s__law_by ["many", "base", "n"] (fs__law_by) := ok__law_by m_range c__law_up i__law_by
  have c__law_mixed : Cal P w mg base 2 "_law_mixed" "_law_mixed" s__law_mixed ["many", "base", "power", "n"] (fs__law_mixed) := ok__law_mixed m_list m_min m_range m_reversed c__law_up c__law_power i__law_mixed
  have c__law_size : Cal P w mg base 2 "_law_size" "_law_size" s__law_size ["bag", "base", "most"] (fs__law_size) := ok__law_size m_max m_min m_range c__law_draw i__law_size
  have c_products_made : Cal P w mg base 3 "products_made" "products_made" s_products_made ["n", "least"] (fs_products_made) := ok_products_made c_made_by i_products_made
  have c_split_count : Cal P w mg base 3 "split_count" "split_count" s_split_count ["n"] (fs_split_count) := ok_split_count c_split_counts i_split_count
  have c_split_way : Cal P w mg base 3 "split_way" "split_way" s_split_way ["n"] (fs_split_way) := ok_split_way m_sum c_split_counts c_parts_of i_split_way
  have c__law_are_products_right : Cal P w mg base 3 "_law_are_products_right" "_law_are_products_right" s__law_are_products_right ["bag", "is_named"] (fs__law_are_products_right) := ok__law_are_products_right m_max m_min m_range c__law_draw c__law_power c__law_size c_products_by c_products_mixed c__law_by c__law_mixed c__law_same c__law_up c_cheaper_from i__law_are_products_right
  have c__law_are_strips_right : Cal P w mg base 3 "_law_are_strips_right" "_law_are_strips_right" s__law_are_strips_right ["bag", "is_named"] (fs__law_are_strips_right) := ok__law_are_strips_right m_min m_range c__law_size c__law_pick c_strip_count c__law_same c_products_mixed c__law_power c__law_mixed c_by_halves_count c_is_cheaper i__law_are_strips_right
  have c__law_halves : Cal P w mg base 70 "_law_halves" "_law_halves" s__law_halves ["n", "known"] (fs__law_halves 61) := (ok__law_halves c__law_up i__law_halves 61).mono (by decide)
  have c__law_three_ways : Cal P w mg base 70 "_law_three_ways" "_law_three_ways" s__law_three_ways ["n", "known"] (fs__law_three_ways 27) := (ok__law_three_ways m_min c__law_up i__law_split i__law_three_ways 27).mono (by decide)
  have c__law_split : Cal P w mg base 70 "_law_split" "_law_split" s__law_split ["n", "known"] (fs__law_split 28) := (ok__law_split m_min c__law_up i__law_split i__law_three_ways 28).mono (by decide)
  have c__law_are_halves_right : Cal P w mg base 71 "_law_are_halves_right" "_law_are_halves_right" s__law_are_halves_right ["bag", "is_named"] (fs__law_are_halves_right) := ok__law_are_halves_right m_min m_range c__law_size c__law_halves c_halves_count c_products_made c__law_same c__law_draw c__law_by c_products_by i__law_are_halves_right
  have c__law_are_splits_right : Cal P w mg base 71 "_law_are_splits_right" "_law_are_splits_right" s__law_are_splits_right ["bag", "is_named"] (fs__law_are_splits_right) := ok__law_are_splits_right c__law_size c__law_pick c__law_split c__law_mixed c__law_three_ways c_split_count c_products_mixed c_split_way c__law_halves c__law_same i__law_are_splits_right
  exact okF_law m_range c__law_own_bag c__law_draw c__law_are_halves_right c__law_are_products_right c__law_are_strips_right c__law_are_splits_right DL
theorem room : Room 72 callerA := ⟨rfl, by decide, by decide⟩
end K06
open PySem PySem.W PySem.Calls PyProof.Rows
theorem PySem.Challenge.cw_fewproducts_k06_whole_products_of_all_si_holds : PySem.Challenge.rw_fewproducts_k06_whole_products_of_all_si.Holds := by
  w_on; o_law
  refine HandSHeadRun.head_any (r := OpenLaw.row PySem.Challenge.rw_fewproducts_k06_whole_products_of_all_si) (q := view (OpenLaw.row PySem.Challenge.rw_fewproducts_k06_whole_products_of_all_si).prog [40]) (H := K06.hk) (ob := K06.ob) (M := 3000) (loose := ((["sizes_of_figurecounts", "sizes_of", "made_by", "products_made", "strip_count", "by_halves_count", "is_cheaper", "halves_count", "parts_of", "split_counts", "split_count", "split_way", "sizes_of_productcounts", "power_of", "products_by", "products_mixed", "cheaper_from", "_law_own_bag", "_law_draw", "_law_pick"] : List PySem.Str) ++ (["_law_same", "_law_up", "_law_by", "_law_power", "_law_mixed", "_law_halves", "_law_three_ways", "_law_split", "_law_size", "_law_are_products_right", "_law_are_halves_right", "_law_are_splits_right", "_law_are_strips_right"] : List PySem.Str))) (d := HandSHeadRun.topDef (OpenLaw.row PySem.Challenge.rw_fewproducts_k06_whole_products_of_all_si).prog 40) (kwd := []) K06.ob_eq
    (by kernel_rfl) (fun s => by kernel_rfl) K06.run (by kernel_rfl) (by kernel_rfl) (by kernel_rfl) (by rfl) (by first | assumption | decide +kernel) (by decide +kernel) ⟨rfl, rfl, rfl, rfl, rfl, by decide +kernel⟩ ?hw ?hc
  case hw => w_witness2
  case hc =>
    refine Gh.walk_G (l := PySem.Challenge.rw_fewproducts_k06_whole_products_of_all_si) (n := 63) (k := 72) (x := "script") rfl (by decide) (by kernel_rfl) K06.room ?F
    intro w mg fa h Y G hmg0
    obtain ⟨K, KX, c⟩ := Y
    have hmg : mg ("law" : PySem.Str) = some (.ref fa) := by
      have e : (HandSHeadRun.topDef (OpenLaw.row PySem.Challenge.rw_fewproducts_k06_whole_products_of_all_si).prog 40).name = ("law" : PySem.Str) := by kernel_rfl
      rw [← e]; exact hmg0
    obtain ⟨fd, hb, hF⟩ := K06.facts (P := (PySem.Challenge.rw_fewproducts_k06_whole_products_of_all_si).prog) (w := w) KX G hmg c
    exact ⟨K, fd, @K06.fs_law, KX, hb, fun ns _ _ => ⟨ns, rfl, rfl, fun _ => rfl⟩, hF⟩

