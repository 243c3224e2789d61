import PyProof.Rows.All
import Wide.All
import OpenK.AllK
import Wide.FinOn
import HandS.ForMost
import HandS.TupAny
import HandS.TupMul
import HandS.Conv
import HandS.Lambda
import HandS.IsInst
import HandS.TupLe
import HandS.Zip
import HandS.Style
import KE.GoesMore
import KE.KIndexOf
import HandS.More
import HandS.Small
import KE.KDictWalk
import HandS.DictComp
import KE.SortData
import KE.KExcSuper
import HandS.ExcInit
import HandS.ExcSuper
import HandS.Nested
import HandS.TryMany
import HandS.ExcIs
import HandS.ExcField
import HandS.HeadWalk
import KE.KExcIs
import PySem.Challenge.RW_eachsaysonce_k87_whole_words_as_programs
import HandS.WordsExc
import HandS.HeadHook1
import HandS.HeadHook2
import HandS.HeadHook3
import HandS.HeadHook4
import KE.KStateDown
import Lean
import HandS.Head0
import HandS.Head1
import HandS.Head2
import HandS.EndBits
import HandS.EndTab
import KE.KNestM
section
set_option Elab.async false
set_option linter.all false
set_option maxRecDepth 100000
set_option maxHeartbeats 4000000
namespace DL
open PySem PySem.Spec L2
def LD : Option HO → Prop
  | some (.lst _) => True
  | some (.dK _) => True
  | some (.dT _) => True
  | _ => False
def isT : HO → Prop
  | .tbl _ => True
  | _ => False
structure Kp (S : List Addr) (tb : Bool) (H H' : Hp) : Prop where
  keep : ∀ a o, H a = some o → (a ∈ S → ¬ LD (some o)) → (tb = true → ¬ isT o) → H' a = some o
  dom : ∀ a, H' a = none → H a = none
theorem Kp.refl {S : List Addr} {tb : Bool} (H : Hp) : Kp S tb H H := ⟨fun _ _ h _ _ => h, fun _ h => h⟩
theorem Kp.trans {S : List Addr} {tb : Bool} {H H1 H2 : Hp} (p : Kp S tb H H1) (q : Kp S tb H1 H2) : Kp S tb H H2 :=
  ⟨fun a o h n t => q.keep a o (p.keep a o h n t) n t, fun a h => p.dom a (q.dom a h)⟩
theorem Kp.of_same {S : List Addr} {tb : Bool} {H H' : Hp} (s : Same H H') : Kp S tb H H' := ⟨fun a o h _ _ => s a o h, fun _ h => s.free h⟩
theorem Kp.same {H H' : Hp} (p : Kp [] false H H') : Same H H' := fun a o h => p.keep a o h (fun z => by cases z) (fun z => by cases z)
theorem Kp.mono {S T : List Addr} {tb tc : Bool} {H H' : Hp} (p : Kp S tb H H') (h : ∀ a ∈ S, a ∈ T) (ht : tb = true → tc = true) : Kp T tc H H' :=
  ⟨fun a o e n t => p.keep a o e (fun z => n (h a z)) fun z => t (ht z), p.dom⟩
theorem Kp.upd {S : List Addr} {tb : Bool} {H : Hp} {a : Addr} {o o' : HO} (ha : a ∈ S) (h : H a = some o) (m : LD (some o)) : Kp S tb H (upd H a o') :=
  ⟨fun b u e n _ => by
    by_cases hb : b = a
    · subst hb; rw [h] at e; cases e; exact absurd m (n ha)
    · rw [upd_ne hb]; exact e, fun b e => by
    by_cases hb : b = a
    · subst hb; rw [upd_same] at e; cases e
    · rw [upd_ne hb] at e; exact e⟩
theorem same_new {H : Hp} {p : Addr} {o : HO} (h : H p = none) : Same H (upd H p o) := fun b u e => by
  rw [upd_ne (ne_of_none e h)]; exact e
def kD : Key → PyData
  | .inl i => .int i
  | .inr x => .str x
def tD (k : List Key) : PyData := .tuple (k.map kD)
def nt (ns : List Int) : PyData := .dict [(.none, .tuple (ns.map .int))]
def isNt : List (PyData × PyData) → Bool
  | (.none, _) :: _ => true
  | _ => false
def isLk : List (PyData × PyData) → Bool
  | (.bool false, _) :: _ => true
  | (.list _, _) :: _ => true
  | _ => false
mutual
inductive Own (K : PySem.W.Frag) (H : Hp) : V → PyData → List Addr → Prop
  | non : Own K H .non .none []
  | bl (b : Bool) : Own K H (.bl b) (.bool b) []
  | int (i : Int) : Own K H (.int i) (.int i) []
  | str (x : Str) : Own K H (.str x) (.str x) []
  | tup {a : Addr} {xs : List V} {ds : List PyData} {B : List Addr} : SqT K H a xs → xs.length ≤ sizeLine → OwnL K H xs ds B → Own K H (.ref a) (.tuple ds) B
  | lst {a : Addr} {xs : List V} {ds : List PyData} {B : List Addr} : H a = some (.lst xs) → xs.length ≤ sizeLine → OwnL K H xs ds B → Own K H (.ref a) (.list ds) (a :: B)
  | dK {a : Addr} {kvs : List (Key × V)} {ds : List PyData} {B : List Addr} : H a = some (.dK kvs) → OwnL K H (kvs.map (·.2)) ds B → Own K H (.ref a) (.dict ((kvs.map fun p => kD p.1).zip ds)) (a :: B)
  | dT {a : Addr} {kvs : List (List Key × V)} {ds : List PyData} {B : List Addr} : H a = some (.dT kvs) → OwnL K H (kvs.map (·.2)) ds B → Own K H (.ref a) (.dict ((.bool true, .none) :: (kvs.map fun p => tD p.1).zip ds)) (a :: B)
  | lk {a : Addr} {o : Obj} {kvs : List (Key × Int)} : H a = some (.frz o (.dK (kvs.map fun e => (e.1, V.int e.2)))) → Own K H (.ref a) (.dict ((.bool false, .none) :: kvs.map fun e => (kD e.1, .int e.2))) []
  | lt {a : Addr} {o : Obj} {kvs : List (List Key × Int)} : H a = some (.frz o (.dT (kvs.map fun e => (e.1, V.int e.2)))) → Own K H (.ref a) (.dict ((.list [], .none) :: kvs.map fun e => (tD e.1, .int e.2))) []
  | nd {a : Addr} {o : Obj} {ns : List Int} : H a = some (.frz o (.tup (ns.map .int))) → o.cls = .type "tuple" → o.dict = none → ns.length ≤ sizeLine → Own K H (.ref a) (.dict [(.none, .tuple (ns.map .int))]) []
inductive OwnL (K : PySem.W.Frag) (H : Hp) : List V → List PyData → List Addr → Prop
  | nil : OwnL K H [] [] []
  | cons {x : V} {xs : List V} {d : PyData} {ds : List PyData} {B C : List Addr} : Own K H x d B → OwnL K H xs ds C → OwnL K H (x :: xs) (d :: ds) (B ++ C)
end
theorem SqT.kpM {K : PySem.W.Frag} {H H' : Hp} {a : Addr} {xs : List V} (k : ∀ b o, H b = some o → ¬ LD (some o) → ¬ isT o → H' b = some o) (h : SqT K H a xs) : SqT K H' a xs := by
  rcases h with (h | ⟨o, h⟩) | h
  · exact .inl (.inl (k _ _ h (fun z => z) fun z => z))
  · exact .inl (.inr ⟨o, k _ _ h (fun z => z) fun z => z⟩)
  · exact .inr h
section
variable {K : PySem.W.Frag} {S : List Addr} {H H' : Hp}
mutual
theorem Own.stay (k : ∀ b o, H b = some o → ¬ LD (some o) → ¬ isT o → H' b = some o) : ∀ {x : V} {d : PyData} {B : List Addr}, Own K H x d B → (∀ b ∈ B, ∀ o, H b = some o → H' b = some o) → Own K H' x d B
  | _, _, _, .non, _ => .non
  | _, _, _, .bl b, _ => .bl b
  | _, _, _, .int i, _ => .int i
  | _, _, _, .str x, _ => .str x
  | _, _, _, .tup h z l, n => .tup (SqT.kpM k h) z (OwnL.stay k l n)
  | _, _, _, .lst h z l, n => .lst (n _ List.mem_cons_self _ h) z (OwnL.stay k l fun b hb => n b (List.mem_cons_of_mem _ hb))
  | _, _, _, .dK h l, n => .dK (n _ List.mem_cons_self _ h) (OwnL.stay k l fun b hb => n b (List.mem_cons_of_mem _ hb))
  | _, _, _, .dT h l, n => .dT (n _ List.mem_cons_self _ h) (OwnL.stay k l fun b hb => n b (List.mem_cons_of_mem _ hb))
  | _, _, _, .lk h, _ => .lk (k _ _ h (fun z => z) fun z => z)
  | _, _, _, .lt h, _ => .lt (k _ _ h (fun z => z) fun z => z)
  | _, _, _, .nd h c e z, _ => .nd (k _ _ h (fun z => z) fun z => z) c e z
theorem OwnL.stay (k : ∀ b o, H b = some o → ¬ LD (some o) → ¬ isT o → H' b = some o) : ∀ {xs : List V} {ds : List PyData} {B : List Addr}, OwnL K H xs ds B → (∀ b ∈ B, ∀ o, H b = some o → H' b = some o) → OwnL K H' xs ds B
  | _, _, _, .nil, _ => .nil
  | _, _, _, .cons h l, n => .cons (Own.stay k h fun b hb => n b (List.mem_append_left _ hb)) (OwnL.stay k l fun b hb => n b (List.mem_append_right _ hb))
end
theorem Own.same {x : V} {d : PyData} {B : List Addr} (s : Same H H') (h : Own K H x d B) : Own K H' x d B := h.stay (fun b o e _ _ => s b o e) fun b _ o e => s b o e
theorem OwnL.same {xs : List V} {ds : List PyData} {B : List Addr} (s : Same H H') (h : OwnL K H xs ds B) : OwnL K H' xs ds B := h.stay (fun b o e _ _ => s b o e) fun b _ o e => s b o e
mutual
theorem Own.mut : ∀ {x : V} {d : PyData} {B : List Addr}, Own K H x d B → ∀ b ∈ B, LD (H b)
  | _, _, _, .non, _, h => by cases h
  | _, _, _, .bl _, _, h => by cases h
  | _, _, _, .int _, _, h => by cases h
  | _, _, _, .str _, _, h => by cases h
  | _, _, _, .tup _ _ l, b, h => OwnL.mut l b h
  | _, _, _, .lst e _ l, b, h => by
    rcases List.mem_cons.mp h with rfl | h
    · rw [e]; trivial
    · exact OwnL.mut l b h
  | _, _, _, .dK e l, b, h => by
    rcases List.mem_cons.mp h with rfl | h
    · rw [e]; trivial
    · exact OwnL.mut l b h
  | _, _, _, .dT e l, b, h => by
    rcases List.mem_cons.mp h with rfl | h
    · rw [e]; trivial
    · exact OwnL.mut l b h
  | _, _, _, .lk _, _, h => by cases h
  | _, _, _, .lt _, _, h => by cases h
  | _, _, _, .nd _ _ _ _, _, h => by cases h
theorem OwnL.mut : ∀ {xs : List V} {ds : List PyData} {B : List Addr}, OwnL K H xs ds B → ∀ b ∈ B, LD (H b)
  | _, _, _, .nil, _, h => by cases h
  | _, _, _, .cons e l, b, h => by
    rcases List.mem_append.mp h with h | h
    · exact Own.mut e b h
    · exact OwnL.mut l b h
end
theorem mut_some {o : Option HO} (h : LD o) : o ≠ none := fun e => by rw [e] at h; exact h
theorem ld_not {H : Hp} {b : Addr} {o : HO} (h : LD (H b)) (e : H b = some o) : ¬ isT o := fun z => by
  rw [e] at h
  cases o <;> first | exact h | exact z
theorem Own.kp {tb : Bool} (p : Kp S tb H H') {x : V} {d : PyData} {B : List Addr} (h : Own K H x d B) (n : ∀ b ∈ B, b ∉ S) : Own K H' x d B :=
  h.stay (fun b o e z y => p.keep b o e (fun _ => z) fun _ => y) fun b hb o e => p.keep b o e (fun z => absurd z (n b hb)) fun _ => ld_not (h.mut b hb) e
theorem OwnL.kp {tb : Bool} (p : Kp S tb H H') {xs : List V} {ds : List PyData} {B : List Addr} (h : OwnL K H xs ds B) (n : ∀ b ∈ B, b ∉ S) : OwnL K H' xs ds B :=
  h.stay (fun b o e z y => p.keep b o e (fun _ => z) fun _ => y) fun b hb o e => p.keep b o e (fun z => absurd z (n b hb)) fun _ => ld_not (h.mut b hb) e
theorem Own.isS {x : V} {d : PyData} {B : List Addr} (h : Own K H x d B) : ∀ b ∈ B, H b ≠ none := fun b hb => mut_some (h.mut b hb)
theorem OwnL.isS {xs : List V} {ds : List PyData} {B : List Addr} (h : OwnL K H xs ds B) : ∀ b ∈ B, H b ≠ none := fun b hb => mut_some (h.mut b hb)
theorem OwnL.length : ∀ {xs : List V} {ds : List PyData} {B : List Addr}, OwnL K H xs ds B → xs.length = ds.length
  | _, _, _, .nil => rfl
  | _, _, _, .cons _ l => by rw [List.length_cons, List.length_cons, OwnL.length l]
theorem OwnL.get : ∀ {xs : List V} {ds : List PyData} {B : List Addr}, OwnL K H xs ds B → ∀ {i : Nat} {d : PyData}, ds[i]? = some d → ∃ x C, xs[i]? = some x ∧ Own K H x d C ∧ ∀ c ∈ C, c ∈ B
  | _, _, _, .nil, _, _, h => by simp at h
  | _, _, _, .cons e l, 0, _, h => by
    cases h
    exact ⟨_, _, rfl, e, fun c hc => List.mem_append_left _ hc⟩
  | _, _, _, .cons e l, i + 1, _, h => by
    obtain ⟨x, C, h1, h2, h3⟩ := OwnL.get l (i := i) (by simpa using h)
    exact ⟨x, C, by simpa using h1, h2, fun c hc => List.mem_append_right _ (h3 c hc)⟩
theorem OwnL.getV {xs : List V} {ds : List PyData} {B : List Addr} (h : OwnL K H xs ds B) {i : Nat} {x : V} (e : xs[i]? = some x) : ∃ d C, ds[i]? = some d ∧ Own K H x d C ∧ ∀ c ∈ C, c ∈ B := by
  have hi : i < ds.length := by rw [← h.length]; exact (List.getElem?_eq_some_iff.mp e).1
  obtain ⟨y, C, h1, h2, h3⟩ := h.get (i := i) (d := ds[i]) (by simp [hi])
  rw [e] at h1; cases h1
  exact ⟨_, C, by simp [hi], h2, h3⟩
theorem OwnL.append : ∀ {xs ys : List V} {ds es : List PyData} {B C : List Addr}, OwnL K H xs ds B → OwnL K H ys es C → OwnL K H (xs ++ ys) (ds ++ es) (B ++ C)
  | _, _, _, _, _, _, .nil, h => h
  | _, _, _, _, _, _, .cons e l, h => by rw [List.append_assoc]; exact .cons e (OwnL.append l h)
end
mutual
def imm : PyData → Bool
  | .none => true
  | .bool _ => true
  | .int _ => true
  | .str _ => true
  | .list _ => false
  | .tuple l => immAll l
  | .dict l => isNt l || isLk l
def immAll : List PyData → Bool
  | [] => true
  | d :: l => imm d && immAll l
end
theorem immAll_iff : ∀ {l : List PyData}, immAll l = true ↔ ∀ d ∈ l, imm d = true
  | [] => by simp [immAll]
  | d :: l => by simp [immAll, immAll_iff (l := l)]
section
variable {K : PySem.W.Frag} {H : Hp}
mutual
theorem Own.imm : ∀ {x : V} {d : PyData} {B : List Addr}, Own K H x d B → DL.imm d = true → B = []
  | _, _, _, .non, _ => rfl
  | _, _, _, .bl _, _ => rfl
  | _, _, _, .int _, _ => rfl
  | _, _, _, .str _, _ => rfl
  | _, _, _, .tup _ _ l, h => OwnL.imm l (by simpa only [DL.imm] using h)
  | _, _, _, .lst _ _ _, h => by simp [DL.imm] at h
  | _, _, _, .dK (kvs := kvs) (ds := ds) _ _, h => by
    rw [DL.imm] at h
    cases kvs with
    | nil => cases h
    | cons p kvs =>
      cases ds with
      | nil => cases h
      | cons d ds => rcases p with ⟨k | k, v⟩ <;> cases h
  | _, _, _, .dT _ _, h => by
    rw [DL.imm] at h
    cases h
  | _, _, _, .lk _, _ => rfl
  | _, _, _, .lt _, _ => rfl
  | _, _, _, .nd _ _ _ _, _ => rfl
theorem OwnL.imm : ∀ {xs : List V} {ds : List PyData} {B : List Addr}, OwnL K H xs ds B → DL.immAll ds = true → B = []
  | _, _, _, .nil, _ => rfl
  | _, _, _, .cons e l, h => by
    simp only [DL.immAll, Bool.and_eq_true] at h
    rw [Own.imm e h.1, OwnL.imm l h.2]; rfl
end
end
abbrev Ro := List (Option PyData)
structure EnvP (K : PySem.W.Frag) (H : Hp) (σ : St) (r : Ro) : Prop where
  len : r.length = σ.length
  at' : ∀ (i : Nat) (d : PyData), r[i]? = some (some d) → ∃ x B, σ[i]? = some (some x) ∧ Own K H x d B
theorem EnvP.same {K : PySem.W.Frag} {H H' : Hp} {σ : St} {r : Ro} (e : EnvP K H σ r) (s : Same H H') : EnvP K H' σ r := ⟨e.len, fun i d h =>
  let ⟨x, B, h1, h2⟩ := e.at' i d h
  ⟨x, B, h1, h2.same s⟩⟩
def tP (K : PySem.W.Frag) (r : Ro) (d : PyData) : TE := fun σ H Q => EnvP K H σ r ∧ ∀ x H' B, Same H H' → Own K H' x d B → Q x H'
def tF (K : PySem.W.Frag) (r : Ro) (d : PyData) : TE := fun σ H Q => EnvP K H σ r ∧ ∀ x H' B, Same H H' → Own K H' x d B → B.Nodup → (∀ b ∈ B, H b = none) → Q x H'
def tT (K : PySem.W.Frag) (r : Ro) (b : Bool) : TT := fun σ H Q => EnvP K H σ r ∧ ∀ H', Same H H' → Q b H'
def tPs (K : PySem.W.Frag) (r : Ro) (ds : List PyData) : TA := fun σ H Q => EnvP K H σ r ∧ ∀ xs H' B, Same H H' → OwnL K H' xs ds B → Q xs H'
def tFs (K : PySem.W.Frag) (r : Ro) (ds : List PyData) : TA := fun σ H Q => EnvP K H σ r ∧ ∀ xs H' B, Same H H' → OwnL K H' xs ds B → B.Nodup → (∀ b ∈ B, H b = none) → Q xs H'
theorem PE.imp {X : Cx} {e : Expr} {t t' : TE} (h : PE X e t) (w : ∀ σ H Q, t' σ H Q → t σ H Q) : PE X e t' := ⟨fun pins s σ H Q I q => h.run pins s σ H Q I (w σ H Q q)⟩
theorem PT.imp {X : Cx} {e : Expr} {t t' : TT} (h : PT X e t) (w : ∀ σ H Q, t' σ H Q → t σ H Q) : PT X e t' := ⟨fun pins s σ H Q I q => h.run pins s σ H Q I (w σ H Q q)⟩
theorem PW.imp {X : Cx} {e : Expr} {t t' : TT} (h : PW X e t) (w : ∀ σ H Q, t' σ H Q → t σ H Q) : PW X e t' := ⟨fun wh pins s σ H Q I q => h.run wh pins s σ H Q I (w σ H Q q)⟩
theorem PA.imp {X : Cx} {es : List Expr} {t t' : TA} (h : PA X es t) (w : ∀ σ H Q, t' σ H Q → t σ H Q) : PA X es t' := ⟨fun pos pins s σ H Q I q => h.run pos pins s σ H Q I (w σ H Q q)⟩
theorem PS.imp {X : Cx} {st : Stmt} {t t' : TS} (h : PS X st t) (w : ∀ D σ H, t' D σ H → t D σ H) : PS X st t' := ⟨fun pins s σ H D I q => h.run pins s σ H D I (w D σ H q)⟩
theorem PSs.imp {X : Cx} {st : List Stmt} {t t' : TS} (h : PSs X st t) (w : ∀ D σ H, t' D σ H → t D σ H) : PSs X st t' := ⟨fun pins s σ H D I q => h.run pins s σ H D I (w D σ H q)⟩
theorem PI.imp {X : Cx} {tg e : Expr} {t t' : TI} (h : PI X tg e t) (w : ∀ σ H R, t' σ H R → t σ H R) : PI X tg e t' := ⟨fun pins s σ H R I q => h.run pins s σ H R I (w σ H R q)⟩
section
variable {X : Cx} {r : Ro} {a b c e : Expr} {es : List Expr} {pos : Pos} {d d1 d2 : PyData}
theorem toP (h : PE X e (tF X.K r d)) : PE X e (tP X.K r d) := PE.imp h fun _ _ _ ⟨he, k⟩ => ⟨he, fun x H' B s o _ _ => k x H' B s o⟩
theorem toF (h : PE X e (tP X.K r d)) (hi : imm d = true) : PE X e (tF X.K r d) := PE.imp h fun _ _ _ ⟨he, k⟩ => ⟨he, fun x H' B s o => by
  have z := o.imm hi
  subst z
  exact k x H' [] s o List.nodup_nil fun _ q => by cases q⟩
theorem cP (h : PE X e (tP X.K r d)) (hd : d = d1) : PE X e (tP X.K r d1) := hd ▸ h
theorem cF (h : PE X e (tF X.K r d)) (hd : d = d1) : PE X e (tF X.K r d1) := hd ▸ h
inductive Leaf : V → PyData → Prop
  | non : Leaf .non .none
  | bl (b : Bool) : Leaf (.bl b) (.bool b)
  | int (i : Int) : Leaf (.int i) (.int i)
  | str (x : Str) : Leaf (.str x) (.str x)
theorem Leaf.own {K : PySem.W.Frag} {H : Hp} {v : V} (l : Leaf v d) : Own K H v d [] := by
  cases l with
  | non => exact .non
  | bl b => exact .bl b
  | int i => exact .int i
  | str x => exact .str x
theorem Own.int_inv {K : PySem.W.Frag} {H : Hp} {v : V} {i : Int} {B : List Addr} (o : Own K H v (.int i) B) : v = .int i := by cases o; rfl
theorem Own.bl_inv {K : PySem.W.Frag} {H : Hp} {v : V} {i : Bool} {B : List Addr} (o : Own K H v (.bool i) B) : v = .bl i := by cases o; rfl
theorem Own.str_inv {K : PySem.W.Frag} {H : Hp} {v : V} {i : Str} {B : List Addr} (o : Own K H v (.str i) B) : v = .str i := by cases o; rfl
theorem Own.non_inv {K : PySem.W.Frag} {H : Hp} {v : V} {B : List Addr} (o : Own K H v .none B) : v = .non := by cases o; rfl
theorem Own.tup_inv {K : PySem.W.Frag} {H : Hp} {v : V} {ds : List PyData} {B : List Addr} (o : Own K H v (.tuple ds) B) : ∃ a xs, v = .ref a ∧ SqT K H a xs ∧ OwnL K H xs ds B ∧ xs.length ≤ sizeLine := by
  cases o with
  | tup h z l => exact ⟨_, _, rfl, h, l, z⟩
theorem Own.lst_inv {K : PySem.W.Frag} {H : Hp} {v : V} {ds : List PyData} {B : List Addr} (o : Own K H v (.list ds) B) : ∃ a xs C, v = .ref a ∧ H a = some (.lst xs) ∧ OwnL K H xs ds C ∧ xs.length ≤ sizeLine ∧ B = a :: C := by
  cases o with
  | lst h z l => exact ⟨_, _, _, rfl, h, l, z, rfl⟩
theorem pf_leaf {v : V} (h : PE X e (tC v)) (l : Leaf v d) : PE X e (tF X.K r d) := PE.imp h fun _ H _ ⟨_, k⟩ => k v H [] (Same.refl H) l.own List.nodup_nil fun _ q => by cases q
theorem pf_int {i j} : PE X (.Constant (.int i) j pos) (tF X.K r (.int i)) := pf_leaf pe_int (.int i)
theorem pf_bl {i j} : PE X (.Constant (.bool i) j pos) (tF X.K r (.bool i)) := pf_leaf pe_bl (.bl i)
theorem pf_non {j} : PE X (.Constant .none j pos) (tF X.K r .none) := pf_leaf pe_non .non
theorem pf_str {x j} : PE X (.Constant (.str x) j pos) (tF X.K r (.str x)) := pf_leaf pe_str (.str x)
theorem pp_var (i : Nat) (h : PE X e (tVar i)) (hd : r[i]? = some (some d) := by rfl) : PE X e (tP X.K r d) := PE.imp h fun _ H _ ⟨he, k⟩ =>
  let ⟨x, B, h1, h2⟩ := he.at' i d hd
  ⟨x, h1, k x H B (Same.refl H) h2⟩
theorem pf_op {op : Operator} {r2 : R2} {v : V} (ho : OpR X (binaryOp op) r2) (ha : PE X a (tP X.K r d1)) (hb : PE X b (tP X.K r d2))
    (h : ∀ H x y B C, Own X.K H x d1 B → Own X.K H y d2 C → ∀ Q : VK, Q v H → r2 x y H Q) (l : Leaf v d) : PE X (.BinOp a op b pos) (tF X.K r d) :=
  PE.imp (pe_op ho ha hb) fun _ H _ ⟨he, k⟩ => ⟨he, fun x H1 B s1 o1 => ⟨he.same s1, fun y H2 C s2 o2 =>
    h H2 x y B C (o1.same s2) o2 _ (k v H2 [] (s1.trans s2) l.own List.nodup_nil fun _ q => by cases q)⟩⟩
theorem pf_cmp {op : CmpOp} {r2 : R2} {v : V} (ho : OpR X (compareOp op) r2) (ha : PE X a (tP X.K r d1)) (hb : PE X b (tP X.K r d2))
    (h : ∀ H x y B C, Own X.K H x d1 B → Own X.K H y d2 C → ∀ Q : VK, Q v H → r2 x y H Q) (l : Leaf v d) (hm : behindInMarks op b = false := by rfl) : PE X (.Compare a [op] [b] pos) (tF X.K r d) :=
  PE.imp (pe_cmpR ho ha hb hm) fun _ H _ ⟨he, k⟩ => ⟨he, fun x H1 B s1 o1 => ⟨he.same s1, fun y H2 C s2 o2 =>
    h H2 x y B C (o1.same s2) o2 _ (k v H2 [] (s1.trans s2) l.own List.nodup_nil fun _ q => by cases q)⟩⟩
variable {i j : Int}
theorem pf_add (ha : PE X a (tP X.K r (.int i))) (hb : PE X b (tP X.K r (.int j))) : PE X (.BinOp a .Add b pos) (tF X.K r (.int (i + j))) :=
  pf_op (v := .int (i + j)) op_add ha hb (fun _ _ _ _ _ o1 o2 _ q => by cases o1; cases o2; exact ⟨_, _, rfl, rfl, q⟩) (.int _)
theorem pf_sub (ha : PE X a (tP X.K r (.int i))) (hb : PE X b (tP X.K r (.int j))) : PE X (.BinOp a .Sub b pos) (tF X.K r (.int (i - j))) :=
  pf_op (v := .int (i - j)) op_sub ha hb (fun _ _ _ _ _ o1 o2 _ q => by cases o1; cases o2; exact ⟨_, _, rfl, rfl, q⟩) (.int _)
theorem pf_mul (ha : PE X a (tP X.K r (.int i))) (hb : PE X b (tP X.K r (.int j))) (hc : CMul i j) : PE X (.BinOp a .Mult b pos) (tF X.K r (.int (i * j))) :=
  pf_op (v := .int (i * j)) op_mul ha hb (fun _ _ _ _ _ o1 o2 _ q => by cases o1; cases o2; exact ⟨_, _, rfl, rfl, hc, q⟩) (.int _)
theorem pf_mod (ha : PE X a (tP X.K r (.int i))) (hb : PE X b (tP X.K r (.int j))) (hc : 0 < j) : PE X (.BinOp a .Mod b pos) (tF X.K r (.int (i % j))) :=
  pf_op (v := .int (i % j)) op_mod ha hb (fun _ _ _ _ _ o1 o2 _ q => by cases o1; cases o2; exact ⟨_, _, rfl, rfl, hc, q⟩) (.int _)
theorem pf_fdiv (ha : PE X a (tP X.K r (.int i))) (hb : PE X b (tP X.K r (.int j))) (hc : CDiv i j) : PE X (.BinOp a .FloorDiv b pos) (tF X.K r (.int (i / j))) :=
  pf_op (v := .int (i / j)) op_fdiv ha hb (fun _ _ _ _ _ o1 o2 _ q => by cases o1; cases o2; exact ⟨_, _, rfl, rfl, hc, q⟩) (.int _)
theorem pf_neg (ha : PE X a (tP X.K r (.int i))) : PE X (.UnaryOp .USub a pos) (tF X.K r (.int (-i))) :=
  PE.imp (pe_un un_neg ha) fun _ H _ ⟨he, k⟩ => ⟨he, fun x H1 B s1 o1 => by
    cases o1
    exact ⟨_, rfl, k _ H1 [] s1 (.int _) List.nodup_nil fun _ q => by cases q⟩⟩
theorem pf_lt (ha : PE X a (tP X.K r (.int i))) (hb : PE X b (tP X.K r (.int j))) : PE X (.Compare a [.Lt] [b] pos) (tF X.K r (.bool (decide (i < j)))) :=
  pf_cmp (v := .bl _) op_lt ha hb (fun _ _ _ _ _ o1 o2 _ q => by cases o1; cases o2; exact ⟨_, _, rfl, rfl, q⟩) (.bl _) (nomark _)
theorem pf_le (ha : PE X a (tP X.K r (.int i))) (hb : PE X b (tP X.K r (.int j))) : PE X (.Compare a [.LtE] [b] pos) (tF X.K r (.bool (decide (i ≤ j)))) :=
  pf_cmp (v := .bl _) op_le ha hb (fun _ _ _ _ _ o1 o2 _ q => by cases o1; cases o2; exact ⟨_, _, rfl, rfl, q⟩) (.bl _) (nomark _)
theorem pf_gt (ha : PE X a (tP X.K r (.int i))) (hb : PE X b (tP X.K r (.int j))) : PE X (.Compare a [.Gt] [b] pos) (tF X.K r (.bool (decide (j < i)))) :=
  pf_cmp (v := .bl _) op_gt ha hb (fun _ _ _ _ _ o1 o2 _ q => by cases o1; cases o2; exact ⟨_, _, rfl, rfl, q⟩) (.bl _) (nomark _)
theorem pf_ge (ha : PE X a (tP X.K r (.int i))) (hb : PE X b (tP X.K r (.int j))) : PE X (.Compare a [.GtE] [b] pos) (tF X.K r (.bool (decide (j ≤ i)))) :=
  pf_cmp (v := .bl _) op_ge ha hb (fun _ _ _ _ _ o1 o2 _ q => by cases o1; cases o2; exact ⟨_, _, rfl, rfl, q⟩) (.bl _) (nomark _)
theorem pf_eqI (ha : PE X a (tP X.K r (.int i))) (hb : PE X b (tP X.K r (.int j))) : PE X (.Compare a [.Eq] [b] pos) (tF X.K r (.bool (decide (i = j)))) :=
  pf_cmp (v := .bl _) op_eq ha hb (fun _ _ _ _ _ o1 o2 _ q => by
    cases o1; cases o2
    refine ⟨rfl, ?_⟩
    rw [show decide (V.int i = V.int j) = decide (i = j) by rw [dec_int]; exact Bool.beq_eq_decide_eq i j]
    exact q) (.bl _) (nomark _)
theorem pf_neI (ha : PE X a (tP X.K r (.int i))) (hb : PE X b (tP X.K r (.int j))) : PE X (.Compare a [.NotEq] [b] pos) (tF X.K r (.bool (!decide (i = j)))) :=
  pf_cmp (v := .bl _) op_ne ha hb (fun _ _ _ _ _ o1 o2 _ q => by
    cases o1; cases o2
    refine ⟨rfl, ?_⟩
    rw [show decide (V.int i = V.int j) = decide (i = j) by rw [dec_int]; exact Bool.beq_eq_decide_eq i j]
    exact q) (.bl _) (nomark _)
theorem pf_eqS {x y : Str} (ha : PE X a (tP X.K r (.str x))) (hb : PE X b (tP X.K r (.str y))) : PE X (.Compare a [.Eq] [b] pos) (tF X.K r (.bool (decide (x = y)))) :=
  pf_cmp (v := .bl _) op_eq ha hb (fun _ _ _ _ _ o1 o2 _ q => by
    cases o1; cases o2
    refine ⟨rfl, ?_⟩
    rw [show decide (V.str x = V.str y) = decide (x = y) by simp only [V.str.injEq]]
    exact q) (.bl _) (nomark _)
theorem pf_neS {x y : Str} (ha : PE X a (tP X.K r (.str x))) (hb : PE X b (tP X.K r (.str y))) : PE X (.Compare a [.NotEq] [b] pos) (tF X.K r (.bool (!decide (x = y)))) :=
  pf_cmp (v := .bl _) op_ne ha hb (fun _ _ _ _ _ o1 o2 _ q => by
    cases o1; cases o2
    refine ⟨rfl, ?_⟩
    rw [show decide (V.str x = V.str y) = decide (x = y) by simp only [V.str.injEq]]
    exact q) (.bl _) (nomark _)
end
end DL
end
section
set_option Elab.async false
set_option linter.all false
set_option maxRecDepth 100000
set_option maxHeartbeats 4000000
namespace DL
open PySem PySem.Spec L2
section
variable {K : PySem.W.Frag} {H : Hp}
theorem OwnL.atI {xs : List V} {ds : List PyData} {B : List Addr} (h : OwnL K H xs ds B) {i : Int} {d : PyData} (e : L2.atI ds i = some d) : ∃ x C, L2.atI xs i = some x ∧ Own K H x d C ∧ ∀ c ∈ C, c ∈ B := by
  unfold L2.atI at e ⊢
  rw [h.length]
  cases q : L2.ixN ds.length i with
  | none => rw [q] at e; cases e
  | some j =>
    rw [q] at e
    exact h.get (i := j) e
theorem OwnL.drop : ∀ {xs : List V} {ds : List PyData} {B : List Addr} (n : Nat), OwnL K H xs ds B → ∃ C, OwnL K H (xs.drop n) (ds.drop n) C ∧ ∀ c ∈ C, c ∈ B
  | _, _, B, 0, h => ⟨B, h, fun _ q => q⟩
  | _, _, _, _ + 1, .nil => ⟨[], .nil, fun _ q => q⟩
  | _, _, _, n + 1, .cons e l =>
    let ⟨C, h1, h2⟩ := OwnL.drop n l
    ⟨C, h1, fun c q => List.mem_append_right _ (h2 c q)⟩
theorem OwnL.take : ∀ {xs : List V} {ds : List PyData} {B : List Addr} (n : Nat), OwnL K H xs ds B → ∃ C, OwnL K H (xs.take n) (ds.take n) C ∧ ∀ c ∈ C, c ∈ B
  | _, _, _, 0, _ => ⟨[], .nil, fun _ q => by cases q⟩
  | _, _, _, _ + 1, .nil => ⟨[], .nil, fun _ q => q⟩
  | _, _, _, n + 1, .cons e l =>
    let ⟨C, h1, h2⟩ := OwnL.take n l
    ⟨_, .cons e h1, fun c q => by
      rcases List.mem_append.mp q with q | q
      · exact List.mem_append_left _ q
      · exact List.mem_append_right _ (h2 c q)⟩
theorem OwnL.single {x : V} {d : PyData} {B : List Addr} (h : Own K H x d B) : OwnL K H [x] [d] B := by
  have := OwnL.cons h OwnL.nil
  rwa [List.append_nil] at this
theorem OwnL.leafs {f : α → V} {g : α → PyData} (h : ∀ a, Leaf (f a) (g a)) : ∀ l : List α, OwnL K H (l.map f) (l.map g) []
  | [] => .nil
  | a :: l => .cons (h a).own (OwnL.leafs h l)
theorem OwnL.ints_inv : ∀ {xs : List V} {ns : List Int} {B : List Addr}, OwnL K H xs (ns.map .int) B → xs = ns.map V.int
  | _, [], _, h => by cases h; rfl
  | _, n :: ns, _, h => by
    rw [List.map_cons] at h
    cases h with
    | cons e l => rw [e.int_inv, OwnL.ints_inv l]; rfl
theorem OwnL.bls_inv : ∀ {xs : List V} {ns : List Bool} {B : List Addr}, OwnL K H xs (ns.map .bool) B → xs = ns.map V.bl
  | _, [], _, h => by cases h; rfl
  | _, n :: ns, _, h => by
    rw [List.map_cons] at h
    cases h with
    | cons e l => rw [e.bl_inv, OwnL.bls_inv l]; rfl
end
def cutD (xs : List PyData) (lo hi : Option Int) : List PyData := (xs.drop (HT.sIx xs.length 0 lo)).take (HT.sIx xs.length xs.length hi - HT.sIx xs.length 0 lo)
theorem OwnL.cut {K : PySem.W.Frag} {H : Hp} {xs : List V} {ds : List PyData} {B : List Addr} (h : OwnL K H xs ds B) (lo hi : Option Int) : ∃ C, OwnL K H (cutV xs lo hi) (cutD ds lo hi) C ∧ ∀ c ∈ C, c ∈ B := by
  unfold cutV cutD
  rw [h.length]
  obtain ⟨C, h1, h2⟩ := h.drop (HT.sIx ds.length 0 lo)
  obtain ⟨D, h3, h4⟩ := h1.take (HT.sIx ds.length ds.length hi - HT.sIx ds.length 0 lo)
  exact ⟨D, h3, fun c q => h2 c (h4 c q)⟩
theorem cutD_imm {ds : List PyData} (h : immAll ds = true) (lo hi : Option Int) : immAll (cutD ds lo hi) = true :=
  immAll_iff.mpr fun d hd => immAll_iff.mp h d (List.mem_of_mem_drop (List.mem_of_mem_take hd))
section
variable {X : Cx} {r : Ro} {a b c e : Expr} {es : List Expr} {pos : Pos} {d d1 d2 : PyData} {ds ds1 ds2 : List PyData} {i j : Int} {w : Bool}
theorem pas_nil : PA X [] (tPs X.K r []) := PA.imp pa_nil fun _ H _ ⟨_, k⟩ => k [] H [] (Same.refl H) .nil
theorem pas_cons (h : PE X e (tP X.K r d)) (hs : PA X es (tPs X.K r ds)) (hq : starEach (e :: es) X.env = (false, eval e X.env) :: starEach es X.env := by rfl) : PA X (e :: es) (tPs X.K r (d :: ds)) :=
  PA.imp (pa_cons h hs hq) fun _ H _ ⟨he, k⟩ => ⟨he, fun x H1 B s1 o1 => ⟨he.same s1, fun xs H2 C s2 o2 => k (x :: xs) H2 _ (s1.trans s2) (.cons (o1.same s2) o2)⟩⟩
theorem fas_nil : PA X [] (tFs X.K r []) := PA.imp pa_nil fun _ H _ ⟨_, k⟩ => k [] H [] (Same.refl H) .nil List.nodup_nil fun _ q => by cases q
theorem fas_cons (h : PE X e (tF X.K r d)) (hs : PA X es (tFs X.K r ds)) (hq : starEach (e :: es) X.env = (false, eval e X.env) :: starEach es X.env := by rfl) : PA X (e :: es) (tFs X.K r (d :: ds)) :=
  PA.imp (pa_cons h hs hq) fun _ H _ ⟨he, k⟩ => ⟨he, fun x H1 B s1 o1 n1 f1 => ⟨he.same s1, fun xs H2 C s2 o2 n2 f2 => k (x :: xs) H2 _ (s1.trans s2) (.cons (o1.same s2) o2)
    (List.nodup_append.mpr ⟨n1, n2, fun p hp q hq z => o1.isS p hp (by rw [z]; exact f2 q hq)⟩) fun p hp => by
      rcases List.mem_append.mp hp with hp | hp
      · exact f1 p hp
      · exact s1.free (f2 p hp)⟩⟩
theorem pf_tup {k : Nat} (h : PA X es (tFs X.K r ds)) (hz : ds.length ≤ sizeLine := by (first | decide | (show _ ≤ 16777216; decide))) : PE X (.Tuple es k pos) (tF X.K r (.tuple ds)) :=
  PE.imp (pe_tup h) fun _ H _ ⟨he, k⟩ => ⟨he, fun xs H1 B s o n f => by
    have hz' : xs.length ≤ sizeLine := by rw [o.length]; exact hz
    exact ⟨hz', fun p hp => k _ _ B (s.trans (same_new hp)) (.tup (.of upd_same) hz' (o.same (same_new hp))) n f⟩⟩
theorem pf_lst (h : PA X es (tFs X.K r ds)) (hz : ds.length ≤ sizeLine := by (first | decide | (show _ ≤ 16777216; decide))) : PE X (.List es pos) (tF X.K r (.list ds)) :=
  PE.imp (pe_lst h) fun _ H _ ⟨he, k⟩ => ⟨he, fun xs H1 B s o n f => by
    have hz' : xs.length ≤ sizeLine := by rw [o.length]; exact hz
    exact ⟨hz', fun p hp => k _ _ (p :: B) (s.trans (same_new hp)) (.lst upd_same hz' (o.same (same_new hp))) (List.nodup_cons.mpr ⟨fun q => o.isS p q hp, n⟩) fun q hq => by
      rcases List.mem_cons.mp hq with rfl | hq
      · exact s.free hp
      · exact f q hq⟩⟩
theorem pp_ixT (ha : PE X a (tP X.K r (.tuple ds))) (hb : PE X b (tP X.K r (.int i))) (hd : atI ds i = some d) (hs : PlainIx b := by exact fun _ _ => rfl) : PE X (.Subscript a b pos) (tP X.K r d) :=
  PE.imp (pe_ix ix_tup ha hb hs) fun _ H _ ⟨he, k⟩ => ⟨he, fun x H1 B s1 o1 => ⟨he.same s1, fun y H2 C s2 o2 => by
    obtain ⟨p, xs, rfl, hq, ol, _⟩ := (o1.same s2).tup_inv
    obtain ⟨v, D, h1, h2, _⟩ := ol.atI hd
    exact ⟨p, xs, i, v, rfl, o2.int_inv, hq, h1, k v H2 D (s1.trans s2) h2⟩⟩⟩
theorem pp_ixL (ha : PE X a (tP X.K r (.list ds))) (hb : PE X b (tP X.K r (.int i))) (hd : atI ds i = some d) (hs : PlainIx b := by exact fun _ _ => rfl) : PE X (.Subscript a b pos) (tP X.K r d) :=
  PE.imp (pe_ix ix_list ha hb hs) fun _ H _ ⟨he, k⟩ => ⟨he, fun x H1 B s1 o1 => ⟨he.same s1, fun y H2 C s2 o2 => by
    obtain ⟨p, xs, E, rfl, hq, ol, _⟩ := (o1.same s2).lst_inv
    obtain ⟨v, D, h1, h2, _⟩ := ol.atI hd
    exact ⟨p, xs, i, v, rfl, o2.int_inv, .of hq, h1, k v H2 D (s1.trans s2) h2⟩⟩⟩
def tO (K : PySem.W.Frag) (r : Ro) (o : Option Int) : TO := fun σ H Q => EnvP K H σ r ∧ ∀ H', Same H H' → Q o H'
theorem PO.imp {e : Option Expr} {t t' : TO} (h : PO X e t) (w : ∀ σ H Q, t' σ H Q → t σ H Q) : PO X e t' := ⟨fun pins s σ H Q I q => h.run pins s σ H Q I (w σ H Q q)⟩
theorem poN : PO X none (tO X.K r none) := PO.imp po_none fun _ H _ ⟨_, k⟩ => k H (Same.refl H)
theorem poS (h : PE X e (tP X.K r (.int i))) : PO X (some e) (tO X.K r (some i)) := PO.imp (po_some h) fun _ H _ ⟨he, k⟩ => ⟨he, fun x H1 B s o => ⟨i, o.int_inv, k H1 s⟩⟩
theorem sIx_whole {n : Nat} {lo hi : Option Int} (xs : List PyData) (hn : xs.length = n) (h : HT.sIx n 0 lo = 0 ∧ HT.sIx n n hi = n) : cutD xs lo hi = xs := by
  subst hn
  unfold cutD
  rw [h.1, h.2]; simp
theorem pp_slT {lo hi : Option Expr} {l u : Option Int} {p2 : Pos} (ha : PE X a (tP X.K r (.tuple ds))) (hl : PO X lo (tO X.K r l)) (hu : PO X hi (tO X.K r u)) :
    PE X (.Subscript a (.Slice lo hi none p2) pos) (tP X.K r (.tuple (cutD ds l u))) :=
  PE.imp (pe_slice sl_tupA ha hl hu) fun _ H _ ⟨he, k⟩ => ⟨he, fun x H1 B s1 o1 => ⟨he.same s1, fun H2 s2 => ⟨(he.same s1).same s2, fun H3 s3 => by
    obtain ⟨p, xs, rfl, hq, ol, hz⟩ := ((o1.same s2).same s3).tup_inv
    refine ⟨p, xs, rfl, hq, fun hw => ?_, fun hw q hq => ?_⟩
    · rw [sIx_whole ds ol.length.symm hw] at k
      exact k _ H3 B (s1.trans (s2.trans s3)) (.tup ‹_› hz ol)
    · obtain ⟨C, oc, _⟩ := ol.cut l u
      exact k _ _ C ((s1.trans (s2.trans s3)).trans (same_new hq)) (.tup (.of upd_same) (Nat.le_trans (cutV_length xs l u) hz) (oc.same (same_new hq)))⟩⟩⟩
theorem pf_slL {lo hi : Option Expr} {l u : Option Int} {p2 : Pos} (ha : PE X a (tP X.K r (.list ds))) (hi' : immAll ds = true) (hl : PO X lo (tO X.K r l)) (hu : PO X hi (tO X.K r u)) :
    PE X (.Subscript a (.Slice lo hi none p2) pos) (tF X.K r (.list (cutD ds l u))) :=
  PE.imp (pe_slice sl_list ha hl hu) fun _ H _ ⟨he, k⟩ => ⟨he, fun x H1 B s1 o1 => ⟨he.same s1, fun H2 s2 => ⟨(he.same s1).same s2, fun H3 s3 => by
    obtain ⟨p, xs, E, rfl, hq, ol, hz, _⟩ := ((o1.same s2).same s3).lst_inv
    refine ⟨p, xs, rfl, .of hq, fun q hq => ?_⟩
    obtain ⟨C, oc, _⟩ := ol.cut l u
    have hC := oc.imm (cutD_imm hi' l u)
    subst hC
    have s := s1.trans (s2.trans s3)
    exact k _ _ [q] (s.trans (same_new hq)) (.lst upd_same (Nat.le_trans (cutV_length xs l u) hz) (oc.same (same_new hq))) (List.nodup_cons.mpr ⟨List.not_mem_nil, List.nodup_nil⟩) fun z hz => by
      rcases List.mem_cons.mp hz with rfl | hz
      · exact s.free hq
      · cases hz⟩⟩⟩
theorem pp_catT (ha : PE X a (tP X.K r (.tuple ds1))) (hb : PE X b (tP X.K r (.tuple ds2))) (hz : ds1.length + ds2.length ≤ sizeLine) : PE X (.BinOp a .Add b pos) (tP X.K r (.tuple (ds1 ++ ds2))) :=
  PE.imp (pe_op op_catA ha hb) fun _ H _ ⟨he, k⟩ => ⟨he, fun x H1 B s1 o1 => ⟨he.same s1, fun y H2 C s2 o2 => by
    obtain ⟨p, xs, rfl, hp, ol, z1⟩ := (o1.same s2).tup_inv
    obtain ⟨q, ys, rfl, hq, om, z2⟩ := o2.tup_inv
    have hz' : xs.length + ys.length ≤ sizeLine := by rw [ol.length, om.length]; exact hz
    have s := s1.trans s2
    refine ⟨p, q, xs, ys, rfl, rfl, hp, hq, hz', fun e => ?_, fun _ e => ?_, fun _ _ t ht => ?_⟩
    · subst e
      cases ol
      exact k _ H2 C s (.tup hq z2 om)
    · subst e
      cases om
      rw [List.append_nil] at k
      exact k _ H2 B s (.tup hp z1 ol)
    · exact k _ _ _ (s.trans (same_new ht)) (.tup (.of upd_same) (by rw [List.length_append]; exact hz') ((ol.append om).same (same_new ht)))⟩⟩
theorem pf_catL (ha : PE X a (tF X.K r (.list ds1))) (hb : PE X b (tF X.K r (.list ds2))) (hz : ds1.length + ds2.length ≤ sizeLine) : PE X (.BinOp a .Add b pos) (tF X.K r (.list (ds1 ++ ds2))) :=
  PE.imp (pe_op op_cat ha hb) fun _ H _ ⟨he, k⟩ => ⟨he, fun x H1 B s1 o1 n1 f1 => ⟨he.same s1, fun y H2 C s2 o2 n2 f2 => by
    have o1' := o1.same s2
    obtain ⟨p, xs, B', rfl, hp, ol, z1, rfl⟩ := o1'.lst_inv
    obtain ⟨q, ys, C', rfl, hq, om, z2, rfl⟩ := o2.lst_inv
    have hz' : xs.length + ys.length ≤ sizeLine := by rw [ol.length, om.length]; exact hz
    have s := s1.trans s2
    refine ⟨p, q, xs, ys, rfl, rfl, hp, hq, hz', fun t ht => ?_⟩
    have om' := ol.append om
    refine k _ _ (t :: (B' ++ C')) (s.trans (same_new ht)) (.lst upd_same (by rw [List.length_append]; exact hz') (om'.same (same_new ht))) (List.nodup_cons.mpr ⟨fun z => om'.isS t z ht, ?_⟩) fun u hu => ?_
    · exact List.nodup_append.mpr ⟨(List.nodup_cons.mp n1).2, (List.nodup_cons.mp n2).2, fun u hu v hv z => o1.isS u (List.mem_cons_of_mem _ hu) (by rw [z]; exact f2 v (List.mem_cons_of_mem _ hv))⟩
    · rcases List.mem_cons.mp hu with rfl | hu
      · exact s.free ht
      · rcases List.mem_append.mp hu with hu | hu
        · exact f1 u (List.mem_cons_of_mem _ hu)
        · exact s1.free (f2 u (List.mem_cons_of_mem _ hu))⟩⟩
theorem pf_repL {j : Int} (ha : PE X a (tP X.K r (.list ds))) (hi : immAll ds = true) (hb : PE X b (tP X.K r (.int j))) (h0 : 0 ≤ j) (hz : ds.length * j.toNat ≤ sizeLine) (hj : j ≤ sizeLine) : PE X (.BinOp a .Mult b pos) (tF X.K r (.list (List.replicate j.toNat ds).flatten)) :=
  PE.imp (pe_op op_rep ha hb) fun _ H _ ⟨he, k⟩ => ⟨he, fun x H1 B s1 o1 => ⟨he.same s1, fun y H2 C s2 o2 => by
    obtain ⟨p, xs, B', rfl, hp, ol, z1, rfl⟩ := (o1.same s2).lst_inv
    have s := s1.trans s2
    have hs : sizeLine = 16777216 := sizeLine_eq
    refine ⟨p, j, xs, rfl, o2.int_inv, hp, by omega, by omega, by rw [ol.length]; exact hz, fun t ht => ?_⟩
    have rep : ∀ n : Nat, OwnL X.K H2 (List.replicate n xs).flatten (List.replicate n ds).flatten [] := fun n => by
      have hB := ol.imm hi
      subst hB
      induction n with
      | zero => exact .nil
      | succ n ih => rw [List.replicate_succ, List.flatten_cons, List.replicate_succ, List.flatten_cons]; exact ol.append ih
    refine k _ _ [t] (s.trans (same_new ht)) (.lst upd_same ?_ ((rep j.toNat).same (same_new ht))) (List.nodup_cons.mpr ⟨List.not_mem_nil, List.nodup_nil⟩) fun u hu => ?_
    · rw [(rep j.toNat).length, List.length_flatten, List.map_replicate, List.sum_replicate_nat, Nat.mul_comm]; exact hz
    · rcases List.mem_cons.mp hu with rfl | hu
      · exact s.free ht
      · cases hu⟩⟩
theorem pt_of (h : PE X e (tP X.K r (.bool w))) (he : ∀ whole, isTrue e X.env whole = (do let v ← whole; standAt e.pos; holding [v] (truthy v)) := by intro _; rfl) : PT X e (tT X.K r w) :=
  PT.imp (pt_val h he) fun _ H _ ⟨he, k⟩ => ⟨he, fun x H1 B s o => ⟨w, o.bl_inv, k H1 s⟩⟩
theorem pt_cmpD {op : CmpOp} {r2 : R2} {w : Bool} (ho : OpR X (compareOp op) r2) (ha : PE X a (tP X.K r d1)) (hb : PE X b (tP X.K r d2))
    (h : ∀ H x y B C, Own X.K H x d1 B → Own X.K H y d2 C → ∀ Q : VK, Q (.bl w) H → r2 x y H Q) (hm : behindInMarks op b = false := by rfl) : PT X (.Compare a [op] [b] pos) (tT X.K r w) :=
  PT.imp (pt_cmpR ho ha hb hm) fun _ H _ ⟨he, k⟩ => ⟨he, fun x H1 B s1 o1 => ⟨he.same s1, fun y H2 C s2 o2 =>
    h H2 x y B C (o1.same s2) o2 _ ⟨w, rfl, k H2 (s1.trans s2)⟩⟩⟩
theorem pt_not' {w : Bool} (h : PT X e (tT X.K r w)) : PT X (.UnaryOp .Not e pos) (tT X.K r (!w)) := PT.imp (pt_not h) fun _ H _ ⟨he, k⟩ => ⟨he, fun H1 s => k H1 s⟩
theorem pt_falseW : PW X e (fun _ _ _ => False) := ⟨fun _ _ _ _ _ _ _ h => h.elim⟩
theorem pe_falseE : PE X e (fun _ _ _ => False) := ⟨fun _ _ _ _ _ _ h => h.elim⟩
theorem pw_last {w : Bool} {op : PySem.BoolOp} (h : PT X e (tT X.K r w)) (ho : op = .And ∨ op = .Or) : PW X (.BoolOp op [e] pos) (tT X.K r w) := by
  rcases ho with rfl | rfl
  · exact pw_and1 h
  · exact pw_or1 h
theorem pw_andD {w u : Bool} {rest : List Expr} (ha : PT X a (tT X.K r w)) (hb : w = true → PW X (.BoolOp .And (b :: rest) pos) (tT X.K r u)) : PW X (.BoolOp .And (a :: b :: rest) pos) (tT X.K r (w && u)) := by
  cases w with
  | false => exact PW.imp (pw_and ha pt_falseW) fun _ H _ ⟨he, k⟩ => ⟨he, fun H1 s => iteF (k H1 s)⟩
  | true => exact PW.imp (pw_and ha (hb rfl)) fun _ H _ ⟨he, k⟩ => ⟨he, fun H1 s => iteT (⟨he.same s, fun H2 s2 => k H2 (s.trans s2)⟩)⟩
theorem pw_orD {w u : Bool} {rest : List Expr} (ha : PT X a (tT X.K r w)) (hb : w = false → PW X (.BoolOp .Or (b :: rest) pos) (tT X.K r u)) : PW X (.BoolOp .Or (a :: b :: rest) pos) (tT X.K r (w || u)) := by
  cases w with
  | true => exact PW.imp (pw_or ha pt_falseW) fun _ H _ ⟨he, k⟩ => ⟨he, fun H1 s => iteT (k H1 s)⟩
  | false => exact PW.imp (pw_or ha (hb rfl)) fun _ H _ ⟨he, k⟩ => ⟨he, fun H1 s => iteF (⟨he.same s, fun H2 s2 => k H2 (s.trans s2)⟩)⟩
theorem pf_one {op} (h : PE X e (tF X.K r d)) : PE X (.BoolOp op [e] pos) (tF X.K r d) := pe_one h
theorem pf_andD {w : Bool} {u : Bool} {rest : List Expr} (ha : PE X a (tP X.K r (.bool w))) (hb : w = true → PE X (.BoolOp .And (b :: rest) pos) (tF X.K r (.bool u))) : PE X (.BoolOp .And (a :: b :: rest) pos) (tF X.K r (.bool (w && u))) := by
  cases w with
  | false => exact PE.imp (pe_and ha pe_falseE) fun _ H _ ⟨he, k⟩ => ⟨he, fun x H1 B s o => ⟨false, o.bl_inv, iteF (k _ H1 [] s (.bl false) List.nodup_nil fun _ q => by cases q)⟩⟩
  | true => exact PE.imp (pe_and ha (hb rfl)) fun _ H _ ⟨he, k⟩ => ⟨he, fun x H1 B s o => ⟨true, o.bl_inv, iteT (⟨he.same s, fun y H2 C s2 o2 n f => k y H2 C (s.trans s2) o2 n fun b hb => s.free (f b hb)⟩)⟩⟩
theorem pf_orD {w : Bool} {u : Bool} {rest : List Expr} (ha : PE X a (tP X.K r (.bool w))) (hb : w = false → PE X (.BoolOp .Or (b :: rest) pos) (tF X.K r (.bool u))) : PE X (.BoolOp .Or (a :: b :: rest) pos) (tF X.K r (.bool (w || u))) := by
  cases w with
  | true => exact PE.imp (pe_or ha pe_falseE) fun _ H _ ⟨he, k⟩ => ⟨he, fun x H1 B s o => ⟨true, o.bl_inv, iteT (k _ H1 [] s (.bl true) List.nodup_nil fun _ q => by cases q)⟩⟩
  | false => exact PE.imp (pe_or ha (hb rfl)) fun _ H _ ⟨he, k⟩ => ⟨he, fun x H1 B s o => ⟨false, o.bl_inv, iteF (⟨he.same s, fun y H2 C s2 o2 n f => k y H2 C (s.trans s2) o2 n fun b hb => s.free (f b hb)⟩)⟩⟩
theorem pf_not {w : Bool} (ha : PE X a (tP X.K r (.bool w))) : PE X (.UnaryOp .Not a pos) (tF X.K r (.bool (!w))) :=
  PE.imp (L2.pe_not ha) fun _ H _ ⟨he, k⟩ => ⟨he, fun x H1 B s o => ⟨w, o.bl_inv, k _ H1 [] s (.bl _) List.nodup_nil fun _ q => by cases q⟩⟩
theorem pp_if {w : Bool} (hc : PT X c (tT X.K r w)) (ha : w = true → PE X a (tP X.K r d1)) (hb : w = false → PE X b (tP X.K r d2)) : PE X (.IfExp c a b pos) (tP X.K r (if w = true then d1 else d2)) := by
  cases w with
  | true => exact PE.imp (pe_ifExp hc (ha rfl) pe_falseE) fun _ H _ ⟨he, k⟩ => ⟨he, fun H1 s => iteT (⟨he.same s, fun x H2 B s2 o => k x H2 B (s.trans s2) (by rw [if_pos rfl]; exact o)⟩)⟩
  | false => exact PE.imp (pe_ifExp hc pe_falseE (hb rfl)) fun _ H _ ⟨he, k⟩ => ⟨he, fun H1 s => iteF (⟨he.same s, fun x H2 B s2 o => k x H2 B (s.trans s2) (by rw [if_neg Bool.false_ne_true]; exact o)⟩)⟩
theorem pf_if {w : Bool} (hc : PT X c (tT X.K r w)) (ha : w = true → PE X a (tF X.K r d1)) (hb : w = false → PE X b (tF X.K r d2)) : PE X (.IfExp c a b pos) (tF X.K r (if w = true then d1 else d2)) := by
  cases w with
  | true => exact PE.imp (pe_ifExp hc (ha rfl) pe_falseE) fun _ H _ ⟨he, k⟩ => ⟨he, fun H1 s => iteT (⟨he.same s, fun x H2 B s2 o n f => k x H2 B (s.trans s2) (by rw [if_pos rfl]; exact o) n fun b hb => s.free (f b hb)⟩)⟩
  | false => exact PE.imp (pe_ifExp hc pe_falseE (hb rfl)) fun _ H _ ⟨he, k⟩ => ⟨he, fun H1 s => iteF (⟨he.same s, fun x H2 B s2 o n f => k x H2 B (s.trans s2) (by rw [if_neg Bool.false_ne_true]; exact o) n fun b hb => s.free (f b hb)⟩)⟩
def spD (K : PySem.W.Frag) (S : List PyData → PyData → Prop) : Sp := fun vs H Q _ => ∃ ds d C, S ds d ∧ OwnL K H vs ds C ∧ ∀ x H' B, Same H H' → Own K H' x d B → B.Nodup → (∀ b ∈ B, H b = none) → Q x H'
def gRev {α : Type} (us ws : List α) : List α := match us with
  | [] => ws.reverse
  | _ :: _ => []
structure At (K : PySem.W.Frag) (mg : Str → Option Value) (x : Str) (f : Addr) (fd : FuncData) (ps : List Str) : Prop where
  gl : mg x = some (.ref f)
  kp : PySem.W.keepIn K (.ref f) = true
  bd : Binds K fd ps []
  kr : ∀ (s : Shared) (ws : List Value), ws.length = ps.length → BindsTo s fd ⟨[], ps.reverse.zip ws⟩ (ps.zip ws.reverse)
theorem vals_rev {xs : List V} {us : List Value} (h : Vals xs us) : Vals xs.reverse us.reverse := h.reverse
theorem At.kb {K : PySem.W.Frag} {mg : Str → Option Value} {x : Str} {f : Addr} {fd : FuncData} {ps : List Str} (A : At K mg x f fd ps) (h0 : ps ≠ []) : KBinds K fd ps ps.reverse gRev gRev where
  to := fun s us ws _ hl => by
    cases us with
    | nil =>
      have hw : ws.length = ps.length := by simpa [gRev] using hl
      exact A.kr s ws hw
    | cons u us =>
      have : ps.length = 0 := by simpa [gRev] using hl.symm
      exact absurd (List.length_eq_zero_iff.mp this) h0
  rel := fun {vs us zs ws} r q => by
    cases r with
    | nil => exact vals_rev q
    | cons _ _ => exact .nil
structure Fu (P : Program) (w : World) (K : PySem.W.Frag) (mg : Str → Option Value) (base : Heap) (x : Str) (ps : List Str) (k : Nat) (S : List PyData → PyData → Prop) : Prop where
  ex : ∃ f fd, At K mg x f fd ps ∧ FnOk P w K mg base CX0 k f fd ps (spD K S)
theorem pf_call {x : Str} {ps : List Str} {k : Nat} {S : List PyData → PyData → Prop} {p : Pos} (F : Fu X.prog X.w X.K X.mg X.base x ps k S) (hr : Room k X.A) (ha : PA X (e :: es) (tPs X.K r ds)) (hS : S ds d)
    (hg : Gl X x := by rfl) (hdb : (x == ("__debug__" : Str)) = false := by decide)
    (he : starEach (e :: es) X.env = (false, eval e X.env) :: starEach es X.env := by rfl) (hpl : (backTo pos (starEach es X.env)).any (·.1) = false := by rfl) : PE X (.Call (.Name x p) (e :: es) [] pos) (tF X.K r d) := by
  obtain ⟨f, fd, A, G⟩ := F.ex
  exact PE.imp (pe_call G hr hg A.gl A.kp A.bd .nil pass0 ha hdb he hpl) fun _ H _ ⟨he, k⟩ => ⟨he, fun xs H1 B s o => ⟨ds, d, B, hS, by rw [List.append_nil]; exact o, fun y H2 C s2 o2 n f => k y H2 C (s.trans s2) o2 n fun b hb => s.free (f b hb)⟩⟩
theorem PK.imp {kws : List Keyword} {t t' : TA} (h : PK X kws t) (w : ∀ σ H Q, t' σ H Q → t σ H Q) : PK X kws t' := ⟨fun pos pins s σ H Q I q => h.run pos pins s σ H Q I (w σ H Q q)⟩
theorem pks_nil : PK X [] (tPs X.K r []) := PK.imp pk_nil fun _ H _ ⟨_, k⟩ => k [] H [] (Same.refl H) .nil
theorem pks_cons {nm : Option Str} {kpos : Pos} {kws : List Keyword} (h : PE X e (tP X.K r d)) (hs : PK X kws (tPs X.K r ds)) : PK X (⟨nm, e, kpos⟩ :: kws) (tPs X.K r (d :: ds)) :=
  PK.imp (pk_cons h hs) fun _ H _ ⟨he, k⟩ => ⟨he, fun x H1 B s1 o1 => ⟨he.same s1, fun xs H2 C s2 o2 => k (x :: xs) H2 _ (s1.trans s2) (.cons (o1.same s2) o2)⟩⟩
theorem OwnL.reverse {K : PySem.W.Frag} {H : Hp} : ∀ {xs : List V} {ds : List PyData} {B : List Addr}, OwnL K H xs ds B → ∃ C, OwnL K H xs.reverse ds.reverse C
  | _, _, _, .nil => ⟨[], .nil⟩
  | _, _, _, .cons e l => by
    obtain ⟨C, h⟩ := OwnL.reverse l
    rw [List.reverse_cons, List.reverse_cons]
    exact ⟨_, h.append (OwnL.single e)⟩
theorem pf_callR {x : Str} {ps : List Str} {k : Nat} {S : List PyData → PyData → Prop} {p : Pos} {kws : List Keyword} (F : Fu X.prog X.w X.K X.mg X.base x ps k S) (hr : Room k X.A) (ha : PK X kws (tPs X.K r ds)) (hS : S ds.reverse d) (h0 : ps ≠ [] := by decide)
    (hg : Gl X x := by rfl) (hdb : (x == ("__debug__" : Str)) = false := by decide) (hall : (backToKw pos (keywordEach kws X.env)).all (·.1.isSome) = true := by rfl) (hks : (backToKw pos (keywordEach kws X.env)).filterMap (·.1) = ps.reverse := by rfl)
    (hpl : ((backTo pos (starEach [] X.env)).any (·.1) || (backToKw pos (keywordEach kws X.env)).any (·.1.isNone)) = false := by rfl) : PE X (.Call (.Name x p) [] kws pos) (tF X.K r d) := by
  obtain ⟨f, fd, A, G⟩ := F.ex
  refine ⟨fun pins s σ H Q I ⟨he, k⟩ => ?_⟩
  refine wpAny_Call_Name_kw (ld_glob I hg A.gl ?_ hdb)
  refine PySem.W.callWith_KW0 (h₀ := X.base) I.ok.mod.kin A.kp hall (thn (ha.run pos pins s σ H (fun zs H1 => ∃ B, Same H H1 ∧ OwnL X.K H1 zs ds B) I ⟨he, fun zs H1 B s o => ⟨B, s, o⟩⟩) fun ws s2 ⟨zs, H2, I2, rz, B, s02, o⟩ => ⟨I2.kIn, ?_⟩) hpl
  rw [hks]
  obtain ⟨C, oC⟩ := o.reverse
  exact run_fnk (us := []) (vs := []) G hr (A.kb h0) pass0 I2 .nil rz ⟨ds.reverse, d, C, hS, oC, fun y H3 D s3 o3 n f => k y H3 D (s02.trans s3) o3 n fun b hb => s02.free (f b hb)⟩
end
end DL
end
section
set_option Elab.async false
set_option linter.all false
set_option maxRecDepth 100000
set_option maxHeartbeats 4000000
namespace DL
open PySem PySem.Spec L2
def Kq (F : List Addr) (H H' : Hp) : Prop := ∀ a o, H a = some o → (LD (some o) → a ∈ F) → ¬ isT o → H' a = some o
theorem Kq.of_same {F : List Addr} {H H' : Hp} (s : Same H H') : Kq F H H' := fun a o h _ _ => s a o h
theorem Own.kq {K : PySem.W.Frag} {F : List Addr} {H H' : Hp} (p : Kq F H H') {x : V} {d : PyData} {B : List Addr} (h : Own K H x d B) (n : ∀ b ∈ B, b ∈ F) : Own K H' x d B :=
  h.stay (fun b o e z y => p b o e (fun y => absurd y z) y) fun b hb o e => p b o e (fun _ => n b hb) (ld_not (h.mut b hb) e)
theorem OwnL.kq {K : PySem.W.Frag} {F : List Addr} {H H' : Hp} (p : Kq F H H') {x : List V} {d : List PyData} {B : List Addr} (h : OwnL K H x d B) (n : ∀ b ∈ B, b ∈ F) : OwnL K H' x d B :=
  h.stay (fun b o e z y => p b o e (fun y => absurd y z) y) fun b hb o e => p b o e (fun _ => n b hb) (ld_not (h.mut b hb) e)
structure Seqs (K : PySem.W.Frag) (J : It) (H0 : Hp) (its : List PyData) (F : List Addr) : Prop where
  go : ∀ (i : Nat) (H : Hp) (d : PyData), Kq F H0 H → its[i]? = some d → J.go i H ∧ ∀ x H', J.yld i H x H' → Same H H' ∧ ∃ B, Own K H' x d B ∧ ∀ b ∈ B, b ∈ F
  stop : ∀ (H : Hp), Kq F H0 H → J.stop its.length H
  size : its.length ≤ sizeLine
def tI (K : PySem.W.Frag) (r : Ro) (its : List PyData) : TI := fun σ H R => EnvP K H σ r ∧ ∀ J H' F, Same H H' → Seqs K J H' its F → R J H'
def tIF (K : PySem.W.Frag) (r : Ro) (its : List PyData) : TI := fun σ H R => EnvP K H σ r ∧ ∀ J H' F, Same H H' → Seqs K J H' its F → (∀ b ∈ F, H b = none) → (∀ b ∈ F, H' b ≠ none) → R J H'
section
variable {X : Cx} {r : Ro} {a b c e tg iter elt : Expr} {es : List Expr} {pos p : Pos} {d d1 d2 : PyData} {ds ds1 ds2 its : List PyData} {i j : Int}
theorem toI (h : PI X tg e (tIF X.K r its)) : PI X tg e (tI X.K r its) := PI.imp h fun _ _ _ ⟨he, k⟩ => ⟨he, fun J H' F s q _ _ => k J H' F s q⟩
theorem pi_tupD (h : PE X e (tP X.K r (.tuple ds))) (hi : immAll ds = true) : PI X tg e (tIF X.K r ds) :=
  PI.imp (pi_tup h) fun _ H _ ⟨he, k⟩ => ⟨he, fun x H1 B s o => by
    obtain ⟨p, xs, rfl, hq, ol, hz⟩ := o.tup_inv
    have hB := ol.imm hi
    subst hB
    refine ⟨p, rfl, ⟨xs, hq⟩, k _ H1 [] s ⟨fun i H2 d2 kq hd => ?_, fun H2 kq => ?_, by rw [← ol.length]; exact hz⟩ (fun _ q => by cases q) fun _ q => by cases q⟩
    · obtain ⟨y, C, hy, oy, hC⟩ := ol.get hd
      refine ⟨⟨xs, y, SqT.kpM (fun b o e z t => kq b o e (fun y => absurd y z) t) hq, hy⟩, fun x H3 ⟨e, q⟩ => ?_⟩
      subst e
      have := q xs (SqT.kpM (fun b o e z t => kq b o e (fun y => absurd y z) t) hq)
      rw [hy] at this; cases this
      exact ⟨Same.refl _, C, oy.kq kq hC, hC⟩
    · exact ⟨xs, SqT.kpM (fun b o e z t => kq b o e (fun y => absurd y z) t) hq, by rw [ol.length]; exact Nat.le_refl _⟩⟩
theorem seqs_lst {K : PySem.W.Frag} {H1 : Hp} {p : Addr} {xs : List V} {C : List Addr} (hp : H1 p = some (.lst xs)) (ol : OwnL K H1 xs ds C) (hz : xs.length ≤ sizeLine) : Seqs K (Itl K p) H1 ds (p :: C) := by
  have sq : ∀ H2, Kq (p :: C) H1 H2 → H2 p = some (.lst xs) := fun H2 kq => kq p _ hp (fun _ => List.mem_cons_self) fun z => z
  refine ⟨fun i H2 d2 kq hd => ?_, fun H2 kq => ⟨xs, .of (sq H2 kq), by rw [ol.length]; exact Nat.le_refl _⟩, by rw [← ol.length]; exact hz⟩
  obtain ⟨y, D, hy, oy, hD⟩ := ol.get hd
  refine ⟨⟨xs, y, .of (sq H2 kq), hy⟩, fun x H3 ⟨e, q⟩ => ?_⟩
  subst e
  have := q xs (.of (sq _ kq))
  rw [hy] at this; cases this
  exact ⟨Same.refl _, D, oy.kq kq fun b hb => List.mem_cons_of_mem _ (hD b hb), fun b hb => List.mem_cons_of_mem _ (hD b hb)⟩
theorem pi_lstD (h : PE X e (tP X.K r (.list ds))) : PI X tg e (tI X.K r ds) :=
  PI.imp (pi_list h) fun _ H _ ⟨he, k⟩ => ⟨he, fun x H1 B s o => by
    obtain ⟨p, xs, C, rfl, hq, ol, hz, rfl⟩ := o.lst_inv
    exact ⟨p, rfl, ⟨xs, .of hq⟩, k _ H1 _ s (seqs_lst hq ol hz)⟩⟩
theorem pi_lstF (h : PE X e (tF X.K r (.list ds))) : PI X tg e (tIF X.K r ds) :=
  PI.imp (pi_list h) fun _ H _ ⟨he, k⟩ => ⟨he, fun x H1 B s o n f => by
    have hne := o.isS
    obtain ⟨p, xs, C, rfl, hq, ol, hz, rfl⟩ := o.lst_inv
    exact ⟨p, rfl, ⟨xs, .of hq⟩, k _ H1 _ s (seqs_lst hq ol hz) f hne⟩⟩
theorem seqs_rng {K : PySem.W.Frag} {H1 : Hp} {lo : Int} {n : Nat} (hn : n ≤ sizeLine) : Seqs K (Itr lo n) H1 ((List.range n).map fun k => .int (lo + (k : Nat))) [] := by
  refine ⟨fun i H2 d2 kq hd => ?_, fun H2 kq => by rw [List.length_map, List.length_range]; exact Nat.le_refl _, by rw [List.length_map, List.length_range]; exact hn⟩
  rw [List.getElem?_map] at hd
  have hi : i < n := by
    cases q : (List.range n)[i]? with
    | none => rw [q] at hd; cases hd
    | some z => have := (List.getElem?_eq_some_iff.mp q).1; rwa [List.length_range] at this
  rw [List.getElem?_range hi] at hd
  cases hd
  refine ⟨hi, fun x H3 ⟨e, q⟩ => ?_⟩
  subst e; subst q
  exact ⟨Same.refl _, [], .int _, fun _ q => by cases q⟩
theorem pi_rng1 {p : Pos} (hg : Gl X "range") (hm : X.mg "range" = none) (h : PE X e (tP X.K r (.int j))) (h0 : 0 ≤ j) (hj : j ≤ sizeLine) (hs : starEach [e] X.env = [(false, eval e X.env)] := by rfl) :
    PI X tg (.Call (.Name "range" p) [e] [] pos) (tIF X.K r ((List.range j.toNat).map fun k => .int (k : Nat))) :=
  PI.imp (pi_range1 hg hm (pas_cons h pas_nil hs) hs) fun _ H _ ⟨he, k⟩ => ⟨he, fun xs H1 B s o => by
    cases o with
    | cons o1 o2 =>
      cases o2
      have hz : sizeLine = 16777216 := sizeLine_eq
      cases o1
      refine ⟨j, rfl, by omega, by omega, k _ H1 [] s ?_ (fun _ q => by cases q) fun _ q => by cases q⟩
      have := seqs_rng (K := X.K) (H1 := H1) (lo := 0) (n := j.toNat) (by omega)
      simpa using this⟩
theorem pi_rng2 {p : Pos} (hg : Gl X "range") (hm : X.mg "range" = none) (h : PE X a (tP X.K r (.int i))) (h' : PE X b (tP X.K r (.int j))) (hi : 0 ≤ i) (hi' : i ≤ sizeLine) (hj0 : 0 ≤ j) (hj : j ≤ sizeLine) (hs : starEach [a, b] X.env = [(false, eval a X.env), (false, eval b X.env)] := by rfl) (hs2 : starEach [b] X.env = [(false, eval b X.env)] := by rfl) :
    PI X tg (.Call (.Name "range" p) [a, b] [] pos) (tIF X.K r ((List.range (j - i).toNat).map fun k => .int (i + (k : Nat)))) :=
  PI.imp (pi_range2 hg hm (pas_cons h (pas_cons h' pas_nil hs2) (by rw [hs, hs2])) hs hs2) fun _ H _ ⟨he, k⟩ => ⟨he, fun xs H1 B s o => by
    cases o with
    | cons o1 o2 =>
      cases o2 with
      | cons o2 o3 =>
        cases o3
        have hz : sizeLine = 16777216 := sizeLine_eq
        cases o1
        cases o2
        exact ⟨i, j, rfl, ⟨by omega, by omega, by omega, by omega⟩, k _ H1 [] s (seqs_rng (by omega)) (fun _ q => by cases q) fun _ q => by cases q⟩⟩
def wipeR (r : Ro) : List Nat → Ro
  | [] => r
  | v :: vs => (wipeR r vs).set v none
theorem wipe_get {σ : St} : ∀ {vs : List Nat} {i : Nat}, (wipe σ vs)[i]? = if i ∈ vs ∧ i < σ.length then some none else σ[i]?
  | [], i => by simp [wipe]
  | v :: vs, i => by
    unfold wipe
    rw [List.getElem?_set, wipe_length, wipe_get (vs := vs)]
    by_cases h : v = i
    · subst h
      by_cases h2 : v < σ.length
      · simp [h2]
      · simp [h2]
    · have h' : ¬ i = v := fun z => h z.symm
      simp [h, h']
theorem wipeR_length (r : Ro) : ∀ vs : List Nat, (wipeR r vs).length = r.length
  | [] => rfl
  | v :: vs => by unfold wipeR; rw [List.length_set, wipeR_length r vs]
theorem wipeR_get {r : Ro} {d : PyData} : ∀ {vs : List Nat} {i : Nat}, (wipeR r vs)[i]? = some (some d) → r[i]? = some (some d) ∧ i ∉ vs
  | [], i, h => ⟨h, by simp⟩
  | v :: vs, i, h => by
    unfold wipeR at h
    rw [List.getElem?_set] at h
    by_cases hv : v = i
    · rw [if_pos hv] at h
      split at h <;> cases h
    · rw [if_neg hv] at h
      obtain ⟨h1, h2⟩ := wipeR_get h
      exact ⟨h1, by simp only [List.mem_cons, not_or]; exact ⟨fun z => hv z.symm, h2⟩⟩
theorem EnvP.wiped {K : PySem.W.Frag} {H : Hp} {σ : St} (he : EnvP K H σ r) (vs : List Nat) : EnvP K H (wipe σ vs) (wipeR r vs) :=
  ⟨by rw [wipeR_length, wipe_length]; exact he.len, fun i d h => by
    obtain ⟨h1, h2⟩ := wipeR_get h
    obtain ⟨x, B, e, o⟩ := he.at' i d h1
    exact ⟨x, B, by rw [wipe_get, if_neg (fun z => h2 z.1)]; exact e, o⟩⟩
theorem wipe_ext {σ σ' : St} {vs : List Nat} (hl : σ.length = σ'.length) (h : ∀ i, i ∉ vs → σ[i]? = σ'[i]?) : wipe σ vs = wipe σ' vs := by
  apply List.ext_getElem?
  intro i
  rw [wipe_get, wipe_get, hl]
  by_cases hi : i ∈ vs
  · by_cases h2 : i < σ'.length
    · simp [hi, h2]
    · simp [hi, h2]
      omega
  · simp [hi, h i hi]
theorem wipe_wipe (σ : St) (vs : List Nat) : wipe (wipe σ vs) vs = wipe σ vs := wipe_ext (by rw [wipe_length]) fun i hi => by rw [wipe_get, if_neg (fun z => hi z.1)]
def gD (K : PySem.W.Frag) (d : PyData) (r r' : Ro) (T : List Nat) : TG := fun v σ H Q => EnvP K H σ r ∧ (∃ B, Own K H v d B) ∧ ∀ σ', EnvP K H σ' r' → wipe σ' T = wipe σ T → Q σ' H
theorem PG.imp {t t' : TG} (h : PG X e t) (w : ∀ v σ H Q, t' v σ H Q → t v σ H Q) : PG X e t' := ⟨fun pins s σ H v u Q I r q => h.run pins s σ H v u Q I r (w v σ H Q q)⟩
theorem EnvP.set {K : PySem.W.Frag} {H : Hp} {σ : St} (he : EnvP K H σ r) {n : Nat} {v : V} {B : List Addr} (o : Own K H v d B) : EnvP K H (σ.set n (some v)) (r.set n (some d)) :=
  ⟨by rw [List.length_set, List.length_set]; exact he.len, fun i d' h => by
    rw [List.getElem?_set] at h ⊢
    by_cases hi : n = i
    · rw [if_pos hi] at h ⊢
      rw [he.len] at h
      split at h
      · rename_i hl
        cases h
        rw [if_pos hl]
        exact ⟨v, B, rfl, o⟩
      · cases h
    · rw [if_neg hi] at h ⊢
      exact he.at' i d' h⟩
theorem set_wipe {σ : St} {n : Nat} {v : Option V} {T : List Nat} (h : n ∈ T) : wipe (σ.set n v) T = wipe σ T := wipe_ext (by rw [List.length_set]) fun i hi => by
  have e : n ≠ i := fun z => by subst z; exact hi h
  rw [List.getElem?_set_ne e]
theorem gd_name {n : Nat} {T : List Nat} (h : PG X e (gName n)) (hT : n ∈ T := by decide) : PG X e (gD X.K d r (r.set n (some d)) T) :=
  PG.imp h fun v σ H Q ⟨he, ⟨B, o⟩, k⟩ => k _ (he.set o) (set_wipe hT)
def gDs (K : PySem.W.Frag) (ds : List PyData) (r r' : Ro) (T : List Nat) : TGs := fun vs σ H Q => EnvP K H σ r ∧ (∃ B, OwnL K H vs ds B) ∧ ∀ σ', EnvP K H σ' r' → wipe σ' T = wipe σ T → Q σ' H
theorem PGs.imp {t t' : TGs} (h : PGs X es t) (w : ∀ v σ H Q, t' v σ H Q → t v σ H Q) : PGs X es t' := ⟨fun pins s σ H v u Q I r q => h.run pins s σ H v u Q I r (w v σ H Q q)⟩
theorem gds_nil {T : List Nat} : PGs X [] (gDs X.K [] r r T) := PGs.imp pgs_nil fun vs σ H Q ⟨he, ⟨B, o⟩, k⟩ => by
  cases o
  exact ⟨rfl, k σ he rfl⟩
theorem gds_cons {r1 r2 : Ro} {T : List Nat} (h1 : PG X e (gD X.K d r r1 T)) (h2 : PGs X es (gDs X.K ds r1 r2 T)) (hs : (assignEach (e :: es) X.env).map (·.2) = assign e X.env :: (assignEach es X.env).map (·.2) := by rfl) :
    PGs X (e :: es) (gDs X.K (d :: ds) r r2 T) := PGs.imp (pgs_cons h1 h2 hs) fun vs σ H Q ⟨he, ⟨B, o⟩, k⟩ => by
  cases o with
  | cons o1 o2 => exact ⟨_, _, rfl, he, ⟨_, o1⟩, fun σ1 h1 w1 => ⟨h1, ⟨_, o2⟩, fun σ2 h2 w2 => k σ2 h2 (w2.trans w1)⟩⟩
theorem gd_tup {r1 : Ro} {T : List Nat} {n : Nat} (hc : X.calm = true) (h : PGs X es (gDs X.K ds r r1 T)) (hd : ds.length = n := by rfl) {k : Nat}
    (hn : (assignEach es X.env).length = n := by rfl) (hst : (assignEach es X.env).findIdx? (·.1) = none := by rfl) : PG X (.Tuple es k pos) (gD X.K (.tuple ds) r r1 T) :=
  PG.imp (pg_tup hc h hn hst) fun v σ H Q ⟨he, ⟨B, o⟩, k⟩ => by
    obtain ⟨p, xs, rfl, hq, ol, _⟩ := o.tup_inv
    exact ⟨p, xs, rfl, hq, by rw [ol.length]; exact hd, he, ⟨B, ol⟩, k⟩
theorem lc_read {K : PySem.W.Frag} {α : Type} {l : List α} {f g : α → PyData} {q : α → Bool} {r : Ro} {r' : α → Ro} {T : List Nat} {σ : St} {H : Hp} {Q : VK} (hQ : tF K r (.list ((l.filter q).map g)) σ H Q) :
    tLc (tI K r (l.map f)) (fun v σ H Q => ∃ a, a ∈ l ∧ gD K (f a) (wipeR r T) (r' a) T v σ H Q) (fun σ H Q => ∃ a, a ∈ l ∧ tT K (r' a) (q a) σ H Q) (fun σ H Q => ∃ a, (a ∈ l ∧ q a = true) ∧ tF K (r' a) (g a) σ H Q) T σ H Q := by
  obtain ⟨hE, k⟩ := hQ
  refine ⟨hE, fun J H1 F s1 sq D hD => ?_⟩
  have hlen : (l.map f).length = l.length := List.length_map _
  have hsz : l.length ≤ sizeLine := by rw [← hlen]; exact sq.size
  refine ⟨fun i m H2 => m = l.length - i ∧ i ≤ l.length ∧ Same H1 H2 ∧ ∃ acc B, H2 D = some (.lst acc) ∧ OwnL K H2 acc (((l.take i).filter q).map g) B ∧ B.Nodup ∧ (∀ b ∈ B, H1 b = none) ∧ D ∉ B ∧ acc.length ≤ i,
    ⟨l.length, by simp, Nat.zero_le _, same_new hD, [], [], upd_same, by simpa using OwnL.nil, List.nodup_nil, (fun _ z => by cases z), List.not_mem_nil, Nat.le_refl _⟩, ?_⟩
  rintro i m H2 ⟨rfl, hile, s2, acc, B, hacc, oB, nB, fB, dB, lB⟩
  by_cases hlt : i < l.length
  · refine .inr ?_
    have hia : l[i]? = some l[i] := by simp [hlt]
    have hid : (l.map f)[i]? = some (f l[i]) := by rw [List.getElem?_map, hia]; rfl
    obtain ⟨go, yl⟩ := sq.go i H2 _ (Kq.of_same s2) hid
    refine ⟨go, fun H' => i + 1 ≤ l.length ∧ Same H1 H' ∧ ∃ acc B, H' D = some (.lst acc) ∧ OwnL K H' acc (((l.take (i + 1)).filter q).map g) B ∧ B.Nodup ∧ (∀ b ∈ B, H1 b = none) ∧ D ∉ B ∧ acc.length ≤ i + 1,
      fun H' h' => ⟨l.length - (i + 1), by omega, rfl, h'⟩, fun x H3 y3 => ?_⟩
    obtain ⟨s3, Bx, ox, _⟩ := yl x H3 y3
    have hal : l[i] ∈ l := List.getElem_mem hlt
    have htk : l.take (i + 1) = l.take i ++ [l[i]] := by rw [List.take_succ, hia]; rfl
    have sH3 : Same H H3 := (s1.trans s2).trans s3
    refine ⟨l[i], hal, (hE.same sH3).wiped _, ⟨Bx, ox⟩, fun σ4 e4 w4 => ⟨w4.trans (wipe_wipe _ _), ?_⟩⟩
    refine ⟨l[i], hal, e4, fun H5 s5 => ?_⟩
    have hD5 : H5 D = some (.lst acc) := s5 _ _ (s3 _ _ hacc)
    cases hq : q l[i] with
    | false =>
      refine iteF ⟨hlt, (s2.trans s3).trans s5, acc, B, hD5, ?_, nB, fB, dB, by omega⟩
      rw [htk, List.filter_append]
      have : [l[i]].filter q = [] := by simp [hq]
      rw [this, List.append_nil]
      exact (oB.same s3).same s5
    | true =>
      refine iteT ⟨l[i], ⟨hal, hq⟩, e4.same s5, fun y H6 C s6 oy nC fC => ?_⟩
      have hD6 : H6 D = some (.lst acc) := s6 _ _ hD5
      have dC : D ∉ C := fun z => by
        have := fC D z
        rw [hD5] at this; cases this
      have oB6 := ((oB.same s3).same s5).same s6
      have kp : Kp [D] false H6 (upd H6 D (.lst (acc ++ [y]))) := Kp.upd (by simp) hD6 trivial
      have n1 : ∀ b ∈ B ++ C, b ∉ [D] := fun b hb z => by
        have e : b = D := by simpa using z
        subst e
        rcases List.mem_append.mp hb with hb | hb
        · exact dB hb
        · exact dC hb
      refine ⟨acc, hD6, by omega, hlt, ?_, acc ++ [y], B ++ C, upd_same, ?_, ?_, ?_, fun z => n1 D z (by simp), by rw [List.length_append]; show acc.length + 1 ≤ i + 1; omega⟩
      · intro b o hb
        have hbD : b ≠ D := ne_of_none hb hD
        rw [upd_ne hbD]
        exact s6 _ _ (s5 _ _ (s3 _ _ (s2 _ _ hb)))
      · rw [htk, List.filter_append, List.map_append]
        have : [l[i]].filter q = [l[i]] := by simp [hq]
        rw [this]
        exact (oB6.append (OwnL.single oy)).kp kp n1
      · exact List.nodup_append.mpr ⟨nB, nC, fun b hb c hc z => by
          have h1 := oB6.isS b hb
          have h2 := ((oB.same s3).same s5).isS b hb
          rw [z] at h2
          exact h2 (fC c hc)⟩
      · intro b hb
        rcases List.mem_append.mp hb with hb | hb
        · exact fB b hb
        · exact ((s2.trans s3).trans s5).free (fC b hb)
  · have e : i = l.length := by omega
    subst e
    refine .inl ⟨by rw [← hlen]; exact sq.stop H2 (Kq.of_same s2), ?_⟩
    rw [List.take_length] at oB
    have hne : ∀ b ∈ B, H b = none := fun b hb => s1.free (fB b hb)
    exact k (.ref D) H2 (D :: B) (s1.trans s2) (.lst hacc (by omega) oB) (List.nodup_cons.mpr ⟨dB, nB⟩) fun b hb => by
      rcases List.mem_cons.mp hb with rfl | hb
      · exact s1.free hD
      · exact hne b hb
theorem pf_lcIf {α : Type} {l : List α} {f g : α → PyData} {q : α → Bool} {r' : α → Ro} {own : List (Str × Nat)} {ifs : List Expr} {scope : Scope}
    (hc : X.calm = true) (hN : X.N.Nodup) (hi : PI X tg iter (tI X.K r (l.map f))) (ok : BlkOk X.N X.env.scope scope own)
    (hg : ∀ (s : Shared) (H : Hp) (C : Addr) (cl : List (Str × Addr)) (fp : List Addr), ∀ a ∈ l, PG (X.blk s H scope (compEnvC scope cl C X.env) fp) tg (gD X.K (f a) (wipeR r (own.map (·.2))) (r' a) (own.map (·.2))))
    (ht : ∀ (s : Shared) (H : Hp) (C : Addr) (cl : List (Str × Addr)) (fp : List Addr), ∀ a ∈ l, PTs (X.blk s H scope (compEnvC scope cl C X.env) fp) ifs (tT X.K (r' a) (q a)))
    (he : ∀ (s : Shared) (H : Hp) (C : Addr) (cl : List (Str × Addr)) (fp : List Addr), ∀ a ∈ l, q a = true → PE (X.blk s H scope (compEnvC scope cl C X.env) fp) elt (tF X.K (r' a) (g a)))
    (hs : ∀ x, foldedSetIterable iter X.env x = pure x := by intro _; rfl) :
    PE X (.ListComp elt [⟨tg, iter, ifs, 0⟩] scope pos) (tF X.K r (.list ((l.filter q).map g))) := by
  have hg' : ∀ (s : Shared) (H : Hp) (C : Addr) (cl : List (Str × Addr)) (fp : List Addr), PG (X.blk s H scope (compEnvC scope cl C X.env) fp) tg (fun v σ H Q => ∃ a, a ∈ l ∧ gD X.K (f a) (wipeR r (own.map (·.2))) (r' a) (own.map (·.2)) v σ H Q) :=
    fun s H C cl fp => ⟨fun pins s' σ H' v u Q I rv ⟨a, ha, h⟩ => (hg s H C cl fp a ha).run pins s' σ H' v u Q I rv h⟩
  have ht' : ∀ (s : Shared) (H : Hp) (C : Addr) (cl : List (Str × Addr)) (fp : List Addr), PTs (X.blk s H scope (compEnvC scope cl C X.env) fp) ifs (fun σ H Q => ∃ a, a ∈ l ∧ tT X.K (r' a) (q a) σ H Q) :=
    fun s H C cl fp => ⟨fun pins s' σ H' Q I ⟨a, ha, h⟩ => (ht s H C cl fp a ha).run pins s' σ H' Q I h⟩
  have he' : ∀ (s : Shared) (H : Hp) (C : Addr) (cl : List (Str × Addr)) (fp : List Addr), PE (X.blk s H scope (compEnvC scope cl C X.env) fp) elt (fun σ H Q => ∃ a, (a ∈ l ∧ q a = true) ∧ tF X.K (r' a) (g a) σ H Q) :=
    fun s H C cl fp => ⟨fun pins s' σ H' Q I ⟨a, ha, h⟩ => (he s H C cl fp a ha.1 ha.2).run pins s' σ H' Q I h⟩
  exact PE.imp (pe_lc hc hN hi ok hg' ht' he' hs) fun σ H Q hQ => lc_read hQ
theorem ps_lcIf {α : Type} {l : List α} {f g : α → PyData} {q : α → Bool} {r' : α → Ro} {own : List (Str × Nat)} {ifs : List Expr} {scope : Scope}
    (hc : X.calm = true) (hN : X.N.Nodup) (hi : PI X tg iter (tI X.K r (l.map f))) (ok : BlkOk X.N X.env.scope scope own)
    (hg : ∀ (s : Shared) (H : Hp) (C : Addr) (cl : List (Str × Addr)) (fp : List Addr), ∀ a ∈ l, PG (X.blk s H scope (compEnvC scope cl C X.env) fp) tg (gD X.K (f a) (wipeR r (own.map (·.2))) (r' a) (own.map (·.2))))
    (ht : ∀ (s : Shared) (H : Hp) (C : Addr) (cl : List (Str × Addr)) (fp : List Addr), ∀ a ∈ l, PTs (X.blk s H scope (compEnvC scope cl C X.env) fp) ifs (tT X.K (r' a) (q a)))
    (he : ∀ (s : Shared) (H : Hp) (C : Addr) (cl : List (Str × Addr)) (fp : List Addr), ∀ a ∈ l, q a = true → PE (X.blk s H scope (compEnvC scope cl C X.env) fp) elt (tF X.K (r' a) (g a)))
    (hs : ∀ x, foldedSetIterable iter X.env x = pure x := by intro _; rfl) {n : Nat} {y : Str} {py spos : Pos} (hy : X.N[n]? = some y) (hyl : X.env.scope.names.lookup y = some .local)
    (hsw : swapsWith (.ListComp elt [⟨tg, iter, ifs, 0⟩] scope pos) (some (.Name y py)) spos.line X.env = pure true) :
    PS X (.Assign [.Name y py] (.ListComp elt [⟨tg, iter, ifs, 0⟩] scope pos) spos) (tAsg (tF X.K r (.list ((l.filter q).map g))) (gName n)) := by
  have hg' : ∀ (s : Shared) (H : Hp) (C : Addr) (cl : List (Str × Addr)) (fp : List Addr), PG (X.blk s H scope (compEnvC scope cl C X.env) fp) tg (fun v σ H Q => ∃ a, a ∈ l ∧ gD X.K (f a) (wipeR r (own.map (·.2))) (r' a) (own.map (·.2)) v σ H Q) :=
    fun s H C cl fp => ⟨fun pins s' σ H' v u Q I rv ⟨a, ha, h⟩ => (hg s H C cl fp a ha).run pins s' σ H' v u Q I rv h⟩
  have ht' : ∀ (s : Shared) (H : Hp) (C : Addr) (cl : List (Str × Addr)) (fp : List Addr), PTs (X.blk s H scope (compEnvC scope cl C X.env) fp) ifs (fun σ H Q => ∃ a, a ∈ l ∧ tT X.K (r' a) (q a) σ H Q) :=
    fun s H C cl fp => ⟨fun pins s' σ H' Q I ⟨a, ha, h⟩ => (ht s H C cl fp a ha).run pins s' σ H' Q I h⟩
  have he' : ∀ (s : Shared) (H : Hp) (C : Addr) (cl : List (Str × Addr)) (fp : List Addr), PE (X.blk s H scope (compEnvC scope cl C X.env) fp) elt (fun σ H Q => ∃ a, (a ∈ l ∧ q a = true) ∧ tF X.K (r' a) (g a) σ H Q) :=
    fun s H C cl fp => ⟨fun pins s' σ H' Q I ⟨a, ha, h⟩ => (he s H C cl fp a ha.1 ha.2).run pins s' σ H' Q I h⟩
  exact PS.imp (ps_setLc hc hN hy hyl hsw hi ok hg' ht' he' hs) fun D σ H hQ => lc_read hQ
end
end DL
end
section
set_option Elab.async false
set_option linter.all false
set_option maxRecDepth 100000
set_option maxHeartbeats 4000000
namespace DL
open PySem PySem.Spec L2
structure IsPot (H : Hp) (p g : Addr) (m : Nat) : Prop where
  ex : ∃ (gs : List Int) (st tn : Int), H p = some (.dK [(.inr "great", .ref g), (.inr "stirred", .int st), (.inr "turn", .int tn)]) ∧ H g = some (.lst (gs.map V.int)) ∧
    gs.length ≤ 64 ∧ (∀ c ∈ gs, 0 ≤ c ∧ c.natAbs < 2 ^ 1100000) ∧ 0 ≤ st ∧ st < 4294967296 ∧ 0 ≤ tn ∧ tn + m ≤ 1000000
structure Ef where
  pot : Option (Addr × Addr)
  tabs : Option (List (Addr × Str))
abbrev ef0 : Ef := ⟨none, none⟩
def potA : Option (Addr × Addr) → List Addr
  | none => []
  | some (p, g) => [p, g]
abbrev ptA (Pt : Ef) : List Addr := potA Pt.pot
abbrev Ke (Pt : Ef) (H H' : Hp) : Prop := Kp (ptA Pt) Pt.tabs.isSome H H'
structure PotAt (Pt : Ef) (m : Nat) (H : Hp) : Prop where
  pot : ∀ p g, Pt.pot = some (p, g) → IsPot H p g m
  tab : ∀ T, Pt.tabs = some T → LamX.Tabs T H
theorem PotAt.some {Pt : Ef} {m : Nat} {H : Hp} (h : PotAt Pt m H) : ∀ a ∈ ptA Pt, H a ≠ none := fun a ha => by
  obtain ⟨pt, tb⟩ := Pt
  cases pt with
  | none => cases ha
  | some q =>
    obtain ⟨p, g⟩ := q
    obtain ⟨gs, st, tn, h1, h2, _⟩ := (h.pot p g rfl).ex
    rcases List.mem_cons.mp ha with rfl | ha
    · rw [h1]; exact fun z => by cases z
    · rcases List.mem_cons.mp ha with rfl | ha
      · rw [h2]; exact fun z => by cases z
      · cases ha
theorem PotAt.same {Pt : Ef} {m : Nat} {H H' : Hp} (h : PotAt Pt m H) (s : Same H H') : PotAt Pt m H' := ⟨fun p g e => by
  obtain ⟨gs, st, tn, h1, h2, h3⟩ := (h.pot p g e).ex
  exact ⟨gs, st, tn, s _ _ h1, s _ _ h2, h3⟩, fun T e => (h.tab T e).ext s⟩
theorem PotAt.kept {Pt : Ef} {m : Nat} {S : List Addr} {H H' : Hp} (h : PotAt Pt m H) (k : Kp S false H H') (n : ∀ a ∈ S, a ∉ ptA Pt) : PotAt Pt m H' := ⟨fun p g e => by
  obtain ⟨gs, st, tn, h1, h2, h3⟩ := (h.pot p g e).ex
  have e' : ptA Pt = [p, g] := by unfold ptA; rw [e]; rfl
  rw [e'] at n
  exact ⟨gs, st, tn, k.keep _ _ h1 (fun z => absurd (by simp) (n _ z)) (fun z => by cases z), k.keep _ _ h2 (fun z => absurd (by simp) (n _ z)) (fun z => by cases z), h3⟩, fun T e p hp => by
  obtain ⟨ps, h1, h2, h3⟩ := h.tab T e p hp
  refine ⟨ps, k.keep _ _ h1 (fun _ z => z) (fun z => by cases z), h2, fun pos cv hc => ?_⟩
  obtain ⟨c, h4, h5⟩ := h3 pos cv hc
  exact ⟨c, h4, k.keep _ _ h5 (fun _ z => z) (fun z => by cases z)⟩⟩
inductive Slot where
  | un | ow (d : PyData) | sh (d : PyData) | pot | tb (T : List (Addr × Str))
abbrev Rh := List Slot
def pu : Slot → Option PyData
  | .un => none
  | .ow d => some d
  | .sh d => some d
  | .pot => none
  | .tb _ => none
inductive Slots (K : PySem.W.Frag) (Pt : Ef) (He H : Hp) : St → Rh → List Addr → Prop
  | nil : Slots K Pt He H [] [] []
  | un {v : Option V} {σ : St} {ρ : Rh} {A : List Addr} : Slots K Pt He H σ ρ A → Slots K Pt He H (v :: σ) (.un :: ρ) A
  | ow {x : V} {d : PyData} {σ : St} {ρ : Rh} {A B : List Addr} : Own K H x d B → Slots K Pt He H σ ρ A → Slots K Pt He H (some x :: σ) (.ow d :: ρ) (B ++ A)
  | sh {x : V} {d : PyData} {σ : St} {ρ : Rh} {A B : List Addr} : Own K He x d B → (∀ b ∈ B, b ∉ ptA Pt) → Slots K Pt He H σ ρ A → Slots K Pt He H (some x :: σ) (.sh d :: ρ) A
  | pot {p g : Addr} {σ : St} {ρ : Rh} {A : List Addr} : Pt.pot = some (p, g) → Slots K Pt He H σ ρ A → Slots K Pt He H (some (.ref p) :: σ) (.pot :: ρ) A
  | tb {v : Option V} {T : List (Addr × Str)} {σ : St} {ρ : Rh} {A : List Addr} : Pt.tabs = some T → Slots K Pt He H σ ρ A → Slots K Pt He H (v :: σ) (.tb T :: ρ) A
structure Env (K : PySem.W.Frag) (Pt : Ef) (m : Nat) (He H : Hp) (σ : St) (ρ : Rh) (A : List Addr) : Prop where
  sl : Slots K Pt He H σ ρ A
  nd : A.Nodup
  fr : ∀ a ∈ A, He a = none
  dj : ∀ a ∈ A, a ∉ ptA Pt
  kp : Ke Pt He H
  pt : PotAt Pt m H
section
variable {K : PySem.W.Frag} {Pt : Ef} {m : Nat} {He H H' : Hp} {σ : St} {ρ : Rh} {A : List Addr}
theorem Slots.length : ∀ {σ : St} {ρ : Rh} {A : List Addr}, Slots K Pt He H σ ρ A → ρ.length = σ.length
  | _, _, _, .nil => rfl
  | _, _, _, .un s => by rw [List.length_cons, List.length_cons, Slots.length s]
  | _, _, _, .ow _ s => by rw [List.length_cons, List.length_cons, Slots.length s]
  | _, _, _, .sh _ _ s => by rw [List.length_cons, List.length_cons, Slots.length s]
  | _, _, _, .pot _ s => by rw [List.length_cons, List.length_cons, Slots.length s]
  | _, _, _, .tb _ s => by rw [List.length_cons, List.length_cons, Slots.length s]
theorem Slots.at' (kp : Ke Pt He H) : ∀ {σ : St} {ρ : Rh} {A : List Addr}, Slots K Pt He H σ ρ A → ∀ (i : Nat) (d : PyData), (ρ.map pu)[i]? = some (some d) → ∃ x B, σ[i]? = some (some x) ∧ Own K H x d B
  | _, _, _, .nil, i, d, h => by simp at h
  | _, _, _, .un s, 0, d, h => by simp [pu] at h
  | _, _, _, .un s, i + 1, d, h => by simpa using Slots.at' kp s i d (by simpa using h)
  | _, _, _, .ow o s, 0, d, h => by
    simp only [List.map_cons, pu, List.getElem?_cons_zero, Option.some.injEq] at h
    subst h
    exact ⟨_, _, rfl, o⟩
  | _, _, _, .ow o s, i + 1, d, h => by simpa using Slots.at' kp s i d (by simpa using h)
  | _, _, _, .sh o n s, 0, d, h => by
    simp only [List.map_cons, pu, List.getElem?_cons_zero, Option.some.injEq] at h
    subst h
    exact ⟨_, _, rfl, o.kp kp n⟩
  | _, _, _, .sh _ _ s, i + 1, d, h => by simpa using Slots.at' kp s i d (by simpa using h)
  | _, _, _, .pot _ s, 0, d, h => by simp [pu] at h
  | _, _, _, .pot _ s, i + 1, d, h => by simpa using Slots.at' kp s i d (by simpa using h)
  | _, _, _, .tb _ s, 0, d, h => by simp [pu] at h
  | _, _, _, .tb _ s, i + 1, d, h => by simpa using Slots.at' kp s i d (by simpa using h)
theorem Env.envP (e : Env K Pt m He H σ ρ A) : EnvP K H σ (ρ.map pu) := ⟨by rw [List.length_map]; exact e.sl.length, e.sl.at' e.kp⟩
theorem Slots.isS : ∀ {σ : St} {ρ : Rh} {A : List Addr}, Slots K Pt He H σ ρ A → ∀ a ∈ A, LD (H a)
  | _, _, _, .nil, a, h => by cases h
  | _, _, _, .un s, a, h => Slots.isS s a h
  | _, _, _, .ow o s, a, h => by
    rcases List.mem_append.mp h with h | h
    · exact o.mut a h
    · exact Slots.isS s a h
  | _, _, _, .sh _ _ s, a, h => Slots.isS s a h
  | _, _, _, .pot _ s, a, h => Slots.isS s a h
  | _, _, _, .tb _ s, a, h => Slots.isS s a h
theorem Slots.stay (k : ∀ b o, H b = some o → ¬ LD (some o) → ¬ isT o → H' b = some o) : ∀ {σ : St} {ρ : Rh} {A : List Addr}, Slots K Pt He H σ ρ A → (∀ a ∈ A, ∀ o, H a = some o → H' a = some o) → Slots K Pt He H' σ ρ A
  | _, _, _, .nil, _ => .nil
  | _, _, _, .un s, n => .un (Slots.stay k s n)
  | _, _, _, .ow o s, n => .ow (o.stay k fun b hb => n b (List.mem_append_left _ hb)) (Slots.stay k s fun b hb => n b (List.mem_append_right _ hb))
  | _, _, _, .sh o d s, n => .sh o d (Slots.stay k s n)
  | _, _, _, .pot e s, n => .pot e (Slots.stay k s n)
  | _, _, _, .tb e s, n => .tb e (Slots.stay k s n)
theorem Slots.he {He' : Hp} (k : Ke Pt He He') : ∀ {σ : St} {ρ : Rh} {A : List Addr}, Slots K Pt He H σ ρ A → Slots K Pt He' H σ ρ A
  | _, _, _, .nil => .nil
  | _, _, _, .un s => .un (Slots.he k s)
  | _, _, _, .ow o s => .ow o (Slots.he k s)
  | _, _, _, .sh o d s => .sh (o.kp k d) d (Slots.he k s)
  | _, _, _, .pot e s => .pot e (Slots.he k s)
  | _, _, _, .tb e s => .tb e (Slots.he k s)
theorem Env.same (e : Env K Pt m He H σ ρ A) (s : Same H H') : Env K Pt m He H' σ ρ A :=
  ⟨e.sl.stay (fun b o h _ _ => s b o h) fun b _ o h => s b o h, e.nd, e.fr, e.dj, e.kp.trans (.of_same s), e.pt.same s⟩
theorem Slots.split : ∀ {σ : St} {ρ : Rh} {A : List Addr}, Slots K Pt He H σ ρ A → ∀ (i : Nat) (s : Slot), ρ[i]? = some s → ∃ v A1 C A2, σ[i]? = some v ∧ A = A1 ++ C ++ A2 ∧
    Slots K Pt He H [v] [s] C ∧ (∀ (v' : Option V) (s' : Slot) (C' : List Addr), Slots K Pt He H [v'] [s'] C' → Slots K Pt He H (σ.set i v') (ρ.set i s') (A1 ++ C' ++ A2))
  | _, _, _, .nil, i, s, h => by simp at h
  | _, _, _, .un (v := v) (A := A) t, 0, s, h => by
    cases h
    refine ⟨v, [], [], A, rfl, rfl, .un .nil, fun v' s' C' q => ?_⟩
    cases q with
    | un q => cases q; exact .un t
    | ow o q => cases q; rw [List.append_nil]; exact .ow o t
    | sh o d q => cases q; exact .sh o d t
    | pot e q => cases q; exact .pot e t
    | tb e q => cases q; exact .tb e t
  | _, _, _, .ow (x := x) (A := A) (B := B) o t, 0, s, h => by
    cases h
    refine ⟨some x, [], B, A, rfl, rfl, by have := Slots.ow (K := K) (Pt := Pt) (He := He) o Slots.nil; rwa [List.append_nil] at this, fun v' s' C' q => ?_⟩
    cases q with
    | un q => cases q; exact .un t
    | ow o q => cases q; rw [List.append_nil]; exact .ow o t
    | sh o d q => cases q; exact .sh o d t
    | pot e q => cases q; exact .pot e t
    | tb e q => cases q; exact .tb e t
  | _, _, _, .sh (x := x) (A := A) o d t, 0, s, h => by
    cases h
    refine ⟨some x, [], [], A, rfl, rfl, .sh o d .nil, fun v' s' C' q => ?_⟩
    cases q with
    | un q => cases q; exact .un t
    | ow o q => cases q; rw [List.append_nil]; exact .ow o t
    | sh o d q => cases q; exact .sh o d t
    | pot e q => cases q; exact .pot e t
    | tb e q => cases q; exact .tb e t
  | _, _, _, .pot (p := p) (A := A) e t, 0, s, h => by
    cases h
    refine ⟨some (.ref p), [], [], A, rfl, rfl, .pot e .nil, fun v' s' C' q => ?_⟩
    cases q with
    | un q => cases q; exact .un t
    | ow o q => cases q; rw [List.append_nil]; exact .ow o t
    | sh o d q => cases q; exact .sh o d t
    | pot e q => cases q; exact .pot e t
    | tb e q => cases q; exact .tb e t
  | _, _, _, .tb (v := v) (T := T) (A := A) e t, 0, s, h => by
    cases h
    refine ⟨v, [], [], A, rfl, rfl, .tb e .nil, fun v' s' C' q => ?_⟩
    cases q with
    | un q => cases q; exact .un t
    | ow o q => cases q; rw [List.append_nil]; exact .ow o t
    | sh o d q => cases q; exact .sh o d t
    | pot e q => cases q; exact .pot e t
    | tb e q => cases q; exact .tb e t
  | _, _, _, .un t, i + 1, s, h => by
    obtain ⟨v, A1, C, A2, h1, rfl, h3, h4⟩ := Slots.split t i s (by simpa using h)
    exact ⟨v, A1, C, A2, by simpa using h1, rfl, h3, fun v' s' C' q => .un (h4 v' s' C' q)⟩
  | _, _, _, .ow (B := B) o t, i + 1, s, h => by
    obtain ⟨v, A1, C, A2, h1, rfl, h3, h4⟩ := Slots.split t i s (by simpa using h)
    exact ⟨v, B ++ A1, C, A2, by simpa using h1, by simp [List.append_assoc], h3, fun v' s' C' q => by
      have := Slots.ow o (h4 v' s' C' q)
      simpa [List.append_assoc] using this⟩
  | _, _, _, .sh o d t, i + 1, s, h => by
    obtain ⟨v, A1, C, A2, h1, rfl, h3, h4⟩ := Slots.split t i s (by simpa using h)
    exact ⟨v, A1, C, A2, by simpa using h1, rfl, h3, fun v' s' C' q => .sh o d (h4 v' s' C' q)⟩
  | _, _, _, .pot e t, i + 1, s, h => by
    obtain ⟨v, A1, C, A2, h1, rfl, h3, h4⟩ := Slots.split t i s (by simpa using h)
    exact ⟨v, A1, C, A2, by simpa using h1, rfl, h3, fun v' s' C' q => .pot e (h4 v' s' C' q)⟩
  | _, _, _, .tb e t, i + 1, s, h => by
    obtain ⟨v, A1, C, A2, h1, rfl, h3, h4⟩ := Slots.split t i s (by simpa using h)
    exact ⟨v, A1, C, A2, by simpa using h1, rfl, h3, fun v' s' C' q => .tb e (h4 v' s' C' q)⟩
theorem nodup_mid {A1 C A2 C' : List Addr} (h : (A1 ++ C ++ A2).Nodup) (hc : C'.Nodup) (hd : ∀ c ∈ C', c ∉ A1 ++ A2) : (A1 ++ C' ++ A2).Nodup := by
  rw [List.append_assoc] at h ⊢
  obtain ⟨h1, h2, h3⟩ := List.nodup_append.mp h
  obtain ⟨h4, h5, h6⟩ := List.nodup_append.mp h2
  refine List.nodup_append.mpr ⟨h1, List.nodup_append.mpr ⟨hc, h5, fun a ha b hb z => ?_⟩, fun a ha b hb z => ?_⟩
  · subst z; exact hd a ha (List.mem_append_right _ hb)
  · subst z
    rcases List.mem_append.mp hb with hb | hb
    · exact hd a hb (List.mem_append_left _ ha)
    · exact h3 a ha a (List.mem_append_right _ hb) rfl
theorem mem_mid {A1 C A2 : List Addr} {a : Addr} (h : a ∈ A1 ++ A2) : a ∈ A1 ++ C ++ A2 := by
  rcases List.mem_append.mp h with h | h
  · exact List.mem_append_left _ (List.mem_append_left _ h)
  · exact List.mem_append_right _ h
theorem Env.set (e : Env K Pt m He H σ ρ A) (s : Same H H') {i : Nat} (hi : i < ρ.length) {x : V} {d : PyData} {B : List Addr} (o : Own K H' x d B) (nB : B.Nodup) (fB : ∀ b ∈ B, H b = none) :
    ∃ A', Env K Pt m He H' (σ.set i (some x)) (ρ.set i (.ow d)) A' := by
  have e' := e.same s
  obtain ⟨v, A1, C, A2, h1, hA, h3, h4⟩ := e'.sl.split i ρ[i] (by simp [hi])
  have hs := h4 (some x) (.ow d) B (by have := Slots.ow (K := K) (Pt := Pt) (He := He) o Slots.nil; rwa [List.append_nil] at this)
  subst hA
  have hin : ∀ a ∈ A1 ++ B ++ A2, a ∈ B ∨ a ∈ A1 ++ C ++ A2 := fun a ha => by
    rcases List.mem_append.mp ha with ha | ha
    · rcases List.mem_append.mp ha with ha | ha
      · exact .inr (mem_mid (List.mem_append_left _ ha))
      · exact .inl ha
    · exact .inr (mem_mid (List.mem_append_right _ ha))
  refine ⟨_, hs, nodup_mid e.nd nB fun b hb z => ?_, fun a ha => ?_, fun a ha z => ?_, e'.kp, e'.pt⟩
  · exact mut_some (e.sl.isS b (mem_mid z)) (fB b hb)
  · rcases hin a ha with ha | ha
    · exact e.kp.dom a (fB a ha)
    · exact e.fr a ha
  · rcases hin a ha with ha | ha
    · exact e.pt.some a z (fB a ha)
    · exact e.dj a ha z
inductive Le : Rh → Rh → Prop
  | nil : Le [] []
  | keep {s : Slot} {ρ ρ' : Rh} : Le ρ ρ' → Le (s :: ρ) (s :: ρ')
  | drop {s : Slot} {ρ ρ' : Rh} : Le ρ ρ' → Le (s :: ρ) (.un :: ρ')
theorem Le.refl : ∀ ρ : Rh, Le ρ ρ
  | [] => .nil
  | _ :: ρ => .keep (Le.refl ρ)
theorem Slots.weak : ∀ {σ : St} {ρ ρ' : Rh} {A : List Addr}, Slots K Pt He H σ ρ A → Le ρ ρ' → ∃ A', Slots K Pt He H σ ρ' A' ∧ List.Sublist A' A
  | _, _, _, _, .nil, .nil => ⟨[], .nil, .slnil⟩
  | _, _, _, _, .un s, .keep l => let ⟨A', h1, h2⟩ := Slots.weak s l; ⟨A', .un h1, h2⟩
  | _, _, _, _, .un s, .drop l => let ⟨A', h1, h2⟩ := Slots.weak s l; ⟨A', .un h1, h2⟩
  | _, _, _, _, .ow (B := B) o s, .keep l => let ⟨A', h1, h2⟩ := Slots.weak s l; ⟨B ++ A', .ow o h1, List.Sublist.append (List.Sublist.refl B) h2⟩
  | _, _, _, _, .ow (B := B) o s, .drop l => let ⟨A', h1, h2⟩ := Slots.weak s l; ⟨A', .un h1, h2.trans (List.sublist_append_right B _)⟩
  | _, _, _, _, .sh o d s, .keep l => let ⟨A', h1, h2⟩ := Slots.weak s l; ⟨A', .sh o d h1, h2⟩
  | _, _, _, _, .sh o d s, .drop l => let ⟨A', h1, h2⟩ := Slots.weak s l; ⟨A', .un h1, h2⟩
  | _, _, _, _, .pot e s, .keep l => let ⟨A', h1, h2⟩ := Slots.weak s l; ⟨A', .pot e h1, h2⟩
  | _, _, _, _, .pot e s, .drop l => let ⟨A', h1, h2⟩ := Slots.weak s l; ⟨A', .un h1, h2⟩
  | _, _, _, _, .tb e s, .keep l => let ⟨A', h1, h2⟩ := Slots.weak s l; ⟨A', .tb e h1, h2⟩
  | _, _, _, _, .tb e s, .drop l => let ⟨A', h1, h2⟩ := Slots.weak s l; ⟨A', .un h1, h2⟩
theorem Env.weak {ρ' : Rh} (e : Env K Pt m He H σ ρ A) (l : Le ρ ρ') : ∃ A', Env K Pt m He H σ ρ' A' := by
  obtain ⟨A', h1, h2⟩ := e.sl.weak l
  exact ⟨A', h1, e.nd.sublist h2, fun a ha => e.fr a (h2.subset ha), fun a ha => e.dj a (h2.subset ha), e.kp, e.pt⟩
def hide (A : List Addr) (H : Hp) : Hp := fun b => if b ∈ A then none else H b
theorem Env.hid (e : Env K Pt m He H σ ρ A) : Env K Pt m (hide A H) H σ ρ A ∧ Ke Pt He (hide A H) := by
  have k1 : Ke Pt He (hide A H) := ⟨fun a o h n t => by
    have : a ∉ A := fun z => by rw [e.fr a z] at h; cases h
    unfold hide; rw [if_neg this]; exact e.kp.keep a o h n t, fun a h => by
    unfold hide at h
    split at h
    · rename_i ha; exact e.fr a ha
    · exact e.kp.dom a h⟩
  refine ⟨⟨e.sl.he k1, e.nd, fun a ha => if_pos ha, e.dj, ⟨fun a o h _ _ => ?_, fun a h => ?_⟩, e.pt⟩, k1⟩
  · unfold hide at h
    split at h
    · cases h
    · exact h
  · unfold hide; split
    · rfl
    · exact h
theorem Env.kq {F : List Addr} {H1 : Hp} (e : Env K Pt m He H σ ρ A) (e' : Ke Pt (hide A H1) H') (s : Same H H1) (hF : ∀ b ∈ F, H b = none) : Kq F H1 H' := fun a o h n t => by
  have hnA : a ∉ A := fun z => by
    have hm := e.sl.isS a z
    cases q : H a with
    | none => exact mut_some hm q
    | some u =>
      have := s a u q
      rw [h] at this; cases this
      rw [q] at hm
      exact mut_some (e.sl.isS a z) (hF a (n hm))
  refine e'.keep a o (by unfold hide; rw [if_neg hnA]; exact h) (fun z hm => ?_) fun _ => t
  exact e.pt.some a z (hF a (n hm))
end
def tS (K : PySem.W.Frag) (m : Nat) (ρ : Rh) (N : Nat → Rh → Prop) (R : Nat → PyData → Prop) : TS := fun D σ H => ∃ Pt He A, Env K Pt m He H σ ρ A ∧
  (∀ He' σ' H' m' ρ' A', Ke Pt He He' → Env K Pt m' He' H' σ' ρ' A' → N m' ρ' → D.nx σ' H') ∧
  (∀ x H' m' d B, Ke Pt He H' → PotAt Pt m' H' → Own K H' x d B → B.Nodup → (∀ b ∈ B, He b = none) → R m' d → D.rt x H')
def tE (K : PySem.W.Frag) (m : Nat) (ρ : Rh) (m' : Nat) (P : PyData → Prop) : TE := fun σ H Q => ∃ Pt He A, Env K Pt m He H σ ρ A ∧
  ∀ x H' d B, P d → Env K Pt m' He H' σ ρ A → Ke Pt H H' → Own K H' x d B → B.Nodup → (∀ b ∈ B, H b = none) → Q x H'
section
variable {X : Cx} {m m' : Nat} {ρ ρ' : Rh} {N N' : Nat → Rh → Prop} {R R' : Nat → PyData → Prop} {e a b c tg iter : Expr} {st : Stmt} {rest body els : List Stmt} {pos : Pos} {d : PyData} {ds its : List PyData} {P : PyData → Prop}
theorem tS.mono {K : PySem.W.Frag} {D : Ends} {σ : St} {H : Hp} (h : tS K m ρ N' R' D σ H) (hN : ∀ m ρ, N m ρ → N' m ρ) (hR : ∀ m d, R m d → R' m d) : tS K m ρ N R D σ H := by
  obtain ⟨Pt, He, A, e, k1, k2⟩ := h
  exact ⟨Pt, He, A, e, fun He' σ' H' m' ρ' A' k e' n => k1 He' σ' H' m' ρ' A' k e' (hN _ _ n), fun x H' m' d B k p o nd f r => k2 x H' m' d B k p o nd f (hR _ _ r)⟩
theorem pss_mono (h : PSs X rest (tS X.K m ρ N R)) (hN : ∀ m ρ, N m ρ → N' m ρ) (hR : ∀ m d, R m d → R' m d) : PSs X rest (tS X.K m ρ N' R') := PSs.imp h fun _ _ _ q => q.mono hN hR
theorem dss_nil (l : Le ρ ρ') (h : N m ρ') : PSs X [] (tS X.K m ρ N R) := PSs.imp pss_nil fun _ σ H ⟨Pt, He, A, e, k1, _⟩ => by
  obtain ⟨A', e'⟩ := e.weak l
  exact k1 He σ H m ρ' A' (.refl _) e' h
theorem dss_seq {N1 : Nat → Rh → Prop} (h1 : PS X st (tS X.K m ρ N1 R)) (h2 : ∀ m' ρ', N1 m' ρ' → PSs X rest (tS X.K m' ρ' N R)) : PSs X (st :: rest) (tS X.K m ρ N R) := by
  have h2' : PSs X rest (fun D σ H => ∃ m' ρ', N1 m' ρ' ∧ tS X.K m' ρ' N R D σ H) := ⟨fun pins s σ H D I ⟨m', ρ', n, h⟩ => (h2 m' ρ' n).run pins s σ H D I h⟩
  refine PSs.imp (pss_cons h1 h2') fun D σ H ⟨Pt, He, A, e, k1, k2⟩ => ⟨Pt, He, A, e, fun He' σ' H' m' ρ' A' kp e' n => ⟨m', ρ', n, Pt, He', A', e', fun He2 σ2 H2 m2 ρ2 A2 kp2 e2 n2 => k1 He2 σ2 H2 m2 ρ2 A2 (kp.trans kp2) e2 n2, fun x H2 m2 d B kp2 p o nd f r => k2 x H2 m2 d B (kp.trans kp2) p o nd (fun b hb => kp.dom b (f b hb)) r⟩, k2⟩
theorem ds_one (h : PS X st (tS X.K m ρ N R)) : PSs X [st] (tS X.K m ρ N R) := pss_one h
theorem ds_set (i : Nat) {x : Str} {pos' : Pos} (hN : X.N.Nodup) (hi : X.N[i]? = some x) (hx : Loc X.env.scope x) (he : PE X e (tF X.K (ρ.map pu) d)) (hil : i < ρ.length := by (first | exact Nat.le_of_ble_eq_true rfl | decide | simp))
    (hs : swapsWith e (some (.Name x pos')) pos.line X.env = pure false := by rfl) (hf : X.fn x = true ∨ X.env.scope.names.lookup x = some .local := by first | exact .inl rfl | exact .inr rfl | assumption) :
    PS X (.Assign [.Name x pos'] e pos) (tS X.K m ρ (fun m1 ρ1 => m1 = m ∧ ρ1 = ρ.set i (.ow d)) R) :=
  PS.imp (ps_set hN hi hx he hs hf) fun D σ H ⟨Pt, He, A, e, k1, _⟩ => ⟨e.envP, fun x H' B s o nd f => by
    obtain ⟨A', e'⟩ := e.set s hil o nd f
    exact k1 He _ H' m _ A' (.refl _) e' ⟨rfl, rfl⟩⟩
theorem ds_ret (he : PE X e (tF X.K (ρ.map pu) d)) (h : R m d) : PS X (.Return (some e) pos) (tS X.K m ρ N R) :=
  PS.imp (ps_ret he) fun D σ H ⟨Pt, He, A, e, _, k2⟩ => ⟨e.envP, fun x H' B s o nd f => k2 x H' m d B (e.kp.trans (.of_same s)) (e.pt.same s) o nd (fun b hb => e.kp.dom b (f b hb)) h⟩
theorem ds_retN (h : R m .none) : PS X (.Return none pos) (tS X.K m ρ N R) :=
  PS.imp ps_retN fun D σ H ⟨Pt, He, A, e, _, k2⟩ => k2 .non H m .none [] e.kp e.pt .non List.nodup_nil (fun _ q => by cases q) h
theorem ds_retV (i : Nat) (he : PE X e (tVar i)) (hi : ρ[i]? = some (.ow d) := by rfl) (h : R m d) : PS X (.Return (some e) pos) (tS X.K m ρ N R) :=
  PS.imp (ps_ret he) fun D σ H ⟨Pt, He, A, e, _, k2⟩ => by
    obtain ⟨v, A1, C, A2, h1, hA, h3, _⟩ := e.sl.split i _ hi
    subst hA
    cases h3 with
    | ow o q =>
      cases q
      rename_i x B
      have hB : ∀ b ∈ B, b ∈ A1 ++ (B ++ []) ++ A2 := fun b hb => List.mem_append_left _ (List.mem_append_right _ (by rw [List.append_nil]; exact hb))
      exact ⟨_, h1, k2 _ H m d B e.kp e.pt o (by
        have := e.nd
        rw [List.append_nil] at this
        exact (List.nodup_append.mp (List.nodup_append.mp this).1).2.1) (fun b hb => e.fr b (hB b hb)) h⟩
theorem ds_if {w : Bool} (hc : PT X c (tT X.K (ρ.map pu) w)) (h1 : w = true → PSs X body (tS X.K m ρ N R)) (h2 : w = false → PSs X els (tS X.K m ρ N R)) : PS X (.If c body els pos) (tS X.K m ρ N R) := by
  cases w with
  | true => exact PS.imp (ps_if hc (h1 rfl) pss_never) fun D σ H ⟨Pt, He, A, e, k1, k2⟩ => ⟨e.envP, fun H' s => iteT ⟨Pt, He, A, e.same s, k1, k2⟩⟩
  | false => exact PS.imp (ps_if hc pss_never (h2 rfl)) fun D σ H ⟨Pt, He, A, e, k1, k2⟩ => ⟨e.envP, fun H' s => iteF ⟨Pt, He, A, e.same s, k1, k2⟩⟩
end
end DL
end
section
set_option Elab.async false
set_option linter.all false
set_option maxRecDepth 100000
set_option maxHeartbeats 4000000
namespace DL
open PySem PySem.Spec L2
section
variable {K : PySem.W.Frag} {Pt : Ef} {m : Nat} {He H H' : Hp} {σ : St} {ρ : Rh} {A : List Addr}
theorem set_here {α : Type} {l : List α} {i : Nat} {x : α} (h : l[i]? = some x) : l.set i x = l := by
  apply List.ext_getElem?
  intro j
  rw [List.getElem?_set]
  by_cases e : i = j
  · subst e
    rw [if_pos rfl]
    split
    · exact h.symm
    · rename_i q
      rw [List.getElem?_eq_none (by omega)]
  · rw [if_neg e]
theorem Env.write {i : Nat} {d0 : PyData} (e : Env K Pt m He H σ ρ A) (hi : ρ[i]? = some (.ow d0)) :
    ∃ x C0, σ[i]? = some (some x) ∧ Own K H x d0 C0 ∧ C0.Nodup ∧ (∀ c ∈ C0, He c = none) ∧ ∀ (S B1 : List Addr) (H3 : Hp) (d1 : PyData), Kp S false H H3 → (∀ s ∈ S, s ∈ C0) → Own K H3 x d1 B1 → B1.Nodup → (∀ b ∈ B1, b ∈ C0 ∨ H b = none) →
      ∃ A', Env K Pt m He H3 σ (ρ.set i (.ow d1)) A' := by
  obtain ⟨v, A1, C, A2, h1, hA, h3, h4⟩ := e.sl.split i _ hi
  cases h3 with
  | ow o q =>
    cases q
    rename_i x C
    rw [List.append_nil] at hA
    subst hA
    have nd := e.nd
    have ndC : C.Nodup := (List.nodup_append.mp (List.nodup_append.mp nd).1).2.1
    refine ⟨x, C, h1, o, ndC, fun c hc => e.fr c (List.mem_append_left _ (List.mem_append_right _ hc)), fun S B1 H3 d1 kp hS o1 n1 hB => ?_⟩
    have s1 : Slots K Pt He H σ (ρ.set i .un) (A1 ++ [] ++ A2) := by
      have := h4 (some x) .un [] (.un .nil)
      rwa [set_here h1] at this
    have disj : ∀ a ∈ A1 ++ [] ++ A2, a ∉ C := fun a ha hc => by
      rw [List.append_nil] at ha
      rw [List.append_assoc] at nd
      obtain ⟨_, h6, h7⟩ := List.nodup_append.mp nd
      rcases List.mem_append.mp ha with ha | ha
      · exact h7 a ha a (List.mem_append_left _ hc) rfl
      · exact (List.nodup_append.mp h6).2.2 a hc a ha rfl
    have s2 : Slots K Pt He H3 σ (ρ.set i .un) (A1 ++ [] ++ A2) := s1.stay (fun b o' h z y => kp.keep b o' h (fun _ => z) fun z => by cases z) fun a ha o' h => kp.keep a o' h (fun z => absurd (hS a z) (disj a ha)) fun z => by cases z
    have hlen : i < ρ.length := (List.getElem?_eq_some_iff.mp hi).1
    obtain ⟨v2, A3, C2, A4, h5, hA2, h6, h7⟩ := s2.split i .un (by rw [List.getElem?_set_self hlen])
    have hC2 : C2 = [] := by
      cases h6 with
      | un q => cases q; rfl
    subst hC2
    have s3 := h7 (some x) (.ow d1) B1 (by have := Slots.ow (K := K) (Pt := Pt) (He := He) o1 Slots.nil; rwa [List.append_nil] at this)
    rw [set_here h1, List.set_set] at s3
    have eA : A3 ++ A4 = A1 ++ A2 := by
      have := hA2
      simp only [List.append_nil] at this
      exact this.symm
    have hin : ∀ a ∈ A3 ++ B1 ++ A4, a ∈ B1 ∨ a ∈ A1 ++ A2 := fun a ha => by
      rcases List.mem_append.mp ha with ha | ha
      · rcases List.mem_append.mp ha with ha | ha
        · exact .inr (by rw [← eA]; exact List.mem_append_left _ ha)
        · exact .inl ha
      · exact .inr (by rw [← eA]; exact List.mem_append_right _ ha)
    have ndA : (A1 ++ A2).Nodup := by
      have : (A1 ++ [] ++ A2).Nodup := nodup_mid nd List.nodup_nil fun _ q => by cases q
      simpa using this
    have hCA : ∀ c ∈ C, c ∈ A1 ++ C ++ A2 := fun c hc => List.mem_append_left _ (List.mem_append_right _ hc)
    have hA12 : ∀ a ∈ A1 ++ A2, a ∈ A1 ++ C ++ A2 := fun a ha => mem_mid ha
    refine ⟨_, s3, nodup_mid (C := []) (by rw [List.append_nil, eA]; exact ndA) n1 fun b hb z => ?_, fun a ha => ?_, fun a ha z => ?_, ⟨fun a o' h n t => ?_, fun a h => e.kp.dom a (kp.dom a h)⟩, e.pt.kept kp fun a ha => e.dj a (hCA a (hS a ha))⟩
    · rw [eA] at z
      rcases hB b hb with h | h
      · exact disj b (by rw [List.append_nil]; exact z) h
      · exact mut_some (e.sl.isS b (hA12 b z)) h
    · rcases hin a ha with ha | ha
      · rcases hB a ha with h | h
        · exact e.fr a (hCA a h)
        · exact e.kp.dom a h
      · exact e.fr a (hA12 a ha)
    · rcases hin a ha with ha | ha
      · rcases hB a ha with h | h
        · exact e.dj a (hCA a h) z
        · exact e.pt.some a z h
      · exact e.dj a (hA12 a ha) z
    · refine kp.keep a o' (e.kp.keep a o' h n t) (fun z => ?_) (fun z => by cases z)
      have := e.fr a (hCA a (hS a z))
      rw [h] at this; cases this
end
section
variable {X : Cx} {m m' : Nat} {ρ ρ' : Rh} {N N' : Nat → Rh → Prop} {R R' : Nat → PyData → Prop} {e a b c tg iter o ix : Expr} {es : List Expr} {st : Stmt} {rest body els : List Stmt} {pos cpos apos tpos : Pos} {d d0 d1 d2 : PyData} {ds ds1 ds2 its : List PyData} {i j k : Int} {P : PyData → Prop}
theorem ds_append (n : Nat) (ho : PE X o (tVar n)) (hn : ρ[n]? = some (.ow (.list ds)) := by rfl) (he : PE X e (tF X.K (ρ.map pu) d)) (hz : ds.length < sizeLine)
    (hc : PE X (.Call (.Attribute o "append" apos) [e] [] cpos) (tBM X.K "list" rAppend (tVar n) (tCons (tF X.K (ρ.map pu) d) tNil)) := by exact pe_bm PySem.F.plainAttrs_list PySem.F.slot_list_append PySem.F.type_list_append mt_append (by assumption) (pa_cons (by assumption) pa_nil))
    (hs : swapsWith (.Call (.Attribute o "append" apos) [e] [] cpos) none pos.line X.env = pure false := by rfl) :
    PS X (.Expr (.Call (.Attribute o "append" apos) [e] [] cpos) pos) (tS X.K m ρ (fun m1 ρ1 => m1 = m ∧ ρ1 = ρ.set n (.ow (.list (ds ++ [d])))) R) :=
  PS.imp (ps_expr hc hs) fun D σ H ⟨Pt, He, A, e, k1, _⟩ => by
    obtain ⟨x, C0, h1, o0, n0, f0, wr⟩ := e.write hn
    obtain ⟨p, xs, C, rfl, hp, ol, hl, rfl⟩ := o0.lst_inv
    refine ⟨_, h1, .inl ⟨rfl, _, .of hp⟩, e.envP, fun y H2 B s oy nB fB => ⟨p, xs, y, rfl, rfl, s _ _ hp, by rw [ol.length]; exact hz, ?_⟩⟩
    have kp : Kp [p] false H (upd H2 p (.lst (xs ++ [y]))) := (Kp.of_same s).trans (Kp.upd (by simp) (s _ _ hp) trivial)
    have kp2 : Kp [p] false H2 (upd H2 p (.lst (xs ++ [y]))) := Kp.upd (by simp) (s _ _ hp) trivial
    have nC : ∀ b ∈ C ++ B, b ∉ [p] := fun b hb z => by
      have e' : b = p := by simpa using z
      subst e'
      rcases List.mem_append.mp hb with hb | hb
      · exact (List.nodup_cons.mp n0).1 hb
      · have := fB b hb
        rw [hp] at this; cases this
    obtain ⟨A', e'⟩ := wr [p] (p :: (C ++ B)) _ (.list (ds ++ [d])) kp (by simp)
      (.lst upd_same (by rw [List.length_append]; show xs.length + 1 ≤ sizeLine; rw [ol.length]; exact hz) (((ol.same s).append (OwnL.single oy)).kp kp2 nC))
      (List.nodup_cons.mpr ⟨fun z => nC p z (by simp), List.nodup_append.mpr ⟨(List.nodup_cons.mp n0).2, nB, fun u hu v hv z => ol.isS u hu (by rw [z]; exact fB v hv)⟩⟩)
      fun b hb => by
        rcases List.mem_cons.mp hb with rfl | hb
        · exact .inl List.mem_cons_self
        · rcases List.mem_append.mp hb with hb | hb
          · exact .inl (List.mem_cons_of_mem _ hb)
          · exact .inr (fB b hb)
    exact k1 He σ _ m _ A' (.refl _) e' ⟨rfl, rfl⟩
theorem ds_extend (n : Nat) (ho : PE X o (tVar n)) (hn : ρ[n]? = some (.ow (.list ds)) := by rfl) (he : PE X e (tF X.K (ρ.map pu) (.list ds2))) (hz : ds.length + ds2.length ≤ sizeLine)
    (hc : PE X (.Call (.Attribute o "extend" apos) [e] [] cpos) (tBM X.K "list" rExtend (tVar n) (tCons (tF X.K (ρ.map pu) (.list ds2)) tNil)) := by exact pe_bm PySem.F.plainAttrs_list PySem.F.slot_list_extend PySem.F.type_list_extend mt_extend (by assumption) (pa_cons (by assumption) pa_nil))
    (hs : swapsWith (.Call (.Attribute o "extend" apos) [e] [] cpos) none pos.line X.env = pure false := by rfl) :
    PS X (.Expr (.Call (.Attribute o "extend" apos) [e] [] cpos) pos) (tS X.K m ρ (fun m1 ρ1 => m1 = m ∧ ρ1 = ρ.set n (.ow (.list (ds ++ ds2)))) R) :=
  PS.imp (ps_expr hc hs) fun D σ H ⟨Pt, He, A, e, k1, _⟩ => by
    obtain ⟨x, C0, h1, o0, n0, f0, wr⟩ := e.write hn
    obtain ⟨p, xs, C, rfl, hp, ol, hl, rfl⟩ := o0.lst_inv
    refine ⟨_, h1, .inl ⟨rfl, _, .of hp⟩, e.envP, fun y H2 B s oy nB fB => ?_⟩
    obtain ⟨q, ys, B', rfl, hq, om, hl2, rfl⟩ := oy.lst_inv
    have hz' : xs.length + ys.length ≤ sizeLine := by rw [ol.length, om.length]; exact hz
    refine ⟨p, q, xs, ys, rfl, rfl, s _ _ hp, hq, hz', ?_⟩
    have kp : Kp [p] false H (upd H2 p (.lst (xs ++ ys))) := (Kp.of_same s).trans (Kp.upd (by simp) (s _ _ hp) trivial)
    have kp2 : Kp [p] false H2 (upd H2 p (.lst (xs ++ ys))) := Kp.upd (by simp) (s _ _ hp) trivial
    have nC : ∀ b ∈ C ++ B', b ∉ [p] := fun b hb z => by
      have e' : b = p := by simpa using z
      subst e'
      rcases List.mem_append.mp hb with hb | hb
      · exact (List.nodup_cons.mp n0).1 hb
      · have := fB b (List.mem_cons_of_mem _ hb)
        rw [hp] at this; cases this
    obtain ⟨A', e'⟩ := wr [p] (p :: (C ++ B')) _ (.list (ds ++ ds2)) kp (by simp)
      (.lst upd_same (by rw [List.length_append]; exact hz') (((ol.same s).append om).kp kp2 nC))
      (List.nodup_cons.mpr ⟨fun z => nC p z (by simp), List.nodup_append.mpr ⟨(List.nodup_cons.mp n0).2, (List.nodup_cons.mp nB).2, fun u hu v hv z => ol.isS u hu (by rw [z]; exact fB v (List.mem_cons_of_mem _ hv))⟩⟩)
      fun b hb => by
        rcases List.mem_cons.mp hb with rfl | hb
        · exact .inl List.mem_cons_self
        · rcases List.mem_append.mp hb with hb | hb
          · exact .inl (List.mem_cons_of_mem _ hb)
          · exact .inr (fB b (List.mem_cons_of_mem _ hb))
    exact k1 He σ _ m _ A' (.refl _) e' ⟨rfl, rfl⟩
theorem OwnL.set_imm {K : PySem.W.Frag} {H : Hp} : ∀ {xs : List V} {ds : List PyData} {B : List Addr} {v : V} {d : PyData} (n : Nat), OwnL K H xs ds B → Own K H v d [] → ∃ C, OwnL K H (xs.set n v) (ds.set n d) C ∧ List.Sublist C B
  | _, _, _, _, _, _, .nil, _ => ⟨[], .nil, List.Sublist.refl _⟩
  | _, _, _, _, _, 0, .cons (B := B) (C := C) _ l, o => ⟨C, by have := OwnL.cons o l; rwa [List.nil_append] at this, List.sublist_append_right B C⟩
  | _, _, _, _, _, n + 1, .cons (B := B) e l, o => let ⟨C, h1, h2⟩ := OwnL.set_imm n l o; ⟨B ++ C, .cons e h1, List.Sublist.append (List.Sublist.refl B) h2⟩
theorem ds_setItem (n : Nat) {q : Nat} (ho : PE X o (tVar n)) (hn : ρ[n]? = some (.ow (.list ds)) := by rfl) (hx : PE X ix (tP X.K (ρ.map pu) (.int i))) (he : PE X e (tF X.K (ρ.map pu) d)) (hd : imm d = true) (hq : ixN ds.length i = some q)
    (ha : ∀ v, assign (.Subscript o ix tpos) X.env v = (do
      let ov ← holding [v] (eval o X.env)
      let iv ← holding [v, ov] (eval ix X.env)
      standAt tpos
      holding [v, ov, iv] (setItem ov iv v)
      release [v, ov, iv] []) := by intro _; rfl)
    (hs : swapsWithSole [.Subscript o ix tpos] e pos.line X.env = pure false := by rfl) (hw : swappedStores [.Subscript o ix tpos] e X.env = pure none := by rfl) (h1 : (assignEach [.Subscript o ix tpos] X.env).map (·.2) = [assign (.Subscript o ix tpos) X.env] := by rfl) :
    PS X (.Assign [.Subscript o ix tpos] e pos) (tS X.K m ρ (fun m1 ρ1 => m1 = m ∧ ρ1 = ρ.set n (.ow (.list (ds.set q d)))) R) :=
  PS.imp (ps_asg he (pg_sub ho hx set_list ha) hs hw h1) fun D σ H ⟨Pt, He, A, e, k1, _⟩ => ⟨e.envP, fun y H2 B s oy nB fB => by
    have hB := oy.imm hd
    subst hB
    have e2 := e.same s
    obtain ⟨x, C0, h1, o0, n0, f0, wr⟩ := e2.write hn
    obtain ⟨p, xs, C, rfl, hp, ol, hl, rfl⟩ := o0.lst_inv
    refine ⟨_, h1, e2.envP, fun z H3 D3 s3 oz => ⟨p, xs, i, q, rfl, oz.int_inv, s3 _ _ hp, by rw [ol.length]; exact hq, ?_⟩⟩
    have kp : Kp [p] false H2 (upd H3 p (.lst (xs.set q y))) := (Kp.of_same s3).trans (Kp.upd (by simp) (s3 _ _ hp) trivial)
    have kp2 : Kp [p] false H3 (upd H3 p (.lst (xs.set q y))) := Kp.upd (by simp) (s3 _ _ hp) trivial
    obtain ⟨C1, ol1, sub⟩ := OwnL.set_imm q (ol.same s3) (oy.same s3)
    have nC : ∀ b ∈ C1, b ∉ [p] := fun b hb z => by
      have e' : b = p := by simpa using z
      subst e'
      exact (List.nodup_cons.mp n0).1 (sub.subset hb)
    obtain ⟨A', e'⟩ := wr [p] (p :: C1) _ (.list (ds.set q d)) kp (by simp) (.lst upd_same (by rw [List.length_set]; exact hl) (ol1.kp kp2 nC))
      (List.nodup_cons.mpr ⟨fun z => nC p z (by simp), (List.nodup_cons.mp n0).2.sublist sub⟩) fun b hb => by
        rcases List.mem_cons.mp hb with rfl | hb
        · exact .inl List.mem_cons_self
        · exact .inl (List.mem_cons_of_mem _ (sub.subset hb))
    exact k1 He σ _ m _ A' (.refl _) e' ⟨rfl, rfl⟩⟩
def gSt (K : PySem.W.Frag) (m : Nat) (ρ ρ' : Rh) (d : PyData) : TG := fun v σ H Q => ∃ Pt He A, Env K Pt m He H σ ρ A ∧ Own K H v d [] ∧ ∀ σ' A', Env K Pt m He H σ' ρ' A' → Q σ' H
def gSts (K : PySem.W.Frag) (m : Nat) (ρ ρ' : Rh) (ds : List PyData) : TGs := fun vs σ H Q => ∃ Pt He A, Env K Pt m He H σ ρ A ∧ OwnL K H vs ds [] ∧ ∀ σ' A', Env K Pt m He H σ' ρ' A' → Q σ' H
theorem gst_name {n : Nat} (h : PG X e (gName n)) (hn : n < ρ.length := by (first | exact Nat.le_of_ble_eq_true rfl | decide | simp)) : PG X e (gSt X.K m ρ (ρ.set n (.ow d)) d) :=
  PG.imp h fun v σ H Q ⟨Pt, He, A, e, o, k⟩ => by
    obtain ⟨A', e'⟩ := e.set (Same.refl H) hn o List.nodup_nil (fun _ q => by cases q)
    exact k _ A' e'
theorem gsts_nil : PGs X [] (gSts X.K m ρ ρ []) := PGs.imp pgs_nil fun vs σ H Q ⟨Pt, He, A, e, o, k⟩ => by
  cases o
  exact ⟨rfl, k σ A e⟩
theorem gsts_cons {ρ1 ρ2 : Rh} (h1 : PG X e (gSt X.K m ρ ρ1 d)) (h2 : PGs X es (gSts X.K m ρ1 ρ2 ds)) (hs : (assignEach (e :: es) X.env).map (·.2) = assign e X.env :: (assignEach es X.env).map (·.2) := by rfl) :
    PGs X (e :: es) (gSts X.K m ρ ρ2 (d :: ds)) := PGs.imp (pgs_cons h1 h2 hs) fun vs σ H Q ⟨Pt, He, A, e, o, k⟩ => by
  generalize hB : ([] : List Addr) = B at o
  cases o with
  | cons o1 o2 =>
    obtain ⟨rfl, rfl⟩ := List.append_eq_nil_iff.mp hB.symm
    exact ⟨_, _, rfl, Pt, He, A, e, o1, fun σ1 A1 e1 => ⟨Pt, He, A1, e1, o2, fun σ2 A2 e2 => k σ2 A2 e2⟩⟩
theorem gst_tup {n : Nat} (hc : X.calm = true) (h : PGs X es (gSts X.K m ρ ρ' ds)) (hd : ds.length = n := by rfl) {kk : Nat}
    (hn : (assignEach es X.env).length = n := by rfl) (hst : (assignEach es X.env).findIdx? (·.1) = none := by rfl) : PG X (.Tuple es kk pos) (gSt X.K m ρ ρ' (.tuple ds)) :=
  PG.imp (pg_tup hc h hn hst) fun v σ H Q ⟨Pt, He, A, e, o, k⟩ => by
    obtain ⟨p, xs, rfl, hq, ol, _⟩ := o.tup_inv
    exact ⟨p, xs, rfl, hq, by rw [ol.length]; exact hd, Pt, He, A, e, ol, k⟩
theorem ds_asg (he : PE X e (tP X.K (ρ.map pu) d)) (hd : imm d = true) (hg : PG X tg (gSt X.K m ρ ρ' d)) (hs : swapsWithSole [tg] e pos.line X.env = pure false := by rfl) (hw : swappedStores [tg] e X.env = pure none := by rfl)
    (h1 : (assignEach [tg] X.env).map (·.2) = [assign tg X.env] := by rfl) : PS X (.Assign [tg] e pos) (tS X.K m ρ (fun m1 ρ1 => m1 = m ∧ ρ1 = ρ') R) :=
  PS.imp (ps_asg he hg hs hw h1) fun D σ H ⟨Pt, He, A, e, k1, _⟩ => ⟨e.envP, fun x H' B s o => by
    have hB := o.imm hd
    subst hB
    exact ⟨Pt, He, A, e.same s, o, fun σ' A' e' => k1 He σ' H' m ρ' A' (.refl _) e' ⟨rfl, rfl⟩⟩⟩
theorem for_core {Pt : Ef} {He H H1 : Hp} {σ : St} {A F : List Addr} {J : It} {D : Ends} (I : Nat → Nat → Rh → Prop) (e : Env X.K Pt m He H σ ρ A) (s1 : Same H H1) (sq : Seqs X.K J H1 its F)
    (kq : ∀ H2, Ke Pt (hide A H1) H2 → Kq F H1 H2) (hm : ∀ d ∈ its, imm d = true) (h0 : I 0 m ρ)
    (hb : ∀ (n m : Nat) (ρ : Rh) (d : PyData), its[n]? = some d → I n m ρ → ∃ ρ', PG X tg (gSt X.K m ρ ρ' d) ∧ PSs X body (tS X.K m ρ' (I (n + 1)) R))
    (k1 : ∀ He' σ' H' m' ρ' A', Ke Pt He He' → Env X.K Pt m' He' H' σ' ρ' A' → I its.length m' ρ' → D.nx σ' H')
    (k2 : ∀ x H' m' d B, Ke Pt He H' → PotAt Pt m' H' → Own X.K H' x d B → B.Nodup → (∀ b ∈ B, He b = none) → R m' d → D.rt x H') :
    ∃ W : Nat → Nat → St → Hp → Prop, (∃ m, W 0 m σ H1) ∧ ∀ i m σ H, W i m σ H →
      (J.stop i H ∧ D.nx σ H) ∨ (J.go i H ∧ ∃ Nx : St → Hp → Prop, (∀ σ' H', Nx σ' H' → ∃ m', m' < m ∧ W (i + 1) m' σ' H') ∧ ∀ x H', J.yld i H x H' →
        (fun v σ H Q => ∃ n m ρ d ρ', its[n]? = some d ∧ I n m ρ ∧ PG X tg (gSt X.K m ρ ρ' d) ∧ gSt X.K m ρ ρ' d v σ H Q) x σ H' fun σ2 H2 =>
          (fun (D : Ends) σ H => ∃ n m ρ', PSs X body (tS X.K m ρ' (I (n + 1)) R) ∧ tS X.K m ρ' (I (n + 1)) R D σ H) { D with nx := Nx, ct := Nx, bk := D.nx } σ2 H2) := by
  obtain ⟨e1, kH⟩ := (e.same s1).hid
  refine ⟨fun n c σ2 H2 => c = its.length - n ∧ n ≤ its.length ∧ ∃ Hb m2 ρ2 A2, Ke Pt (hide A H1) Hb ∧ Env X.K Pt m2 Hb H2 σ2 ρ2 A2 ∧ I n m2 ρ2, ⟨its.length, rfl, Nat.zero_le _, _, m, ρ, A, .refl _, e1, h0⟩, ?_⟩
  rintro n c σ2 H2 ⟨rfl, hn, Hb, m2, ρ2, A2, kb, e2, hI⟩
  have kq := kq H2 (kb.trans e2.kp)
  by_cases hlt : n < its.length
  · have hd : its[n]? = some its[n] := by simp [hlt]
    obtain ⟨go, yl⟩ := sq.go n H2 _ kq hd
    obtain ⟨ρ', g1, b1⟩ := hb n m2 ρ2 _ hd hI
    refine .inr ⟨go, fun σ' H' => ∃ Hb m3 ρ3 A3, Ke Pt (hide A H1) Hb ∧ Env X.K Pt m3 Hb H' σ' ρ3 A3 ∧ I (n + 1) m3 ρ3, fun σ' H' ⟨Hb', m3, ρ3, A3, kb', e3, i3⟩ => ⟨its.length - (n + 1), by omega, rfl, hlt, Hb', m3, ρ3, A3, kb', e3, i3⟩, fun x H3 y => ?_⟩
    obtain ⟨s3, B, o, _⟩ := yl x H3 y
    have hB := o.imm (hm _ (List.getElem_mem hlt))
    subst hB
    refine ⟨n, m2, ρ2, its[n], ρ', hd, hI, g1, Pt, Hb, A2, e2.same s3, o, fun σ' A' e' => ⟨n, m2, ρ', b1, Pt, Hb, A', e', ?_, ?_⟩⟩
    · intro He' σ4 H4 m4 ρ4 A4 k4 e4 i4
      exact ⟨He', m4, ρ4, A4, kb.trans k4, e4, i4⟩
    · intro x4 H4 m4 d4 B4 k4 p4 o4 n4 f4 r4
      have kk := kH.trans kb
      exact k2 x4 H4 m4 d4 B4 (kk.trans k4) p4 o4 n4 (fun b hb => kk.dom b (f4 b hb)) r4
  · have hn' : n = its.length := by omega
    subst hn'
    exact .inl ⟨sq.stop H2 kq, k1 Hb σ2 H2 m2 ρ2 A2 (kH.trans kb) e2 hI⟩
theorem ds_for (I : Nat → Nat → Rh → Prop) (hp : PassesOwn (model X.prog X.w) X.A X.env X.xe) (hc : X.calm = true) (hi : PI X tg iter (tIF X.K (ρ.map pu) its)) (hm : ∀ d ∈ its, imm d = true) (h0 : I 0 m ρ)
    (hb : ∀ (n m : Nat) (ρ : Rh) (d : PyData), its[n]? = some d → I n m ρ → ∃ ρ', PG X tg (gSt X.K m ρ ρ' d) ∧ PSs X body (tS X.K m ρ' (I (n + 1)) R))
    (hs : ∀ x, foldedSetIterable iter X.env x = pure x := by intro _; rfl) : PS X (.For tg iter body [] pos) (tS X.K m ρ (I its.length) R) := by
  have hg : PG X tg (fun v σ H Q => ∃ n m ρ d ρ', its[n]? = some d ∧ I n m ρ ∧ PG X tg (gSt X.K m ρ ρ' d) ∧ gSt X.K m ρ ρ' d v σ H Q) := ⟨fun pins s σ H v u Q J r ⟨n, m, ρ, d, ρ', h1, h2, h3, h⟩ => h3.run pins s σ H v u Q J r h⟩
  have hb' : PSs X body (fun D σ H => ∃ n m ρ', PSs X body (tS X.K m ρ' (I (n + 1)) R) ∧ tS X.K m ρ' (I (n + 1)) R D σ H) := ⟨fun pins s σ H D J ⟨n, m, ρ', h1, h⟩ => h1.run pins s σ H D J h⟩
  exact PS.imp (ps_for hp hc hi hg hb' hs) fun D σ H ⟨Pt, He, A, e, k1, k2⟩ => ⟨e.envP, fun J H1 F s1 sq fF _ => for_core I e s1 sq (fun H2 k => e.kq k s1 fF) hm h0 hb k1 k2⟩
theorem ds_forS (n : Nat) (I : Nat → Nat → Rh → Prop) (hp : PassesOwn (model X.prog X.w) X.A X.env X.xe) (hc : X.calm = true) (hi : PI X tg iter (iList X.K (tVar n))) (hn : ρ[n]? = some (.sh (.list its)) := by rfl) (hm : ∀ d ∈ its, imm d = true) (h0 : I 0 m ρ)
    (hb : ∀ (n m : Nat) (ρ : Rh) (d : PyData), its[n]? = some d → I n m ρ → ∃ ρ', PG X tg (gSt X.K m ρ ρ' d) ∧ PSs X body (tS X.K m ρ' (I (n + 1)) R))
    (hs : ∀ x, foldedSetIterable iter X.env x = pure x := by intro _; rfl) : PS X (.For tg iter body [] pos) (tS X.K m ρ (I its.length) R) := by
  have hg : PG X tg (fun v σ H Q => ∃ n m ρ d ρ', its[n]? = some d ∧ I n m ρ ∧ PG X tg (gSt X.K m ρ ρ' d) ∧ gSt X.K m ρ ρ' d v σ H Q) := ⟨fun pins s σ H v u Q J r ⟨n, m, ρ, d, ρ', h1, h2, h3, h⟩ => h3.run pins s σ H v u Q J r h⟩
  have hb' : PSs X body (fun D σ H => ∃ n m ρ', PSs X body (tS X.K m ρ' (I (n + 1)) R) ∧ tS X.K m ρ' (I (n + 1)) R D σ H) := ⟨fun pins s σ H D J ⟨n, m, ρ', h1, h⟩ => h1.run pins s σ H D J h⟩
  refine PS.imp (ps_for hp hc hi hg hb' hs) fun D σ H ⟨Pt, He, A, e, k1, k2⟩ => ?_
  obtain ⟨v, A1, C, A2, h1, hA, h3, _⟩ := e.sl.split n _ hn
  cases h3 with
  | sh o dj q =>
    rename_i x B
    have oH := o.kp e.kp dj
    have oS := o.isS
    obtain ⟨p, xs, C2, rfl, hp1, ol, hl, rfl⟩ := oH.lst_inv
    refine ⟨_, h1, p, rfl, ⟨xs, .of hp1⟩, for_core I e (.refl H) (seqs_lst hp1 ol hl) (fun H2 k a o' ha hmu ht => ?_) hm h0 hb k1 k2⟩
    by_cases hM : LD (some o')
    · have ha2 := hmu hM
      obtain ⟨_, kH⟩ := e.hid
      cases q2 : He a with
      | none => exact absurd q2 (oS a ha2)
      | some u =>
        have tu : ¬ isT u := ld_not (o.mut a ha2) q2
        have e1 := e.kp.keep a u q2 (fun z => absurd z (dj a ha2)) fun _ => tu
        rw [ha] at e1; cases e1
        exact k.keep a _ (kH.keep a _ q2 (fun z => absurd z (dj a ha2)) fun _ => tu) (fun z => absurd z (dj a ha2)) fun _ => tu
    · exact e.kq (F := []) k (.refl H) (fun _ z => by cases z) a o' ha (fun z => absurd z hM) ht
theorem Env.freeze {K : PySem.W.Frag} {Pt : Ef} {He H : Hp} {σ : St} {A : List Addr} (e : Env K Pt m He H σ ρ A) {n : Nat} (hn : ρ[n]? = some (.ow d)) : ∃ He' A', Ke Pt He He' ∧ Env K Pt m He' H σ (ρ.set n (.sh d)) A' := by
  obtain ⟨v, A1, C, A2, h1, hA, h3, h4⟩ := e.sl.split n _ hn
  cases h3 with
  | ow o q =>
    cases q
    rename_i x C
    rw [List.append_nil] at hA
    subst hA
    have nd := e.nd
    have dis : ∀ c ∈ C, c ∉ A1 ++ A2 := fun c hc z => by
      rw [List.append_assoc] at nd
      obtain ⟨_, h6, h7⟩ := List.nodup_append.mp nd
      rcases List.mem_append.mp z with z | z
      · exact h7 c z c (List.mem_append_left _ hc) rfl
      · exact (List.nodup_append.mp h6).2.2 c hc c z rfl
    have sub : ∀ a ∈ A1 ++ A2, a ∈ A1 ++ C ++ A2 := fun a ha => mem_mid ha
    have nd2 : (A1 ++ A2).Nodup := by
      have : (A1 ++ [] ++ A2).Nodup := nodup_mid nd List.nodup_nil fun _ q => by cases q
      simpa using this
    have kH : Ke Pt He (hide (A1 ++ A2) H) := ⟨fun a o h n t => by
      have : a ∉ A1 ++ A2 := fun z => by rw [e.fr a (sub a z)] at h; cases h
      unfold hide; rw [if_neg this]; exact e.kp.keep a o h n t, fun a h => by
      unfold hide at h
      split at h
      · rename_i ha; exact e.fr a (sub a ha)
      · exact e.kp.dom a h⟩
    have oHe : Own K (hide (A1 ++ A2) H) x d C := o.stay (fun b o' h z _ => by
      have : b ∉ A1 ++ A2 := fun y => by
        have := e.sl.isS b (sub b y)
        rw [h] at this; exact z this
      unfold hide; rw [if_neg this]; exact h) fun b hb o' h => by unfold hide; rw [if_neg (dis b hb)]; exact h
    have dC : ∀ b ∈ C, b ∉ ptA Pt := fun b hb => e.dj b (List.mem_append_left _ (List.mem_append_right _ hb))
    have s1 : Slots K Pt He H σ (ρ.set n .un) (A1 ++ [] ++ A2) := by
      have := h4 (some x) .un [] (.un .nil)
      rwa [set_here h1] at this
    have s2 := s1.he kH
    have hlen : n < ρ.length := (List.getElem?_eq_some_iff.mp hn).1
    obtain ⟨v2, A3, C2, A4, h5, hA2, h6, h7⟩ := s2.split n .un (by rw [List.getElem?_set_self hlen])
    have hC2 : C2 = [] := by
      cases h6 with
      | un q => cases q; rfl
    subst hC2
    have s3 := h7 (some x) (.sh d) [] (.sh oHe dC .nil)
    rw [set_here h1, List.set_set] at s3
    simp only [List.append_nil] at hA2 s3
    rw [← hA2] at s3
    refine ⟨_, _, kH, s3, nd2, fun a ha => if_pos ha, fun a ha => e.dj a (sub a ha), ⟨fun a o' h _ _ => ?_, fun a h => ?_⟩, e.pt⟩
    · unfold hide at h
      split at h
      · cases h
      · exact h
    · unfold hide; split
      · rfl
      · exact h
theorem ds_freeze (n : Nat) (h : PS X st (tS X.K m (ρ.set n (.sh d)) N R)) (hn : ρ[n]? = some (.ow d) := by rfl) : PS X st (tS X.K m ρ N R) := PS.imp h fun D σ H ⟨Pt, He, A, e, k1, k2⟩ => by
  obtain ⟨He', A', k, e'⟩ := e.freeze hn
  exact ⟨Pt, He', A', e', fun He2 σ' H' m' ρ' A2 kp => k1 He2 σ' H' m' ρ' A2 (k.trans kp), fun x H' m' d B kp p o nd f r => k2 x H' m' d B (k.trans kp) p o nd (fun b hb => k.dom b (f b hb)) r⟩
theorem dss_freeze (n : Nat) (h : PSs X rest (tS X.K m (ρ.set n (.sh d)) N R)) (hn : ρ[n]? = some (.ow d) := by rfl) : PSs X rest (tS X.K m ρ N R) := PSs.imp h fun D σ H ⟨Pt, He, A, e, k1, k2⟩ => by
  obtain ⟨He', A', k, e'⟩ := e.freeze hn
  exact ⟨Pt, He', A', e', fun He2 σ' H' m' ρ' A2 kp => k1 He2 σ' H' m' ρ' A2 (k.trans kp), fun x H' m' d B kp p o nd f r => k2 x H' m' d B (k.trans kp) p o nd (fun b hb => k.dom b (f b hb)) r⟩
theorem ds_move (i j : Nat) {x : Str} {pos' : Pos} (hN : X.N.Nodup) (hi : X.N[i]? = some x) (hx : Loc X.env.scope x) (he : PE X e (tVar j)) (hj : ρ[j]? = some (.ow d) := by rfl) (hil : i < ρ.length := by (first | exact Nat.le_of_ble_eq_true rfl | decide | simp)) (hij : i ≠ j := by decide)
    (hs : swapsWith e (some (.Name x pos')) pos.line X.env = pure false := by rfl) (hf : X.fn x = true ∨ X.env.scope.names.lookup x = some .local := by first | exact .inl rfl | exact .inr rfl | assumption) :
    PS X (.Assign [.Name x pos'] e pos) (tS X.K m ρ (fun m1 ρ1 => m1 = m ∧ ρ1 = (ρ.set j .un).set i (.ow d)) R) :=
  PS.imp (ps_set hN hi hx he hs hf) fun D σ H ⟨Pt, He, A, e, k1, _⟩ => by
    obtain ⟨v, A1, C, A2, h1, hA, h3, h4⟩ := e.sl.split j _ hj
    cases h3 with
    | ow o q =>
      cases q
      rename_i y C
      rw [List.append_nil] at hA
      subst hA
      refine ⟨y, h1, ?_⟩
      have nd := e.nd
      have s1 : Slots X.K Pt He H σ (ρ.set j .un) (A1 ++ [] ++ A2) := by
        have := h4 (some y) .un [] (.un .nil)
        rwa [set_here h1] at this
      have hil' : i < (ρ.set j .un).length := by rw [List.length_set]; exact hil
      obtain ⟨v2, B1, C2, B2, h5, hA2, h6, h7⟩ := s1.split i (ρ.set j .un)[i] (by simp [hil])
      have s3 := h7 (some y) (.ow d) C (by have := Slots.ow (K := X.K) (Pt := Pt) (He := He) o Slots.nil; rwa [List.append_nil] at this)
      have hin : ∀ a ∈ B1 ++ C2 ++ B2, a ∈ A1 ++ A2 := fun a ha => by rw [← hA2, List.append_nil] at ha; exact ha
      have sub : ∀ a ∈ A1 ++ A2, a ∈ A1 ++ C ++ A2 := fun a ha => mem_mid ha
      have dis : ∀ c ∈ C, c ∉ A1 ++ A2 := fun c hc z => by
        rw [List.append_assoc] at nd
        obtain ⟨_, h6, h7⟩ := List.nodup_append.mp nd
        rcases List.mem_append.mp z with z | z
        · exact h7 c z c (List.mem_append_left _ hc) rfl
        · exact (List.nodup_append.mp h6).2.2 c hc c z rfl
      have ndB : (B1 ++ C2 ++ B2).Nodup := by
        rw [← hA2]
        exact nodup_mid nd List.nodup_nil fun _ q => by cases q
      have hm2 : ∀ a ∈ B1 ++ C ++ B2, a ∈ A1 ++ C ++ A2 := fun a ha => by
        rcases List.mem_append.mp ha with ha | ha
        · rcases List.mem_append.mp ha with ha | ha
          · exact sub a (hin a (List.mem_append_left _ (List.mem_append_left _ ha)))
          · exact List.mem_append_left _ (List.mem_append_right _ ha)
        · exact sub a (hin a (List.mem_append_right _ ha))
      refine k1 He _ H m _ (B1 ++ C ++ B2) (.refl _) ⟨s3, nodup_mid ndB (List.nodup_append.mp (List.nodup_append.mp nd).1).2.1 fun c hc z => dis c hc (hin c (mem_mid z)), fun a ha => e.fr a (hm2 a ha), fun a ha => e.dj a (hm2 a ha), e.kp, e.pt⟩ ⟨rfl, rfl⟩
end
end DL
end
section
set_option Elab.async false
set_option linter.all false
set_option maxRecDepth 100000
set_option maxHeartbeats 4000000
namespace DL
open PySem PySem.Spec L2
section
variable {X : Cx} {r : Ro} {a b c e o ix elt tg iter : Expr} {es : List Expr} {pos p apos : Pos} {d d1 d2 : PyData} {ds ds1 ds2 : List PyData} {i j : Int}
theorem pf_lenT (h : PE X e (tP X.K r (.tuple ds))) (hg : Gl X "len") (hm : X.mg "len" = none) (hs : starEach [e] X.env = (false, eval e X.env) :: starEach [] X.env := by rfl) (hpl : (backTo pos (starEach [] X.env)).any (·.1) = false := by rfl) :
    PE X (.Call (.Name "len" p) [e] [] pos) (tF X.K r (.int ds.length)) :=
  PE.imp (pe_callB call_len hg hm PySem.boot_len (pa_cons h pa_nil hs) (he := hs) (hpl := hpl)) fun _ H _ ⟨he, k⟩ => ⟨he, fun x H1 B s o => by
    obtain ⟨q, xs, rfl, hq, ol, _⟩ := o.tup_inv
    exact ⟨_, xs.length, rfl, .inr ⟨xs, hq, rfl⟩, by rw [ol.length]; exact k _ H1 [] s (.int _) List.nodup_nil fun _ q => by cases q⟩⟩
theorem pf_lenL (h : PE X e (tP X.K r (.list ds))) (hg : Gl X "len") (hm : X.mg "len" = none) (hs : starEach [e] X.env = (false, eval e X.env) :: starEach [] X.env := by rfl) (hpl : (backTo pos (starEach [] X.env)).any (·.1) = false := by rfl) :
    PE X (.Call (.Name "len" p) [e] [] pos) (tF X.K r (.int ds.length)) :=
  PE.imp (pe_callB call_len hg hm PySem.boot_len (pa_cons h pa_nil hs) (he := hs) (hpl := hpl)) fun _ H _ ⟨he, k⟩ => ⟨he, fun x H1 B s o => by
    obtain ⟨q, xs, C, rfl, hq, ol, _⟩ := o.lst_inv
    exact ⟨_, xs.length, rfl, .inl ⟨xs, .of hq, rfl⟩, by rw [ol.length]; exact k _ H1 [] s (.int _) List.nodup_nil fun _ q => by cases q⟩⟩
theorem pf_sum {ns : List Int} (hc : X.calm = true) (h : PE X e (tP X.K r (.list (ns.map .int)))) (hg : Gl X "sum") (hm : X.mg "sum" = none) (hs : starEach [e] X.env = (false, eval e X.env) :: starEach [] X.env := by rfl) (hpl : (backTo pos (starEach [] X.env)).any (·.1) = false := by rfl) :
    PE X (.Call (.Name "sum" p) [e] [] pos) (tF X.K r (.int ns.sum)) :=
  PE.imp (pe_callB (cr_sum hc) hg hm (by decide +kernel) (pa_cons h pa_nil hs) (he := hs) (hpl := hpl)) fun _ H _ ⟨he, k⟩ => ⟨he, fun x H1 B s o => by
    obtain ⟨q, xs, C, rfl, hq, ol, _⟩ := o.lst_inv
    have := ol.ints_inv
    subst this
    exact ⟨q, ns, rfl, .of hq, k _ H1 [] s (.int _) List.nodup_nil fun _ q => by cases q⟩⟩
theorem pf_all {bs : List Bool} (hc : X.calm = true) (h : PE X e (tP X.K r (.list (bs.map .bool)))) (hg : Gl X "all") (hm : X.mg "all" = none) (hs : starEach [e] X.env = (false, eval e X.env) :: starEach [] X.env := by rfl) (hpl : (backTo pos (starEach [] X.env)).any (·.1) = false := by rfl) :
    PE X (.Call (.Name "all" p) [e] [] pos) (tF X.K r (.bool (bs.all id))) :=
  PE.imp (pe_callB (cr_all hc) hg hm (by decide +kernel) (pa_cons h pa_nil hs) (he := hs) (hpl := hpl)) fun _ H _ ⟨he, k⟩ => ⟨he, fun x H1 B s o => by
    obtain ⟨q, xs, C, rfl, hq, ol, _⟩ := o.lst_inv
    have := ol.bls_inv
    subst this
    exact ⟨q, bs, rfl, .of hq, k _ H1 [] s (.bl _) List.nodup_nil fun _ q => by cases q⟩⟩
theorem pf_any {bs : List Bool} (hc : X.calm = true) (h : PE X e (tP X.K r (.list (bs.map .bool)))) (hg : Gl X "any") (hm : X.mg "any" = none) (hs : starEach [e] X.env = (false, eval e X.env) :: starEach [] X.env := by rfl) (hpl : (backTo pos (starEach [] X.env)).any (·.1) = false := by rfl) :
    PE X (.Call (.Name "any" p) [e] [] pos) (tF X.K r (.bool (bs.any id))) :=
  PE.imp (pe_callB (cr_any hc) hg hm (by decide +kernel) (pa_cons h pa_nil hs) (he := hs) (hpl := hpl)) fun _ H _ ⟨he, k⟩ => ⟨he, fun x H1 B s o => by
    obtain ⟨q, xs, C, rfl, hq, ol, _⟩ := o.lst_inv
    have := ol.bls_inv
    subst this
    exact ⟨q, bs, rfl, .of hq, k _ H1 [] s (.bl _) List.nodup_nil fun _ q => by cases q⟩⟩
theorem pf_tuple (h : PE X e (tF X.K r (.list ds))) (hg : Gl X "tuple") (hm : X.mg "tuple" = none) (hs : starEach [e] X.env = (false, eval e X.env) :: starEach [] X.env := by rfl) :
    PE X (.Call (.Name "tuple" p) [e] [] pos) (tF X.K r (.tuple ds)) :=
  PE.imp (pe_tupleOf hg hm h hs) fun _ H _ ⟨he, k⟩ => ⟨he, fun x H1 B s o n f => by
    obtain ⟨q, xs, C, rfl, hq, ol, hz, rfl⟩ := o.lst_inv
    exact .inl ⟨q, xs, rfl, .of hq, fun t ht => k _ _ C (s.trans (same_new ht)) (.tup (.of upd_same) hz (ol.same (same_new ht))) (List.nodup_cons.mp n).2 fun b hb => f b (List.mem_cons_of_mem _ hb)⟩⟩
theorem pf_tupleI (h : PE X e (tP X.K r (.list ds))) (hi : immAll ds = true) (hg : Gl X "tuple") (hm : X.mg "tuple" = none) (hs : starEach [e] X.env = (false, eval e X.env) :: starEach [] X.env := by rfl) :
    PE X (.Call (.Name "tuple" p) [e] [] pos) (tF X.K r (.tuple ds)) :=
  PE.imp (pe_tupleOf hg hm h hs) fun _ H _ ⟨he, k⟩ => ⟨he, fun x H1 B s o => by
    obtain ⟨q, xs, C, rfl, hq, ol, hz, rfl⟩ := o.lst_inv
    have hC := ol.imm hi
    subst hC
    exact .inl ⟨q, xs, rfl, .of hq, fun t ht => k _ _ [] (s.trans (same_new ht)) (.tup (.of upd_same) hz (ol.same (same_new ht))) List.nodup_nil fun b hb => by cases hb⟩⟩
theorem rgV_own {K : PySem.W.Frag} {H : Hp} (x y : Int) : OwnL K H (rgV x y) ((List.range (y - x).toNat).map fun k => .int (x + (k : Nat))) [] := OwnL.leafs (fun _ => .int _) _
theorem pf_tupRg {p2 pos2 : Pos} (hc : X.calm = true) (h : PE X e (tP X.K r (.int j))) (h0 : 0 ≤ j) (hj : j ≤ 16777216) (hg : Gl X "tuple") (hm : X.mg "tuple" = none) (hg2 : Gl X "range") (hm2 : X.mg "range" = none)
    (hs : starEach [e] X.env = (false, eval e X.env) :: starEach [] X.env := by rfl) (hs2 : starEach [.Call (.Name "range" p2) [e] [] pos] X.env = (false, eval (.Call (.Name "range" p2) [e] [] pos) X.env) :: starEach [] X.env := by rfl) :
    PE X (.Call (.Name "tuple" p) [.Call (.Name "range" p2) [e] [] pos] [] pos2) (tF X.K r (.tuple ((List.range j.toNat).map fun k => .int (k : Nat)))) :=
  PE.imp (pe_tupRg hc hg hm (prg_1 hg2 hm2 h hs) hs2) fun _ H _ ⟨he, k⟩ => ⟨he, fun x H1 B s o => ⟨j, o.int_inv, .of_le (by omega) hj (by omega) h0, fun t ht => by
    have hl : (rgV 0 j).length ≤ sizeLine := by rw [rgV_length, sizeLine_eq]; omega
    have := rgV_own (K := X.K) (H := H1) 0 j
    simp only [Int.sub_zero, Int.zero_add] at this
    exact k _ _ [] (s.trans (same_new ht)) (.tup (.of upd_same) hl (this.same (same_new ht))) List.nodup_nil fun b hb => by cases hb⟩⟩
theorem pf_lstRg {p2 pos2 : Pos} (hc : X.calm = true) (h : PE X e (tP X.K r (.int j))) (h0 : 0 ≤ j) (hj : j ≤ 16777216) (hg : Gl X "list") (hm : X.mg "list" = none) (hg2 : Gl X "range") (hm2 : X.mg "range" = none)
    (hs : starEach [e] X.env = (false, eval e X.env) :: starEach [] X.env := by rfl) (hs2 : starEach [.Call (.Name "range" p2) [e] [] pos] X.env = (false, eval (.Call (.Name "range" p2) [e] [] pos) X.env) :: starEach [] X.env := by rfl) :
    PE X (.Call (.Name "list" p) [.Call (.Name "range" p2) [e] [] pos] [] pos2) (tF X.K r (.list ((List.range j.toNat).map fun k => .int (k : Nat)))) :=
  PE.imp (pe_listRg hc hg hm (prg_1 hg2 hm2 h hs) hs2) fun _ H _ ⟨he, k⟩ => ⟨he, fun x H1 B s o => ⟨j, o.int_inv, .of_le (by omega) hj (by omega) h0, fun t ht => by
    have hl : (rgV 0 j).length ≤ sizeLine := by rw [rgV_length, sizeLine_eq]; omega
    have := rgV_own (K := X.K) (H := H1) 0 j
    simp only [Int.sub_zero, Int.zero_add] at this
    exact k _ _ [t] (s.trans (same_new ht)) (.lst upd_same hl (this.same (same_new ht))) (List.nodup_cons.mpr ⟨List.not_mem_nil, List.nodup_nil⟩) fun b hb => by
      rcases List.mem_cons.mp hb with rfl | hb
      · exact s.free ht
      · cases hb⟩⟩
theorem pf_listI (h : PE X e (tP X.K r d)) (hd : d = .list ds ∨ d = .tuple ds) (hi : immAll ds = true) (hg : Gl X "list") (hm : X.mg "list" = none) (hs : starEach [e] X.env = (false, eval e X.env) :: starEach [] X.env := by rfl) (hpl : (backTo pos (starEach [] X.env)).any (·.1) = false := by rfl) :
    PE X (.Call (.Name "list" p) [e] [] pos) (tF X.K r (.list ds)) :=
  PE.imp (pe_callTy call_list_of hg hm (by decide +kernel) (pa_cons h pa_nil hs) (he := hs) (hpl := hpl)) fun _ H _ ⟨he, k⟩ => ⟨he, fun x H1 B s o => by
    rcases hd with rfl | rfl
    · obtain ⟨q, xs, C, rfl, hq, ol, hz, rfl⟩ := o.lst_inv
      have hC := ol.imm hi
      subst hC
      exact ⟨q, xs, rfl, .inl (.of hq), fun t ht => k _ _ [t] (s.trans (same_new ht)) (.lst upd_same hz (ol.same (same_new ht))) (List.nodup_cons.mpr ⟨List.not_mem_nil, List.nodup_nil⟩) fun b hb => by
        rcases List.mem_cons.mp hb with rfl | hb
        · exact s.free ht
        · cases hb⟩
    · obtain ⟨q, xs, rfl, hq, ol, hz⟩ := o.tup_inv
      have hC := ol.imm hi
      subst hC
      exact ⟨q, xs, rfl, .inr hq, fun t ht => k _ _ [t] (s.trans (same_new ht)) (.lst upd_same hz (ol.same (same_new ht))) (List.nodup_cons.mpr ⟨List.not_mem_nil, List.nodup_nil⟩) fun b hb => by
        rcases List.mem_cons.mp hb with rfl | hb
        · exact s.free ht
        · cases hb⟩⟩
theorem pf_intI (h : PE X e (tP X.K r (.int i))) (hg : Gl X "int") (hm : X.mg "int" = none) (hs : starEach [e] X.env = (false, eval e X.env) :: starEach [] X.env := by rfl) (hpl : (backTo pos (starEach [] X.env)).any (·.1) = false := by rfl) :
    PE X (.Call (.Name "int" p) [e] [] pos) (tF X.K r (.int i)) :=
  PE.imp (pe_callTy call_int1 hg hm (by decide +kernel) (pa_cons h pa_nil hs) (he := hs) (hpl := hpl)) fun _ H _ ⟨he, k⟩ => ⟨he, fun x H1 B s o => by
    cases o
    exact .inl ⟨i, rfl, k _ H1 [] s (.int _) List.nodup_nil fun _ q => by cases q⟩⟩
theorem pf_intB {w : Bool} (h : PE X e (tP X.K r (.bool w))) (hg : Gl X "int") (hm : X.mg "int" = none) (hs : starEach [e] X.env = (false, eval e X.env) :: starEach [] X.env := by rfl) (hpl : (backTo pos (starEach [] X.env)).any (·.1) = false := by rfl) :
    PE X (.Call (.Name "int" p) [e] [] pos) (tF X.K r (.int (if w then 1 else 0))) :=
  PE.imp (pe_callTy call_int1 hg hm (by decide +kernel) (pa_cons h pa_nil hs) (he := hs) (hpl := hpl)) fun _ H _ ⟨he, k⟩ => ⟨he, fun x H1 B s o => by
    cases o
    exact .inr ⟨w, rfl, k _ H1 [] s (.int _) List.nodup_nil fun _ q => by cases q⟩⟩
theorem pf_lc {α : Type} {l : List α} {f g : α → PyData} {r' : α → Ro} {own : List (Str × Nat)} {scope : Scope}
    (hc : X.calm = true) (hN : X.N.Nodup) (hi : PI X tg iter (tI X.K r (l.map f))) (ok : BlkOk X.N X.env.scope scope own)
    (hg : ∀ (s : Shared) (H : Hp) (C : Addr) (cl : List (Str × Addr)) (fp : List Addr), ∀ a ∈ l, PG (X.blk s H scope (compEnvC scope cl C X.env) fp) tg (gD X.K (f a) (wipeR r (own.map (·.2))) (r' a) (own.map (·.2))))
    (he : ∀ (s : Shared) (H : Hp) (C : Addr) (cl : List (Str × Addr)) (fp : List Addr), ∀ a ∈ l, PE (X.blk s H scope (compEnvC scope cl C X.env) fp) elt (tF X.K (r' a) (g a)))
    (hs : ∀ x, foldedSetIterable iter X.env x = pure x := by intro _; rfl) :
    PE X (.ListComp elt [⟨tg, iter, [], 0⟩] scope pos) (tF X.K r (.list (l.map g))) := by
  have := pf_lcIf (q := fun _ => true) (pos := pos) hc hN hi ok hg (fun s H C cl fp a _ => ⟨fun pins s' σ H' Q I ⟨_, k⟩ => pts_nil.run pins s' σ H' Q I (k H' (.refl _))⟩) (fun s H C cl fp a ha _ => he s H C cl fp a ha) hs
  rwa [List.filter_eq_self.mpr fun _ _ => rfl] at this
theorem ps_lc {α : Type} {l : List α} {f g : α → PyData} {r' : α → Ro} {own : List (Str × Nat)} {scope : Scope} {n : Nat} {y : Str} {py spos : Pos}
    (hc : X.calm = true) (hN : X.N.Nodup) (hi : PI X tg iter (tI X.K r (l.map f))) (ok : BlkOk X.N X.env.scope scope own)
    (hg : ∀ (s : Shared) (H : Hp) (C : Addr) (cl : List (Str × Addr)) (fp : List Addr), ∀ a ∈ l, PG (X.blk s H scope (compEnvC scope cl C X.env) fp) tg (gD X.K (f a) (wipeR r (own.map (·.2))) (r' a) (own.map (·.2))))
    (he : ∀ (s : Shared) (H : Hp) (C : Addr) (cl : List (Str × Addr)) (fp : List Addr), ∀ a ∈ l, PE (X.blk s H scope (compEnvC scope cl C X.env) fp) elt (tF X.K (r' a) (g a)))
    (hy : X.N[n]? = some y) (hyl : X.env.scope.names.lookup y = some .local)
    (hsw : swapsWith (.ListComp elt [⟨tg, iter, [], 0⟩] scope pos) (some (.Name y py)) spos.line X.env = pure true) (hs : ∀ x, foldedSetIterable iter X.env x = pure x := by intro _; rfl) :
    PS X (.Assign [.Name y py] (.ListComp elt [⟨tg, iter, [], 0⟩] scope pos) spos) (tAsg (tF X.K r (.list (l.map g))) (gName n)) := by
  have := ps_lcIf (q := fun _ => true) (pos := pos) (py := py) (spos := spos) hc hN hi ok hg (fun s H C cl fp a _ => ⟨fun pins s' σ H' Q I ⟨_, k⟩ => pts_nil.run pins s' σ H' Q I (k H' (.refl _))⟩) (fun s H C cl fp a ha _ => he s H C cl fp a ha) hs hy hyl hsw
  rwa [List.filter_eq_self.mpr fun _ _ => rfl] at this
end
section
variable {P : Program} {w : World} {K : PySem.W.Frag} {mg : Str → Option Value} {base : Heap}
def ent (n : Nat) (ds : List PyData) : Rh := ds.map .sh ++ List.replicate (n - ds.length) .un
theorem slots_ent {He : Hp} : ∀ {vs : List V} {ds : List PyData} {B : List Addr} (k : Nat), OwnL K He vs ds B → Slots K ef0 He He (vs.map some ++ List.replicate k none) (ds.map .sh ++ List.replicate k .un) []
  | _, _, _, k, .nil => by
    induction k with
    | zero => exact .nil
    | succ k ih => exact .un ih
  | _, _, _, k, .cons o l => .sh o (fun _ _ z => by cases z) (slots_ent k l)
theorem fn_pure {x qual : Str} {st : Stmt} {f : Addr} {fd : FuncData} {N ps : List Str} {k : Nat} {S : List PyData → PyData → Prop} (F : Fun K x qual st f fd) (Sc : FnScope N ps (defScope st)) (hl : ∀ ds d, S ds d → ds.length = ps.length)
    (hb : ∀ (cdv : Value) (A : Around) (outer : List PySem.Env) (s : Shared) (H : Hp) (E : XK), Room k (A.deeper (PyProof.Rows.envOfC qual (defScope st) s.heap.objs.size f cdv)) → ∀ ds d, S ds d →
      PSs (cxOf CX0 P w K mg base N qual (defScope st) f cdv A outer s H E).nox (defBody st) (tS K 0 (ent N.length ds) (fun _ _ => d = .none) (fun _ d' => d' = d))) : FnOk P w K mg base CX0 (k + 1) f fd ps (spD K S) := by
  refine F.ok Sc (fun vs H Q E ⟨ds, d, C, h, o, _⟩ => by rw [o.length]; exact hl ds d h) fun cdv A outer s H vs Q E hr ⟨ds, d, C, h, o, q⟩ => ?_
  refine ⟨_, hb cdv A outer s H E hr ds d h, ef0, H, [], ⟨?_, List.nodup_nil, (fun _ z => by cases z), (fun _ z => by cases z), .refl H, ⟨(fun _ _ z => by cases z), (fun _ z => by cases z)⟩⟩, ?_, ?_⟩
  · unfold L2.start ent
    rw [o.length]
    exact slots_ent _ o
  · intro He' σ' H' m' ρ' A' k e' n
    subst n
    exact q .non H' [] ((k.trans e'.kp).same) .non List.nodup_nil fun _ z => by cases z
  · intro x H' m' d' B k p o' n f e
    subst e
    exact q x H' B k.same o' n f
end
end DL
end
section
set_option Elab.async false
set_option linter.all false
set_option maxRecDepth 100000
set_option maxHeartbeats 4000000
namespace DL
open PySem PySem.Spec L2
structure CmpD (X : Cx) (op : CmpOp) (d1 d2 : PyData) (w : Bool) : Prop where
  ex : ∃ r2 : R2, OpR X (compareOp op) r2 ∧ ∀ (H : Hp) (x y : V) (B C : List Addr), Own X.K H x d1 B → Own X.K H y d2 C → ∀ Q : VK, Q (.bl w) H → r2 x y H Q
section
variable {X : Cx} {r : Ro} {a b c e : Expr} {es : List Expr} {pos p : Pos} {d d1 d2 d3 d4 : PyData} {ds ds1 ds2 : List PyData} {i j : Int} {w w' w1 w2 w3 : Bool} {op op1 op2 op3 : CmpOp}
theorem CmpD.cast (h : CmpD X op d1 d2 w) (e : w = w') : CmpD X op d1 d2 w' := e ▸ h
theorem pf_c (h : CmpD X op d1 d2 w) (ha : PE X a (tP X.K r d1)) (hb : PE X b (tP X.K r d2)) (hm : behindInMarks op b = false := by rfl) : PE X (.Compare a [op] [b] pos) (tF X.K r (.bool w)) := by
  obtain ⟨r2, ho, hr⟩ := h.ex
  exact pf_cmp (v := .bl w) ho ha hb hr (.bl w) hm
theorem pt_c (h : CmpD X op d1 d2 w) (ha : PE X a (tP X.K r d1)) (hb : PE X b (tP X.K r d2)) (hm : behindInMarks op b = false := by rfl) : PT X (.Compare a [op] [b] pos) (tT X.K r w) := by
  obtain ⟨r2, ho, hr⟩ := h.ex
  exact pt_cmpD ho ha hb hr hm
theorem pf_chain2 (h : CmpD X op1 d1 d2 w1) (h2 : CmpD X op2 d2 d3 w2) (ha : PE X a (tP X.K r d1)) (hb : PE X b (tP X.K r d2)) (hc : PE X c (tP X.K r d3)) (hm : lastMarks [op1, op2] [b, c] = false := by with_unfolding_all rfl) :
    PE X (.Compare a [op1, op2] [b, c] pos) (tF X.K r (.bool (w1 && w2))) := by
  obtain ⟨r1, ho, hr⟩ := h.ex
  obtain ⟨r2, ho2, hr2⟩ := h2.ex
  exact PE.imp (pe_chain ho ho2 ha hb hc hm) fun _ H _ ⟨he, k⟩ => ⟨he, fun x H1 B s1 o1 => ⟨he.same s1, fun y H2 C s2 o2 => hr H2 x y B C (o1.same s2) o2 _ ⟨w1, rfl, by
    cases w1 with
    | false => exact iteF (k _ H2 [] (s1.trans s2) (.bl false) List.nodup_nil fun _ q => by cases q)
    | true => exact iteT ⟨(he.same s1).same s2, fun z H3 D s3 o3 => hr2 H3 y z C D (o2.same s3) o3 _ (k _ H3 [] ((s1.trans s2).trans s3) (.bl w2) List.nodup_nil fun _ q => by cases q)⟩⟩⟩⟩
theorem pt_chain2 (h : CmpD X op1 d1 d2 w1) (h2 : CmpD X op2 d2 d3 w2) (ha : PE X a (tP X.K r d1)) (hb : PE X b (tP X.K r d2)) (hc : PE X c (tP X.K r d3)) (hm : lastMarks [op1, op2] [b, c] = false := by with_unfolding_all rfl) :
    PT X (.Compare a [op1, op2] [b, c] pos) (tT X.K r (w1 && w2)) := by
  obtain ⟨r1, ho, hr⟩ := h.ex
  obtain ⟨r2, ho2, hr2⟩ := h2.ex
  exact PT.imp (pt_chain ho ho2 ha hb hc hm) fun _ H _ ⟨he, k⟩ => ⟨he, fun x H1 B s1 o1 => ⟨he.same s1, fun y H2 C s2 o2 => hr H2 x y B C (o1.same s2) o2 _ ⟨w1, rfl, by
    cases w1 with
    | false => exact iteF ⟨false, rfl, k H2 (s1.trans s2)⟩
    | true => exact iteT ⟨(he.same s1).same s2, fun z H3 D s3 o3 => hr2 H3 y z C D (o2.same s3) o3 _ ⟨w2, rfl, k H3 ((s1.trans s2).trans s3)⟩⟩⟩⟩⟩
theorem pf_chain3 {e4 : Expr} (h : CmpD X op1 d1 d2 w1) (h2 : CmpD X op2 d2 d3 w2) (h3 : CmpD X op3 d3 d4 w3) (ha : PE X a (tP X.K r d1)) (hb : PE X b (tP X.K r d2)) (hc : PE X c (tP X.K r d3)) (hd : PE X e4 (tP X.K r d4))
    (hm : lastMarks [op1, op2, op3] [b, c, e4] = false := by with_unfolding_all rfl) : PE X (.Compare a [op1, op2, op3] [b, c, e4] pos) (tF X.K r (.bool (w1 && (w2 && w3)))) := by
  obtain ⟨r1, ho1, hr1⟩ := h.ex
  obtain ⟨r2, ho2, hr2⟩ := h2.ex
  obtain ⟨r3, ho3, hr3⟩ := h3.ex
  refine ⟨fun pins s σ H Q I ⟨he, k⟩ => ?_⟩
  have fin : ∀ (u : Bool) (H' : Hp), Same H H' → u = (w1 && (w2 && w3)) → Q (.bl u) H' := fun u H' s e => k _ H' [] s (e ▸ .bl _) List.nodup_nil fun _ q => by cases q
  refine PyProof.Rows.Compare_chain (thn (ha.run pins s σ H (fun x H1 => ∃ B, Same H H1 ∧ Own X.K H1 x d1 B) I ⟨he, fun x H1 B s o => ⟨B, s, o⟩⟩) fun v s1 ⟨x, H1, I1, rx, B, s01, o1⟩ => ?_) hm
  refine PyProof.Rows.chain_link (thn (hb.run pins s1 σ H1 (fun y H2 => ∃ C, Same H1 H2 ∧ Own X.K H2 y d2 C) I1 ⟨he.same s01, fun x H1 B s o => ⟨B, s, o⟩⟩) fun u s2 ⟨y, H2, I2, ry, C, s12, o2⟩ => ?_)
  refine thn (ho1 pins s2 σ H2 x y v u (fun z H' => z = .bl w1 ∧ H' = H2) I2 rx ry (hr1 H2 x y B C (o1.same s12) o2 _ ⟨rfl, rfl⟩)) fun z s3 ⟨zv, H3, I3, rz, e1, e2⟩ => ?_
  subst e2; subst e1
  cases rz
  refine wpAny_truthy_bool ?_
  cases w1 with
  | false => exact PyProof.Rows.ite_ff ⟨.bl false, H3, I3, rfl, fin false H3 (s01.trans s12) rfl⟩
  | true =>
    refine PyProof.Rows.ite_tt (PyProof.Rows.chain_link (thn (hc.run pins s3 σ H3 (fun z H4 => ∃ D, Same H3 H4 ∧ Own X.K H4 z d3 D) I3 ⟨(he.same s01).same s12, fun x H1 B s o => ⟨B, s, o⟩⟩) fun u3 s4 ⟨z, H4, I4, rz, D, s34, o3⟩ => ?_))
    refine thn (ho2 pins s4 σ H4 y z u u3 (fun z H' => z = .bl w2 ∧ H' = H4) I4 ry rz (hr2 H4 y z C D (o2.same s34) o3 _ ⟨rfl, rfl⟩)) fun z' s5 ⟨zv, H5, I5, rz', e1, e2⟩ => ?_
    subst e2; subst e1
    cases rz'
    refine wpAny_truthy_bool ?_
    cases w2 with
    | false => exact PyProof.Rows.ite_ff ⟨.bl false, H5, I5, rfl, fin false H5 ((s01.trans s12).trans s34) rfl⟩
    | true =>
      refine PyProof.Rows.ite_tt (PyProof.Rows.chain_last (thn (hd.run pins s5 σ H5 (fun z H6 => ∃ E, Same H5 H6 ∧ Own X.K H6 z d4 E) I5 ⟨((he.same s01).same s12).same s34, fun x H1 B s o => ⟨B, s, o⟩⟩) fun u5 s6 ⟨z6, H6, I6, rz6, E, s56, o4⟩ => ?_))
      exact ho3 pins s6 σ H6 z z6 u3 u5 Q I6 rz rz6 (hr3 H6 z z6 D E (o3.same s56) o4 _ (fin w3 H6 (((s01.trans s12).trans s34).trans s56) rfl))
theorem c_lt : CmpD X .Lt (.int i) (.int j) (decide (i < j)) := ⟨_, op_lt, fun _ _ _ _ _ o1 o2 _ q => by cases o1; cases o2; exact ⟨_, _, rfl, rfl, q⟩⟩
theorem c_le : CmpD X .LtE (.int i) (.int j) (decide (i ≤ j)) := ⟨_, op_le, fun _ _ _ _ _ o1 o2 _ q => by cases o1; cases o2; exact ⟨_, _, rfl, rfl, q⟩⟩
theorem c_gt : CmpD X .Gt (.int i) (.int j) (decide (j < i)) := ⟨_, op_gt, fun _ _ _ _ _ o1 o2 _ q => by cases o1; cases o2; exact ⟨_, _, rfl, rfl, q⟩⟩
theorem c_ge : CmpD X .GtE (.int i) (.int j) (decide (j ≤ i)) := ⟨_, op_ge, fun _ _ _ _ _ o1 o2 _ q => by cases o1; cases o2; exact ⟨_, _, rfl, rfl, q⟩⟩
theorem c_eqI : CmpD X .Eq (.int i) (.int j) (decide (i = j)) := ⟨_, op_eq, fun _ _ _ _ _ o1 o2 _ q => by
  cases o1; cases o2
  refine ⟨rfl, ?_⟩
  rw [show decide (V.int i = V.int j) = decide (i = j) by rw [dec_int]; exact Bool.beq_eq_decide_eq i j]
  exact q⟩
theorem c_neI : CmpD X .NotEq (.int i) (.int j) (!decide (i = j)) := ⟨_, op_ne, fun _ _ _ _ _ o1 o2 _ q => by
  cases o1; cases o2
  refine ⟨rfl, ?_⟩
  rw [show decide (V.int i = V.int j) = decide (i = j) by rw [dec_int]; exact Bool.beq_eq_decide_eq i j]
  exact q⟩
theorem c_eqS {x y : Str} : CmpD X .Eq (.str x) (.str y) (decide (x = y)) := ⟨_, op_eq, fun _ _ _ _ _ o1 o2 _ q => by
  cases o1; cases o2
  refine ⟨rfl, ?_⟩
  rw [show decide (V.str x = V.str y) = decide (x = y) by simp only [V.str.injEq]]
  exact q⟩
theorem c_neS {x y : Str} : CmpD X .NotEq (.str x) (.str y) (!decide (x = y)) := ⟨_, op_ne, fun _ _ _ _ _ o1 o2 _ q => by
  cases o1; cases o2
  refine ⟨rfl, ?_⟩
  rw [show decide (V.str x = V.str y) = decide (x = y) by simp only [V.str.injEq]]
  exact q⟩
def isNon : PyData → Bool
  | .none => true
  | _ => false
theorem Own.non_iff {K : PySem.W.Frag} {H : Hp} {x : V} {B : List Addr} (o : Own K H x d B) : decide (x = .non) = isNon d := by
  cases o <;> rfl
theorem c_isN : CmpD X .Is d .none (isNon d) := ⟨_, op_isN, fun _ _ _ _ _ o1 o2 _ q => ⟨o2.non_inv, by rw [o1.non_iff]; exact q⟩⟩
theorem c_notN : CmpD X .IsNot d .none (!isNon d) := ⟨_, op_notN, fun _ _ _ _ _ o1 o2 _ q => ⟨o2.non_inv, by rw [o1.non_iff]; exact q⟩⟩
theorem any_ints (k : Int) : ∀ ns : List Int, (ns.map V.int).any (fun y => eqV y (.int k)) = decide (k ∈ ns)
  | [] => rfl
  | n :: ns => by
    rw [List.map_cons, List.any_cons, any_ints k ns]
    show ((n == k) || _) = _
    by_cases h : n = k
    · subst h; simp
    · have h' : ¬ k = n := fun z => h z.symm
      simp [h, h']
theorem flat_ints (ns : List Int) : (ns.map V.int).all flatV = true := List.all_eq_true.mpr fun x hx => by
  obtain ⟨n, _, rfl⟩ := List.mem_map.mp hx
  rfl
theorem c_inI {ns : List Int} : CmpD X .In (.int i) (.tuple (ns.map .int)) (decide (i ∈ ns)) := ⟨_, op_in_seq, fun _ _ _ _ _ o1 o2 _ q => by
  cases o1
  obtain ⟨p, xs, rfl, hq, ol, _⟩ := o2.tup_inv
  have := ol.ints_inv
  subst this
  refine ⟨p, _, rfl, .inr hq, rfl, flat_ints ns, ?_⟩
  rw [if_neg Bool.false_ne_true]
  unfold inV
  rw [any_ints]; exact q⟩
theorem c_notInI {ns : List Int} : CmpD X .NotIn (.int i) (.tuple (ns.map .int)) (!decide (i ∈ ns)) := ⟨_, op_notIn_seq, fun _ _ _ _ _ o1 o2 _ q => by
  cases o1
  obtain ⟨p, xs, rfl, hq, ol, _⟩ := o2.tup_inv
  have := ol.ints_inv
  subst this
  refine ⟨p, _, rfl, .inr hq, rfl, flat_ints ns, ?_⟩
  rw [if_pos rfl]
  unfold inV
  rw [any_ints]; exact q⟩
mutual
theorem Own.dp {K : PySem.W.Frag} {H : Hp} : ∀ {x : V} {d : PyData} {B : List Addr}, Own K H x d B → d.canLay0 = true → Dp K H x d
  | _, _, _, .non, _ => .non
  | _, _, _, .bl b, _ => .bl b
  | _, _, _, .int i, _ => .int i
  | _, _, _, .str x, _ => .str x
  | _, _, _, .tup h _ l, n => .tup h (OwnL.dp l (by simpa only [PyData.canLay0] using n))
  | _, _, _, .lst h _ l, n => .lst (.of h) (OwnL.dp l (by simpa only [PyData.canLay0] using n))
  | _, _, _, .dK _ _, n => by simp [PyData.canLay0] at n
  | _, _, _, .dT _ _, n => by simp [PyData.canLay0] at n
  | _, _, _, .lk _, n => by simp [PyData.canLay0] at n
  | _, _, _, .lt _, n => by simp [PyData.canLay0] at n
  | _, _, _, .nd _ _ _ _, n => by simp [PyData.canLay0] at n
theorem OwnL.dp {K : PySem.W.Frag} {H : Hp} : ∀ {xs : List V} {ds : List PyData} {B : List Addr}, OwnL K H xs ds B → PyData.canLayAll0 ds = true → DpAll K H xs ds
  | _, _, _, .nil, _ => .nil
  | _, _, _, .cons e l, n => by
    simp only [PyData.canLayAll0, Bool.and_eq_true] at n
    exact .cons (Own.dp e n.1) (OwnL.dp l n.2)
end
mutual
def nm : PyData → PyData
  | .none => .none
  | .bool b => .bool b
  | .int i => .int i
  | .str x => .str x
  | .list l => .list (nmAll l)
  | .tuple l => .tuple (nmAll l)
  | .dict [(.none, d)] => d
  | .dict l => .dict l
def nmAll : List PyData → List PyData
  | [] => []
  | d :: l => nm d :: nmAll l
end
theorem dpInts {K : PySem.W.Frag} {H : Hp} : ∀ ns : List Int, DpAll K H (ns.map V.int) (ns.map PyData.int)
  | [] => .nil
  | n :: ns => .cons (.int n) (dpInts ns)
mutual
theorem Own.dpN {K : PySem.W.Frag} {H : Hp} : ∀ {x : V} {d : PyData} {B : List Addr}, Own K H x d B → (nm d).canLay0 = true → Dp K H x (nm d)
  | _, _, _, .non, _ => by rw [nm]; exact .non
  | _, _, _, .bl b, _ => by rw [nm]; exact .bl b
  | _, _, _, .int i, _ => by rw [nm]; exact .int i
  | _, _, _, .str x, _ => by rw [nm]; exact .str x
  | _, _, _, .tup h _ l, n => by rw [nm] at n ⊢; exact .tup h (OwnL.dpN l (by simpa only [PyData.canLay0] using n))
  | _, _, _, .lst h _ l, n => by rw [nm] at n ⊢; exact .lst (.of h) (OwnL.dpN l (by simpa only [PyData.canLay0] using n))
  | _, _, _, .dK (kvs := kvs) (ds := ds) _ _, n => by
    cases kvs with
    | nil => simp [nm, PyData.canLay0] at n
    | cons p kvs =>
      cases ds with
      | nil => simp [nm, PyData.canLay0] at n
      | cons d ds => rcases p with ⟨k | k, v⟩ <;> simp [nm, PyData.canLay0, kD] at n
  | _, _, _, .dT _ _, n => by simp [nm, PyData.canLay0] at n
  | _, _, _, .lk _, n => by simp [nm, PyData.canLay0] at n
  | _, _, _, .lt _, n => by simp [nm, PyData.canLay0] at n
  | _, _, _, .nd h _ _ _, _ => by rw [nm]; exact .tup (.inl (.inr ⟨_, h⟩)) (dpInts _)
theorem OwnL.dpN {K : PySem.W.Frag} {H : Hp} : ∀ {xs : List V} {ds : List PyData} {B : List Addr}, OwnL K H xs ds B → PyData.canLayAll0 (nmAll ds) = true → DpAll K H xs (nmAll ds)
  | _, _, _, .nil, _ => by rw [nmAll]; exact .nil
  | _, _, _, .cons e l, n => by
    rw [nmAll] at n ⊢
    simp only [PyData.canLayAll0, Bool.and_eq_true] at n
    exact .cons (Own.dpN e n.1) (OwnL.dpN l n.2)
end
theorem shaped_can (h : SeqAt.shaped d = true) : d.canLay0 = true := SeqAt.canLay_of_shaped h
theorem c_eqD (hu : X.A.units + 64 < cLine) (h1 : SeqAt.shaped d1 = true) (h2 : SeqAt.shaped d2 = true) : CmpD X .Eq d1 d2 (PyData.eqv d1 d2) :=
  ⟨_, op_eqD hu, fun _ _ _ _ _ o1 o2 _ q => ⟨d1, d2, o1.dp (shaped_can h1), o2.dp (shaped_can h2), h1, h2, q⟩⟩
theorem c_neD (hu : X.A.units + 64 < cLine) (h1 : SeqAt.shaped d1 = true) (h2 : SeqAt.shaped d2 = true) : CmpD X .NotEq d1 d2 (!PyData.eqv d1 d2) :=
  ⟨_, op_neD hu, fun _ _ _ _ _ o1 o2 _ q => ⟨d1, d2, o1.dp (shaped_can h1), o2.dp (shaped_can h2), h1, h2, q⟩⟩
theorem c_eqN (hu : X.A.units + 64 < cLine) (h1 : SeqAt.shaped (nm d1) = true) (h2 : SeqAt.shaped (nm d2) = true) : CmpD X .Eq d1 d2 (PyData.eqv (nm d1) (nm d2)) :=
  ⟨_, op_eqD hu, fun _ _ _ _ _ o1 o2 _ q => ⟨nm d1, nm d2, o1.dpN (shaped_can h1), o2.dpN (shaped_can h2), h1, h2, q⟩⟩
theorem c_neN (hu : X.A.units + 64 < cLine) (h1 : SeqAt.shaped (nm d1) = true) (h2 : SeqAt.shaped (nm d2) = true) : CmpD X .NotEq d1 d2 (!PyData.eqv (nm d1) (nm d2)) :=
  ⟨_, op_neD hu, fun _ _ _ _ _ o1 o2 _ q => ⟨nm d1, nm d2, o1.dpN (shaped_can h1), o2.dpN (shaped_can h2), h1, h2, q⟩⟩
mutual
theorem eqv_refl : ∀ d : PyData, d.canLay0 = true → PyData.eqv d d = true
  | .none, _ => by simp [PyData.eqv]
  | .bool b, _ => by simp [PyData.eqv]
  | .int i, _ => by simp [PyData.eqv]
  | .str x, _ => by simp [PyData.eqv]
  | .list l, h => by rw [PyData.eqv]; exact eqvAll_refl l (by simpa only [PyData.canLay0] using h)
  | .tuple l, h => by rw [PyData.eqv]; exact eqvAll_refl l (by simpa only [PyData.canLay0] using h)
  | .dict l, h => by simp [PyData.canLay0] at h
theorem eqvAll_refl : ∀ l : List PyData, PyData.canLayAll0 l = true → PyData.eqvAll l l = true
  | [], _ => by simp [PyData.eqvAll]
  | d :: l, h => by
    simp only [PyData.canLayAll0, Bool.and_eq_true] at h
    simp [PyData.eqvAll, eqv_refl d h.1, eqvAll_refl l h.2]
end
def tyD : PyData → String
  | .none => "NoneType"
  | .bool _ => "bool"
  | .int _ => "int"
  | .str _ => "str"
  | .list _ => "list"
  | .tuple _ => "tuple"
  | .dict l => if isNt l then "tuple" else "dict"
def isLt : PyData → Bool
  | .dict ((.list _, _) :: _) => true
  | _ => false
theorem Own.ty {K : PySem.W.Frag} {H : Hp} {x : V} {B : List Addr} (o : Own K H x d B) (hl : isLt d = false) : TyX K H x (.type (tyD d)) := by
  cases o with
  | non => exact .base .non
  | bl b => exact .base (.bl b)
  | int i => exact .base (.int i)
  | str x => exact .base (.str x)
  | tup h _ _ =>
    rcases h with (h | ⟨o, h⟩) | ⟨o, _, _, h, hc, _⟩
    · exact .base (.tup h)
    · exact .fTuple h
    · exact .kTuple h hc
  | lst h _ _ => exact .base (.lst h)
  | @dK a kvs ds B h _ =>
    have e : tyD (.dict ((kvs.map fun p => kD p.1).zip ds)) = "dict" := by
      cases kvs with
      | nil => rfl
      | cons p kvs =>
        cases ds with
        | nil => rfl
        | cons d ds => rcases p with ⟨k | k, v⟩ <;> rfl
    rw [e]; exact .base (.dK h)
  | @dT a kvs ds B h _ =>
    have e : tyD (.dict ((.bool true, .none) :: (kvs.map fun p => tD p.1).zip ds)) = "dict" := rfl
    rw [e]; exact .base (.dT h)
  | lk h => exact .fDict h
  | lt h => cases hl
  | nd h _ _ _ => exact .fTuple h
theorem pf_isi {T : String} {x2 : Str} {p1 p2 : Pos} (h : PE X e (tP X.K r d)) (hk : kitB (tyD d) T = some w) (hg : Gl X "isinstance") (hm : X.mg "isinstance" = none) (hT : PE X (.Name x2 p1) (tC (.ty T)))
    (hs : starEach [e, .Name x2 p1] X.env = (false, eval e X.env) :: starEach [.Name x2 p1] X.env := by rfl) (hs2 : starEach [.Name x2 p1] X.env = (false, eval (.Name x2 p1) X.env) :: starEach [] X.env := by rfl) (hpl : (backTo pos (starEach [.Name x2 p1] X.env)).any (·.1) = false := by rfl) (hl : isLt d = false := by rfl) :
    PE X (.Call (.Name "isinstance" p2) [e, .Name x2 p1] [] pos) (tF X.K r (.bool w)) :=
  PE.imp (pe_callB call_isi hg hm (by decide +kernel) (pa_cons h (pa_cons hT pa_nil hs2) hs) (he := hs) (hpl := hpl)) fun _ H _ ⟨he, k⟩ => ⟨he, fun x H1 B s o =>
    ⟨x, .ty T, .type (tyD d), .type T, w, rfl, by first | exact rfl | exact trivial | exact ⟨_, rfl⟩ | constructor, o.ty hl, kit_ty hk, k _ H1 [] s (.bl w) List.nodup_nil fun _ q => by cases q⟩⟩
theorem pf_glob {v : V} {x : Str} {u : Value} (hg : Gl X x) (hm : X.mg x = some u) (rv : RelV v u) (l : Leaf v d) (hd : (x == ("__debug__" : Str)) = false := by decide) : PE X (.Name x pos) (tF X.K r d) := pf_leaf (pe_glob hg hm rv hd) l
end
end DL
end
section
set_option Elab.async false
set_option linter.all false
set_option maxRecDepth 100000
set_option maxHeartbeats 4000000
namespace DL
open PySem PySem.Spec L2
def at0 {α : Type} [Inhabited α] (l : List α) (i : Int) : α := l.getD i.toNat default
def lst0 {α : Type} [Inhabited α] (l : List α) : α := l.getD (l.length - 1) default
theorem at0_nat {α : Type} [Inhabited α] (l : List α) (n : Nat) : at0 l (n : Int) = l.getD n default := rfl
theorem atI_map {α : Type} [Inhabited α] {l : List α} {f : α → PyData} {i : Int} (h : 0 ≤ i ∧ i < l.length) : atI (l.map f) i = some (f (at0 l i)) := by
  obtain ⟨n, rfl⟩ : ∃ n : Nat, i = n := ⟨i.toNat, by omega⟩
  have hn : n < l.length := by omega
  refine atI_nat ?_
  rw [List.getElem?_map, List.getElem?_eq_getElem hn]
  simp [at0, hn]
theorem atI_mapLast {α : Type} [Inhabited α] {l : List α} {f : α → PyData} (h : 0 < l.length) : atI (l.map f) (-1) = some (f (lst0 l)) := by
  have hl : (l.map f).length = l.length := List.length_map _
  unfold atI ixN
  rw [if_neg (by decide), hl, if_pos (by omega)]
  have e : (-1 + (l.length : Int)).toNat = l.length - 1 := by omega
  rw [e]
  show (l.map f)[l.length - 1]? = _
  have hn : l.length - 1 < l.length := by omega
  rw [List.getElem?_map, List.getElem?_eq_getElem hn]
  simp [lst0, hn]
theorem ixN_ok {n : Nat} {i : Int} (h : 0 ≤ i ∧ i < n) : ixN n i = some i.toNat := by unfold ixN; rw [if_pos h.1, if_pos h.2]
theorem immT {l : List PyData} (h : immAll l = true) : imm (.tuple l) = true := by rw [imm]; exact h
theorem immAll_map {α : Type} {l : List α} {f : α → PyData} (h : ∀ a, imm (f a) = true) : immAll (l.map f) = true := immAll_iff.mpr fun d hd => by
  obtain ⟨a, _, rfl⟩ := List.mem_map.mp hd
  exact h a
theorem immAll_cons {d : PyData} {l : List PyData} (h : imm d = true) (h2 : immAll l = true) : immAll (d :: l) = true := by rw [immAll, h, h2]; rfl
theorem immAll_append {l m : List PyData} (h : immAll l = true) (h2 : immAll m = true) : immAll (l ++ m) = true := immAll_iff.mpr fun d hd => by
  rcases List.mem_append.mp hd with hd | hd
  · exact immAll_iff.mp h d hd
  · exact immAll_iff.mp h2 d hd
theorem immAll_rep {l : List PyData} {n : Nat} (h : immAll l = true) : immAll (List.replicate n l).flatten = true := immAll_iff.mpr fun d hd => by
  obtain ⟨m, hm, hd⟩ := List.mem_flatten.mp hd
  rw [(List.mem_replicate.mp hm).2] at hd
  exact immAll_iff.mp h d hd
theorem immAll_mem {l : List PyData} (h : immAll l = true) : ∀ d ∈ l, imm d = true := immAll_iff.mp h
section
variable {X : Cx} {r : Ro} {a b c e o ix elt tg iter : Expr} {es : List Expr} {pos p apos cpos : Pos} {d d0 d1 d2 : PyData} {ds ds1 ds2 : List PyData} {i j : Int} {w : Bool}
variable {α : Type} [Inhabited α] {l l1 l2 : List α} {f : α → PyData}
theorem pp_ixM (ha : PE X a (tP X.K r (.tuple (l.map f)))) (hb : PE X b (tP X.K r (.int i))) (h : 0 ≤ i ∧ i < l.length) (hs : PlainIx b := by exact fun _ _ => rfl) : PE X (.Subscript a b pos) (tP X.K r (f (at0 l i))) := pp_ixT ha hb (atI_map h) hs
theorem pp_ixLM (ha : PE X a (tP X.K r (.list (l.map f)))) (hb : PE X b (tP X.K r (.int i))) (h : 0 ≤ i ∧ i < l.length) (hs : PlainIx b := by exact fun _ _ => rfl) : PE X (.Subscript a b pos) (tP X.K r (f (at0 l i))) := pp_ixL ha hb (atI_map h) hs
theorem pe_m1 {k1 : Nat} {q1 q2 : Pos} : PE X (.UnaryOp .USub (.Constant (.int 1) k1 q1) q2) (tP X.K r (.int (-1))) := toP (pf_neg (toP pf_int))
theorem pp_lastT {k1 : Nat} {q1 q2 : Pos} (ha : PE X a (tP X.K r (.tuple (l.map f)))) (h : 0 < l.length) (hs : PlainIx (.UnaryOp .USub (.Constant (.int 1) k1 q1) q2) := by exact fun _ _ => rfl) : PE X (.Subscript a (.UnaryOp .USub (.Constant (.int 1) k1 q1) q2) pos) (tP X.K r (f (lst0 l))) := pp_ixT ha pe_m1 (atI_mapLast h) hs
theorem pp_lastL {k1 : Nat} {q1 q2 : Pos} (ha : PE X a (tP X.K r (.list (l.map f)))) (h : 0 < l.length) (hs : PlainIx (.UnaryOp .USub (.Constant (.int 1) k1 q1) q2) := by exact fun _ _ => rfl) : PE X (.Subscript a (.UnaryOp .USub (.Constant (.int 1) k1 q1) q2) pos) (tP X.K r (f (lst0 l))) := pp_ixL ha pe_m1 (atI_mapLast h) hs
section
omit [Inhabited α]
theorem pp_fix0 {k1 : Nat} {q : Pos} {x0 : PyData} {xs : List PyData} (ha : PE X a (tP X.K r (.tuple (x0 :: xs)))) : PE X (.Subscript a (.Constant (.int 0) k1 q) pos) (tP X.K r x0) := pp_ixT ha (toP pf_int) (atI_nat (j := 0) rfl) fun _ _ => rfl
theorem pp_fix1 {k1 : Nat} {q : Pos} {x0 x1 : PyData} {xs : List PyData} (ha : PE X a (tP X.K r (.tuple (x0 :: x1 :: xs)))) : PE X (.Subscript a (.Constant (.int 1) k1 q) pos) (tP X.K r x1) := pp_ixT ha (toP pf_int) (atI_nat (j := 1) rfl) fun _ _ => rfl
theorem pp_fix2 {k1 : Nat} {q : Pos} {x0 x1 x2 : PyData} {xs : List PyData} (ha : PE X a (tP X.K r (.tuple (x0 :: x1 :: x2 :: xs)))) : PE X (.Subscript a (.Constant (.int 2) k1 q) pos) (tP X.K r x2) := pp_ixT ha (toP pf_int) (atI_nat (j := 2) rfl) fun _ _ => rfl
theorem pp_fix3 {k1 : Nat} {q : Pos} {x0 x1 x2 x3 : PyData} {xs : List PyData} (ha : PE X a (tP X.K r (.tuple (x0 :: x1 :: x2 :: x3 :: xs)))) : PE X (.Subscript a (.Constant (.int 3) k1 q) pos) (tP X.K r x3) := pp_ixT ha (toP pf_int) (atI_nat (j := 3) rfl) fun _ _ => rfl
theorem pp_ifI {w : Bool} (hc : PT X c (tT X.K r w)) (ha : w = true → PE X a (tP X.K r (.int i))) (hb : w = false → PE X b (tP X.K r (.int j))) : PE X (.IfExp c a b pos) (tP X.K r (.int (if w = true then i else j))) := by
  have := pp_if (pos := pos) hc ha hb
  cases w <;> exact this
theorem pp_ifT {w : Bool} {f : α → PyData} {l1 l2 : List α} (hc : PT X c (tT X.K r w)) (ha : w = true → PE X a (tP X.K r (.tuple (l1.map f)))) (hb : w = false → PE X b (tP X.K r (.tuple (l2.map f)))) : PE X (.IfExp c a b pos) (tP X.K r (.tuple ((if w = true then l1 else l2).map f))) := by
  have := pp_if (pos := pos) hc ha hb
  cases w <;> exact this
theorem ds_par {m : Nat} {ρ : Rh} {R : Nat → PyData → Prop} (i j : Nat) {x y : Str} {px py pt : Pos} {kt k2 pt2} (hc : X.calm = true) (hN : X.N.Nodup) (hi : X.N[i]? = some x) (hj : X.N[j]? = some y) (hij : i ≠ j)
    (hx : X.env.scope.names.lookup x = some .local) (hy : X.env.scope.names.lookup y = some .local) (ha : PA X [a, b] (tFs X.K (ρ.map pu) [d1, d2]))
    (hil : i < ρ.length := by (first | exact Nat.le_of_ble_eq_true rfl | decide | simp)) (hjl : j < ρ.length := by (first | exact Nat.le_of_ble_eq_true rfl | decide | simp))
    (hw : swappedStores [.Tuple [.Name x px, .Name y py] kt pt] (.Tuple [a, b] k2 pt2) X.env = pure (some [x, y]) := by rfl)
    (hs : swapsWithSole [.Tuple [.Name x px, .Name y py] kt pt] (.Tuple [a, b] k2 pt2) pos.line X.env = pure false := by rfl) :
    PS X (.Assign [.Tuple [.Name x px, .Name y py] kt pt] (.Tuple [a, b] k2 pt2) pos) (tS X.K m ρ (fun m1 ρ1 => m1 = m ∧ ρ1 = (ρ.set i (.ow d1)).set j (.ow d2)) R) :=
  PS.imp (ps_par hc hN hi hj hij hx hy ha hw hs) fun D σ H ⟨Pt, He, A, e, k1, _⟩ => ⟨e.envP, fun xs H' B s ol nd f => by
    cases ol with
    | cons o1 ol =>
      cases ol with
      | cons o2 ol =>
        cases ol
        rename_i x1 B1 x2 C1
        rw [List.append_nil] at nd f
        obtain ⟨n1, n2, n3⟩ := List.nodup_append.mp nd
        obtain ⟨A1, e1⟩ := e.set s hil o1 n1 fun b hb => f b (List.mem_append_left _ hb)
        refine ⟨x1, x2, rfl, ?_⟩
        have hjl' : j < (ρ.set i (.ow d1)).length := by rw [List.length_set]; exact hjl
        obtain ⟨v, A2, C, A3, h1, hA, h3, h4⟩ := (e.same s).sl.split i ρ[i] (by simp [hil])
        have s1 := h4 (some x1) (.ow d1) B1 (by have := Slots.ow (K := X.K) (Pt := Pt) (He := He) o1 Slots.nil; rwa [List.append_nil] at this)
        obtain ⟨v', A4, C', A5, h1', hA', h3', h4'⟩ := s1.split j (ρ.set i (.ow d1))[j] (by simp [hjl])
        have s2 := h4' (some x2) (.ow d2) C1 (by have := Slots.ow (K := X.K) (Pt := Pt) (He := He) o2 Slots.nil; rwa [List.append_nil] at this)
        have fr2 : ∀ a ∈ A2 ++ A3, H a ≠ none := fun a ha => mut_some (e.sl.isS a (by rw [hA]; exact mem_mid ha))
        have m1 : ∀ a ∈ A2 ++ B1 ++ A3, a ∈ B1 ∨ a ∈ A2 ++ C ++ A3 := fun a ha => by
          rcases List.mem_append.mp ha with ha | ha
          · rcases List.mem_append.mp ha with ha | ha
            · exact .inr (mem_mid (List.mem_append_left _ ha))
            · exact .inl ha
          · exact .inr (mem_mid (List.mem_append_right _ ha))
        have m2 : ∀ a ∈ A4 ++ C1 ++ A5, a ∈ C1 ∨ a ∈ A2 ++ B1 ++ A3 := fun a ha => by
          rcases List.mem_append.mp ha with ha | ha
          · rcases List.mem_append.mp ha with ha | ha
            · exact .inr (by rw [hA']; exact mem_mid (List.mem_append_left _ ha))
            · exact .inl ha
          · exact .inr (by rw [hA']; exact mem_mid (List.mem_append_right _ ha))
        have eA := e.nd
        rw [hA] at eA
        have nd1 : (A2 ++ B1 ++ A3).Nodup := nodup_mid eA n1 fun b hb z => fr2 b z (f b (List.mem_append_left _ hb))
        have nd2 : (A4 ++ C1 ++ A5).Nodup := by
          rw [hA'] at nd1
          refine nodup_mid nd1 n2 fun b hb z => ?_
          have hb2 : b ∈ A2 ++ B1 ++ A3 := by rw [hA']; exact mem_mid z
          rcases m1 b hb2 with q | q
          · exact n3 b q b hb rfl
          · exact mut_some (e.sl.isS b (by rw [hA]; exact q)) (f b (List.mem_append_right _ hb))
        have all : ∀ a ∈ A4 ++ C1 ++ A5, (a ∈ B1 ++ C1) ∨ a ∈ A := fun a ha => by
          rcases m2 a ha with q | q
          · exact .inl (List.mem_append_right _ q)
          · rcases m1 a q with q | q
            · exact .inl (List.mem_append_left _ q)
            · exact .inr (by rw [hA]; exact q)
        refine k1 He _ H' m _ (A4 ++ C1 ++ A5) (.refl _) ⟨s2, nd2, fun a ha => ?_, fun a ha z => ?_, (e.same s).kp, (e.same s).pt⟩ ⟨rfl, rfl⟩
        · rcases all a ha with q | q
          · exact e.kp.dom a (f a q)
          · exact e.fr a q
        · rcases all a ha with q | q
          · exact e.pt.some a z (f a q)
          · exact e.dj a q z⟩
theorem dss_ifR {m : Nat} {ρ : Rh} {N : Nat → Rh → Prop} {R : Nat → PyData → Prop} {w : Bool} {body rest : List Stmt} (hc : PT X c (tT X.K (ρ.map pu) w)) (h1 : w = true → PSs X body (tS X.K m ρ (fun _ _ => False) R)) (h2 : w = false → PSs X rest (tS X.K m ρ N R)) :
    PSs X (.If c body [] pos :: rest) (tS X.K m ρ N R) :=
  dss_seq (N1 := fun m1 ρ1 => (m1 = m ∧ ρ1 = ρ) ∧ w = false) (ds_if hc (fun hw => pss_mono (h1 hw) (fun _ _ z => z.elim) fun _ _ z => z) (fun hw => dss_nil (Le.refl ρ) ⟨⟨rfl, rfl⟩, hw⟩)) (by
    rintro _ _ ⟨⟨rfl, rfl⟩, hw⟩
    exact h2 hw)
theorem ds_setLc {m : Nat} {ρ : Rh} {R : Nat → PyData → Prop} (n : Nat) {y : Str} {py spos : Pos} {ifs : List Expr} {scope : Scope} (hN : X.N.Nodup) (hi : X.N[n]? = some y) (hyl : X.env.scope.names.lookup y = some .local)
    (h : PS X (.Assign [.Name y py] (.ListComp elt [⟨tg, iter, ifs, 0⟩] scope pos) spos) (tAsg (tF X.K (ρ.map pu) d) (gName n))) (hil : n < ρ.length := by (first | exact Nat.le_of_ble_eq_true rfl | decide | simp)) :
    PS X (.Assign [.Name y py] (.ListComp elt [⟨tg, iter, ifs, 0⟩] scope pos) spos) (tS X.K m ρ (fun m1 ρ1 => m1 = m ∧ ρ1 = ρ.set n (.ow d)) R) :=
  PS.imp h fun D σ H ⟨Pt, He, A, e, k1, _⟩ => ⟨e.envP, fun x H' B s o nd f => by
    obtain ⟨A', e'⟩ := e.set s hil o nd f
    exact k1 He _ H' m _ A' (.refl _) e' ⟨rfl, rfl⟩⟩
end
end
end DL
end
section
set_option Elab.async false
set_option linter.all false
set_option maxRecDepth 100000
set_option maxHeartbeats 4000000
namespace DL
open PySem PySem.Spec L2
def IteT (K : PySem.W.Frag) (a : Addr) : It where
  go i H := ∃ (xs : List V) (x : V), SqT K H a xs ∧ xs[i]? = some x
  yld i H v H' := ∃ T x, v = .ref T ∧ H T = none ∧ H' = upd H T (.tup [.int (i : Nat), x]) ∧ ∀ xs, SqT K H a xs → xs[i]? = some x
  stop i H := ∃ xs : List V, SqT K H a xs ∧ xs.length = i
theorem cls_ne {h : Heap} {a b : Addr} {o o' : Obj} (h1 : h.get? a = some o) (h2 : h.get? b = some o') (h3 : o.cls ≠ o'.cls) : a ≠ b := fun z => by
  subst z; rw [h1] at h2; cases h2; exact h3 rfl
theorem turn_enumT {P : Program} {w : World} {K : PySem.W.Frag} {elts : List Expr} {kk : Nat} {tpos : Pos} (a e it : Addr) :
    Turn P w K (.Tuple elts kk tpos) (IteT K a) [e, it] e (fun i h => (∃ old, IsEnum h e it ((i : Nat) : Int) old) ∧ h.IsTupleIter it a i ∧ e ≠ it) where
  mem := by simp
  obj := fun i h st b hb => by
    obtain ⟨⟨old, he⟩, ⟨o, ho, hc, hd⟩, _⟩ := st
    rcases (show b = e ∨ b = it by simpa using hb) with z | z
    · subst z; exact ⟨_, he, fun v q => nomatch q⟩
    · subst z; exact ⟨o, ho, fun v q => by rw [hd] at q; cases q⟩
  keep := fun i h h' st k => by
    obtain ⟨⟨old, he⟩, hi, hne⟩ := st
    exact ⟨⟨old, k e (by simp) _ he⟩, hi.at fun o q => k it (by simp) o q, hne⟩
  item := by
    intro X hP hw hK hc i pins s σ H E I hf st hg
    subst hP hw hK
    obtain ⟨⟨old, he⟩, hit, hne⟩ := st
    obtain ⟨xs, x, hq, hx⟩ := hg
    obtain ⟨its, rv, p, hz⟩ := I.tuple hq
    obtain ⟨u, hu, ru⟩ := rv.get hx
    have hel : e < s.heap.objs.size := Heap.lt_size he
    obtain ⟨oa, ha, hca, na, hda⟩ := id p
    obtain ⟨oi, hoi, hci, hdi⟩ := id hit
    have hil : it < s.heap.objs.size := Heap.lt_size hoi
    have hai : a ≠ it := cls_ne ha hoi (by rw [hca, hci]; decide)
    have hea : e ≠ a := cls_ne he ha (by rw [hca]; show Value.type "enumerate" ≠ Value.type "tuple"; decide)
    have D := Draws.tuple (prog := X.prog) (w := X.w) (A := X.A.in1) (I.ok.hd hc) it a hai its.toArray
    have hn : i < its.toArray.size := by
      have := (List.getElem?_eq_some_iff.mp hu).1
      simpa using this
    refine wpAny_pyNext_enum_itemD D he ⟨hit, ⟨oa, ha, hca, na, hda⟩⟩ hn hne (by simp [hne, hea]) fun y h' tk hy ho hst hT hsz hk => ?_
    have hyu : y = u := by
      have hy' : its.toArray[i]? = some y := hy
      rw [List.getElem?_toArray, hu] at hy'
      exact (Option.some.inj hy').symm
    subst hyu
    refine ⟨_, rfl, wpAny_letOwnedTupleGo_enum (s := { s with heap := h', toks := tk + 1 }) ho fun h'' he' sb => ?_⟩
    have hT2 : h''.get? s.heap.objs.size = some { cls := .type "tuple", data := .seq #[.int i tk, y] } := (sb.2 _ (Nat.ne_of_gt hel)).trans hT
    have new : ObjOk X.prog X.w (upd H s.heap.objs.size (.tup [.int (i : Nat), x])) h'' s.heap.objs.size (.tup [.int (i : Nat), x]) :=
      ⟨by show 2 ≤ sizeLine; decide, [.int i tk, y], .cons ⟨_, rfl⟩ (.cons ru .nil), ⟨_, hT2, rfl, _, rfl⟩⟩
    have I1 : Inv X pins σ (upd H s.heap.objs.size (.tup [.int (i : Nat), x])) { s with heap := h'', toks := tk + 1 } :=
      I.turnedNew (ch := [e, it]) (fun b ob hb q => (sb.2 b (fun z => hb (by simp [z]))).trans (hk b ob (fun z => hb (by simp [z])) (fun z => hb (by simp [z])) q)) hf (Nat.le_refl _) new
    refine ⟨.ref s.heap.objs.size, _, I1, rfl, ⟨_, x, rfl, I.hok.fresh (Nat.le_refl _), rfl, fun ys hy => by rw [I.tuple_inj hy hq]; exact hx⟩, ⟨⟨y, ?_⟩, hst.1.at fun o q => (sb.2 it (Ne.symm hne)).trans q, hne⟩, fun b hb => ?_⟩
    · rw [show ((i + 1 : Nat) : Int) = (i : Int) + 1 by omega]; exact he'
    · have hb' : b < s.heap.objs.size := by
        rcases (show b = e ∨ b = it by simpa using hb) with z | z
        · rw [z]; exact hel
        · rw [z]; exact hil
      rw [upd_ne (Nat.ne_of_lt hb')]
      exact (hf b hb).1
  done := by
    intro X hP hw hK hc i pins s σ H E I hf st hg
    subst hP hw hK
    obtain ⟨⟨old, he⟩, hit, hne⟩ := st
    obtain ⟨xs, hq, hx⟩ := hg
    obtain ⟨its, rv, p, hz⟩ := I.tuple hq
    obtain ⟨f0, f1, f2, f3, f4, f5⟩ := hf it (by simp)
    obtain ⟨oa, ha, hca, na, hda⟩ := id p
    obtain ⟨oi, hoi, hci, hdi⟩ := id hit
    have hai : a ≠ it := cls_ne ha hoi (by rw [hca, hci]; decide)
    have D := Draws.tuple (prog := X.prog) (w := X.w) (A := X.A.in1) (I.ok.hd hc) it a hai its.toArray
    have hl : i = its.toArray.size := by rw [List.size_toArray, ← rv.length]; exact hx.symm
    exact wpAny_pyNext_enum_endD D he ⟨hl ▸ hit, ⟨oa, ha, hca, na, hda⟩⟩ fun h' eb => ⟨rfl, I.turned (t' := s.toks) (fun b o hb q => eb b o hb q) f0 f1 f3 f4 f5⟩
  self := fun A i s Q E st h => by
    obtain ⟨⟨_, he⟩, _⟩ := st
    exact wpAny_pyIter_enum he h
set_option maxHeartbeats 1000000 in
theorem meets_enum1 {v : Value} {o : Obj} {G : Heap → Prop} (B : Begins v o G) :
    Meets (Builtin.«enumerate.__new__» ⟨[.type "enumerate", v], []⟩) (fun _ R s => G s.heap ∧
      R (.ok (.ret (.ref (s.heap.push o).objs.size))) { s with heap := (s.heap.push o).push { cls := .type "enumerate", data := .fields #[.none, .bool false, .ref s.heap.objs.size, rawInt 0, .none, .none] } }) :=
  .of_wp fun prog w A R s h => by
    obtain ⟨hp, g, d, tk, os⟩ := s
    obtain ⟨h1, h⟩ := h
    have hsub := sub_enumerate
    have q1 : ∀ {A' : Around} {E Q : Value → Shared → Prop}, Q (.ref hp.objs.size) ⟨hp.push o, g, d, tk, os⟩ → wpAny (model prog w) A' (pyIter v) Q E ⟨hp, g, d, tk, os⟩ := fun q => B.iter prog w _ _ ⟨hp, g, d, tk, os⟩ _ h1 q
    wp_walk using q1
    refine wpAny_stack_any fun st => wpAny_pure ?_
    split
    · rename_i c _ _ _ _ _
      cases (c == Value.type "enumerate") <;> (wp_walk using q1; exact ⟨_, rfl, h⟩)
    · wp_walk using q1
      exact ⟨_, rfl, h⟩
theorem call_enum1 {prog : Program} {w : World} {A : Around} {E : Value → Shared → Prop} {s : Shared} {v : Value} {o : Obj} {G : Heap → Prop} {Q : Value → Shared → Prop} (B : Begins v o G) (h1 : G s.heap)
    (h : ∀ h', IsEnum h' (s.heap.objs.size + 1) s.heap.objs.size 0 .none → h'.get? s.heap.objs.size = some o → (∀ b o, s.heap.get? b = some o → h'.get? b = some o) → Q (.ref (s.heap.objs.size + 1)) { s with heap := h' }) :
    wpAny (model prog w) A (call (.type "enumerate") [v]) Q E s := by
  refine callType_new F.called_enumerate (by decide) (F.typeCall_enumerate_1 _) (F.newCall_enumerate_1 _) (fun obj => F.args_object_init_2 obj _) F.entry_enumerate_new (meets_enum1 B) ⟨h1, ?_⟩
  have hz : (s.heap.push o).objs.size = s.heap.objs.size + 1 := Heap.size_push ..
  show _ ∧ _
  rw [hz]
  have he : IsEnum ((s.heap.push o).push { cls := .type "enumerate", data := .fields #[.none, .bool false, .ref s.heap.objs.size, rawInt 0, .none, .none] }) (s.heap.objs.size + 1) s.heap.objs.size 0 .none := by
    have q := Heap.get?_push_size (s.heap.push o) (o := { cls := .type "enumerate", data := .fields #[.none, .bool false, .ref s.heap.objs.size, rawInt 0, .none, .none] }) rfl
    rw [hz] at q; exact q
  exact ⟨⟨_, he, rfl⟩, h _ he (Heap.get?_push_of_some _ (Heap.get?_push_size _ B.free)) fun b o' x => Heap.get?_push_of_some _ (Heap.get?_push_of_some _ x)⟩
section
variable {X : Cx} {r : Ro} {a b c e tg : Expr} {es elts : List Expr} {pos p tpos : Pos} {kk : Nat} {d : PyData} {ds ds1 ds2 : List PyData}
def enumD (ds : List PyData) : List PyData := ds.zipIdx.map fun q => .tuple [.int (q.2 : Nat), q.1]
theorem enumD_get {ds : List PyData} {i : Nat} {d : PyData} (h : (enumD ds)[i]? = some d) : ∃ x, ds[i]? = some x ∧ d = .tuple [.int (i : Nat), x] := by
  unfold enumD at h
  rw [List.getElem?_map, List.getElem?_zipIdx] at h
  cases q : ds[i]? with
  | none => rw [q] at h; cases h
  | some x =>
    rw [q] at h
    simp only [Option.map_some, Option.some.injEq, Nat.zero_add] at h
    exact ⟨x, rfl, h.symm⟩
theorem enumD_length (ds : List PyData) : (enumD ds).length = ds.length := by unfold enumD; rw [List.length_map, List.length_zipIdx]
theorem seqs_pair {K : PySem.W.Frag} {H : Hp} {T : Addr} {x y : V} {d1 d2 : PyData} {B C : List Addr} (hT : H T = none) (o1 : Own K H x d1 B) (o2 : Own K H y d2 C) :
    Same H (upd H T (.tup [x, y])) ∧ Own K (upd H T (.tup [x, y])) (.ref T) (.tuple [d1, d2]) (B ++ (C ++ [])) :=
  ⟨same_new hT, .tup (.of upd_same) (by show 2 ≤ sizeLine; decide) (.cons (o1.same (same_new hT)) (.cons (o2.same (same_new hT)) .nil))⟩
theorem pi_enumT (h : PE X e (tP X.K r (.tuple ds))) (hg : Gl X "enumerate") (hm : X.mg "enumerate" = none) (hi : immAll ds = true) (hs : starEach [e] X.env = [(false, eval e X.env)] := by rfl) :
    PI X (.Tuple elts kk tpos) (.Call (.Name "enumerate" p) [e] [] pos) (tIF X.K r (enumD ds)) := by
  refine ⟨fun pins s σ H R I ⟨he, k⟩ => ?_⟩
  refine PyProof.Rows.Call_ (ld_blt I hg hm PyProof.Rows.boot_enumerate (PyProof.Rows.callWith_type1 (thn ((pas_cons h pas_nil hs).run pos pins s σ H (fun xs H1 => ∃ B, Same H H1 ∧ OwnL X.K H1 xs [.tuple ds] B) I ⟨he, fun xs H1 B s o => ⟨B, s, o⟩⟩) fun us s1 ⟨vs, H1, I1, r1, B, s01, ol⟩ => ?_) hs rfl))
  cases ol with
  | cons o ol2 =>
    cases ol2
    obtain ⟨q, xs, rfl, hq, om, hz⟩ := o.tup_inv
    have hB := om.imm hi
    subst hB
    cases r1 with
    | cons rr rn =>
      cases rn
      cases rr
      obtain ⟨its, rv, p', _⟩ := I1.tuple hq
      refine call_enum1 (begins_tuple q its.toArray) p' fun h' hE hit hk => PySem.wpAny_pyIter_enum hE ?_
      have I2 : Inv X pins σ H1 { s1 with heap := h' } := I1.kept (t' := s1.toks) hk
      refine ⟨s1.heap.objs.size + 1, [s1.heap.objs.size + 1, s1.heap.objs.size], _, IteT X.K q, H1, rfl, I2, turn_enumT q (s1.heap.objs.size + 1) s1.heap.objs.size, ⟨⟨.none, hE⟩, ⟨_, hit, rfl, rfl⟩, Nat.succ_ne_self _⟩, fun b hb => ?_, ?_⟩
      · have hle : s1.heap.objs.size ≤ b := by
          rcases (show b = s1.heap.objs.size + 1 ∨ b = s1.heap.objs.size by simpa using hb) with z | z
          · rw [z]; exact Nat.le_add_right _ _
          · rw [z]; exact Nat.le_refl _
        exact I1.fpOk hle (I1.hok.fresh hle)
      · have sq : ∀ H2, Kq [] H1 H2 → SqT X.K H2 q xs := fun H2 kq => SqT.kpM (fun b o e z t => kq b o e (fun y => absurd y z) t) hq
        refine k _ H1 [] s01 ⟨fun i H2 d2 kq hd => ?_, fun H2 kq => ⟨xs, sq H2 kq, by rw [enumD_length, om.length]⟩, by rw [enumD_length, ← om.length]; exact hz⟩ (fun _ q => by cases q) fun _ q => by cases q
        obtain ⟨x, hx, rfl⟩ := enumD_get hd
        obtain ⟨y, C, hy, oy, hC⟩ := om.get hx
        have hC0 : C = [] := List.eq_nil_iff_forall_not_mem.mpr fun c hc => by cases hC c hc
        subst hC0
        refine ⟨⟨xs, y, sq H2 kq, hy⟩, fun v H3 ⟨T, x3, e1, e2, e3, e4⟩ => ?_⟩
        subst e1 e3
        have hyy := e4 xs (sq H2 kq)
        rw [hy] at hyy; cases hyy
        obtain ⟨q1, q2⟩ := seqs_pair e2 (Own.int (i : Nat)) (oy.kq kq fun _ z => by cases z)
        exact ⟨q1, _, q2, fun b hb => by simp at hb⟩
theorem pi_enumL (h : PE X e (tP X.K r (.list ds))) (hg : Gl X "enumerate") (hm : X.mg "enumerate" = none) (hs : starEach [e] X.env = [(false, eval e X.env)] := by rfl) :
    PI X (.Tuple elts kk tpos) (.Call (.Name "enumerate" p) [e] [] pos) (tI X.K r (enumD ds)) :=
  PI.imp (pi_enum hg hm (pas_cons h pas_nil hs) hs) fun σ H R ⟨he, k⟩ => ⟨he, fun vs H1 B s o => by
    cases o with
    | cons o ol2 =>
      cases ol2
      obtain ⟨q, xs, C, rfl, hq, om, hz, rfl⟩ := o.lst_inv
      refine ⟨q, xs, rfl, .of hq, k _ H1 (q :: C) s ?_⟩
      have sq : ∀ H2, Kq (q :: C) H1 H2 → H2 q = some (.lst xs) := fun H2 kq => kq q _ hq (fun _ => List.mem_cons_self) fun z => z
      refine ⟨fun i H2 d2 kq hd => ?_, fun H2 kq => ⟨xs, .of (sq H2 kq), by rw [enumD_length, om.length]; exact Nat.le_refl _⟩, by rw [enumD_length, ← om.length]; exact hz⟩
      obtain ⟨x, hx, rfl⟩ := enumD_get hd
      obtain ⟨y, D, hy, oy, hD⟩ := om.get hx
      refine ⟨⟨xs, y, .of (sq H2 kq), hy⟩, fun v H3 ⟨T, x3, e1, e2, e3, e4⟩ => ?_⟩
      subst e1 e3
      have hyy := e4 xs (.of (sq H2 kq))
      rw [hy] at hyy; cases hyy
      obtain ⟨q1, q2⟩ := seqs_pair e2 (Own.int (i : Nat)) (oy.kq kq fun b hb => List.mem_cons_of_mem _ (hD b hb))
      exact ⟨q1, _, q2, fun b hb => by
        simp only [List.nil_append, List.append_nil] at hb
        exact List.mem_cons_of_mem _ (hD b hb)⟩⟩
def zipD (as bs : List PyData) : List PyData := (as.zip bs).map fun q => .tuple [q.1, q.2]
theorem zipD_get {as bs : List PyData} {i : Nat} {d : PyData} (h : (zipD as bs)[i]? = some d) : ∃ x y, as[i]? = some x ∧ bs[i]? = some y ∧ d = .tuple [x, y] := by
  unfold zipD at h
  rw [List.getElem?_map] at h
  cases q : (as.zip bs)[i]? with
  | none => rw [q] at h; cases h
  | some z =>
    rw [q] at h
    obtain ⟨h1, h2⟩ := List.getElem?_zip_eq_some.mp q
    cases h
    exact ⟨_, _, h1, h2, rfl⟩
theorem zipD_length (as bs : List PyData) : (zipD as bs).length = min as.length bs.length := by unfold zipD; rw [List.length_map, List.length_zip]
theorem pi_zipTT (h1 : PE X a (tP X.K r (.tuple ds1))) (h2 : PE X b (tP X.K r (.tuple ds2))) (hi : immAll ds1 = true ∧ immAll ds2 = true) (hg : Gl X "zip") (hm : X.mg "zip" = none)
    (hs : starEach [a, b] X.env = (false, eval a X.env) :: starEach [b] X.env := by rfl) (hs2 : starEach [b] X.env = (false, eval b X.env) :: starEach [] X.env := by rfl) (hpl : (backTo pos (starEach [b] X.env)).any (·.1) = false := by rfl) :
    PI X (.Tuple elts kk tpos) (.Call (.Name "zip" p) [a, b] [] pos) (tIF X.K r (zipD ds1 ds2)) :=
  PI.imp (RZ.pi_zipA hg hm (pas_cons h1 (pas_cons h2 pas_nil hs2) hs) hs hpl) fun σ H R ⟨he, k⟩ => ⟨he, fun vs H1 B s o => by
    cases o with
    | cons o ol2 =>
      cases ol2 with
      | cons o' ol3 =>
        cases ol3
        obtain ⟨q1, xs, rfl, hq1, om1, hz1⟩ := o.tup_inv
        obtain ⟨q2, ys, rfl, hq2, om2, hz2⟩ := o'.tup_inv
        have hB1 := om1.imm hi.1
        have hB2 := om2.imm hi.2
        subst hB1 hB2
        refine ⟨q1, q2, xs, ys, rfl, .inr ⟨hq1, hq2, k _ H1 [] s ?_ (fun _ q => by cases q) fun _ q => by cases q⟩⟩
        have sq : ∀ H2 (q : Addr) (zs : List V), SqT X.K H1 q zs → Kq [] H1 H2 → SqT X.K H2 q zs := fun H2 q zs hq kq => SqT.kpM (fun b o e z t => kq b o e (fun y => absurd y z) t) hq
        refine ⟨fun i H2 d2 kq hd => ?_, fun H2 kq => ⟨xs, ys, sq _ _ _ hq1 kq, sq _ _ _ hq2 kq, by rw [zipD_length, om1.length, om2.length]; omega⟩, by rw [zipD_length, ← om1.length]; omega⟩
        obtain ⟨x, y, hx, hy, rfl⟩ := zipD_get hd
        obtain ⟨xv, C, hxv, ox, hC⟩ := om1.get hx
        obtain ⟨yv, D, hyv, oy, hD⟩ := om2.get hy
        have hC0 : C = [] := List.eq_nil_iff_forall_not_mem.mpr fun c hc => by cases hC c hc
        have hD0 : D = [] := List.eq_nil_iff_forall_not_mem.mpr fun c hc => by cases hD c hc
        subst hC0 hD0
        refine ⟨⟨xs, ys, xv, yv, sq _ _ _ hq1 kq, sq _ _ _ hq2 kq, hxv, hyv⟩, fun v H3 ⟨T, x3, y3, e1, e2, e3, e4, e5⟩ => ?_⟩
        subst e1 e3
        have hxx := e4 xs (sq _ _ _ hq1 kq)
        rw [hxv] at hxx; cases hxx
        have hyy := e5 ys (sq _ _ _ hq2 kq)
        rw [hyv] at hyy; cases hyy
        obtain ⟨p1, p2⟩ := seqs_pair e2 (ox.kq kq fun _ z => by cases z) (oy.kq kq fun _ z => by cases z)
        exact ⟨p1, _, p2, fun b hb => by simp at hb⟩⟩
end
end DL
end
section
set_option Elab.async false
set_option linter.all false
set_option maxRecDepth 100000
set_option maxHeartbeats 4000000
namespace DL
open PySem PySem.Spec L2
def wipeS (ρ : Rh) : List Nat → Rh
  | [] => ρ
  | v :: vs => (wipeS ρ vs).set v .un
theorem Le.set_un : ∀ (ρ : Rh) (n : Nat), Le ρ (ρ.set n .un)
  | [], _ => .nil
  | _ :: ρ, 0 => .drop (Le.refl ρ)
  | _ :: ρ, n + 1 => .keep (Le.set_un ρ n)
theorem Le.trans : ∀ {a b c : Rh}, Le a b → Le b c → Le a c
  | _, _, _, .nil, .nil => .nil
  | _, _, _, .keep h, .keep k => .keep (Le.trans h k)
  | _, _, _, .keep h, .drop k => .drop (Le.trans h k)
  | _, _, _, .drop h, .keep k => .drop (Le.trans h k)
  | _, _, _, .drop h, .drop k => .drop (Le.trans h k)
theorem Le.wipe (ρ : Rh) : ∀ T : List Nat, Le ρ (wipeS ρ T)
  | [] => Le.refl ρ
  | v :: T => (Le.wipe ρ T).trans (Le.set_un _ v)
section
variable {X : Cx} {m : Nat} {ρ : Rh} {N : Nat → Rh → Prop} {R : Nat → PyData → Prop} {tg iter : Expr} {body rest : List Stmt} {st : Stmt} {pos : Pos} {d d0 d1 : PyData}
theorem PS.wk {ρ' : Rh} (l : Le ρ ρ') (h : PS X st (tS X.K m ρ' N R)) : PS X st (tS X.K m ρ N R) := PS.imp h fun D σ H ⟨Pt, He, A, e, k1, k2⟩ => by
  obtain ⟨A', e'⟩ := e.weak l
  exact ⟨Pt, He, A', e', k1, k2⟩
theorem PSs.wk {ρ' : Rh} (l : Le ρ ρ') (h : PSs X rest (tS X.K m ρ' N R)) : PSs X rest (tS X.K m ρ N R) := PSs.imp h fun D σ H ⟨Pt, He, A, e, k1, k2⟩ => by
  obtain ⟨A', e'⟩ := e.weak l
  exact ⟨Pt, He, A', e', k1, k2⟩
theorem PS.post {N' : Nat → Rh → Prop} (h : PS X st (tS X.K m ρ N' R)) (hN : ∀ m ρ, N' m ρ → N m ρ) : PS X st (tS X.K m ρ N R) := PS.imp h fun _ _ _ q => q.mono hN fun _ _ z => z
theorem PI.env {r r' : Ro} {its : List PyData} (h : PI X tg iter (tIF X.K r' its)) (hr : ∀ σ H, EnvP X.K H σ r → EnvP X.K H σ r') : PI X tg iter (tIF X.K r its) := PI.imp h fun σ H R ⟨he, k⟩ => ⟨hr σ H he, k⟩
theorem take_pre {α : Type} {l : List α} {n : Nat} {a : α} (h : l[n]? = some a) : l = l.take n ++ a :: l.drop (n + 1) := by
  obtain ⟨hn, e⟩ := List.getElem?_eq_some_iff.mp h
  subst e
  rw [List.getElem_cons_drop, List.take_append_drop]
theorem take_succ' {α : Type} {l : List α} {n : Nat} {a : α} (h : l[n]? = some a) : l.take (n + 1) = l.take n ++ [a] := by rw [List.take_succ, h]; rfl
section
variable {α S : Type} {l : List α} {f : α → PyData}
theorem ds_fold1 (T : List Nat) (i : Nat) (F : S → PyData) (step : S → α → S) (s0 : S) (hp : PassesOwn (model X.prog X.w) X.A X.env X.xe) (hc : X.calm = true) (hi : PI X tg iter (tIF X.K ((wipeS ρ T).map pu) (l.map f))) (hm : ∀ a ∈ l, imm (f a) = true)
    (h0 : (wipeS ρ T)[i]? = some (.ow d0)) (hd0 : d0 = F s0)
    (hb : ∀ (pre : List α) (a : α) (post : List α), l = pre ++ a :: post → ∃ ρ', PG X tg (gSt X.K m ((wipeS ρ T).set i (.ow (F (pre.foldl step s0)))) ρ' (f a)) ∧
      PSs X body (tS X.K m ρ' (fun m1 ρ1 => m1 = m ∧ ∃ d, ρ1 = (wipeS ρ T).set i (.ow d) ∧ d = F (step (pre.foldl step s0) a)) R))
    (hs : ∀ x, foldedSetIterable iter X.env x = pure x := by intro _; rfl) : PS X (.For tg iter body [] pos) (tS X.K m ρ (fun m1 ρ1 => m1 = m ∧ ρ1 = (wipeS ρ T).set i (.ow (F (l.foldl step s0)))) R) := by
  subst hd0
  refine PS.wk (Le.wipe ρ T) (PS.post (ds_for (ρ := wipeS ρ T) (m := m) (fun n m1 ρ1 => m1 = m ∧ ρ1 = (wipeS ρ T).set i (.ow (F ((l.take n).foldl step s0)))) hp hc hi (fun d hd => ?_) ⟨rfl, (set_here h0).symm⟩ ?_ hs) ?_)
  · obtain ⟨a, ha, rfl⟩ := List.mem_map.mp hd
    exact hm a ha
  · rintro n _ _ d hd ⟨rfl, rfl⟩
    rw [List.getElem?_map] at hd
    cases q : l[n]? with
    | none => rw [q] at hd; cases hd
    | some a =>
      rw [q] at hd
      cases hd
      obtain ⟨ρ', h1, h2⟩ := hb (l.take n) a (l.drop (n + 1)) (take_pre q)
      refine ⟨ρ', h1, pss_mono h2 (fun m1 ρ1 ⟨e1, d, e2, e3⟩ => ⟨e1, ?_⟩) fun _ _ z => z⟩
      rw [e2, e3, take_succ' q, List.foldl_append]
      rfl
  · rintro m1 ρ1 ⟨e1, e2⟩
    refine ⟨e1, ?_⟩
    rw [e2, List.length_map, List.take_length]
theorem ds_foldS (T : List Nat) (n : Nat) (i : Nat) (F : S → PyData) (step : S → α → S) (s0 : S) (hp : PassesOwn (model X.prog X.w) X.A X.env X.xe) (hc : X.calm = true) (hi : PI X tg iter (iList X.K (tVar n))) (hn : (wipeS ρ T)[n]? = some (.sh (.list (l.map f)))) (hm : ∀ a ∈ l, imm (f a) = true)
    (h0 : (wipeS ρ T)[i]? = some (.ow d0)) (hd0 : d0 = F s0)
    (hb : ∀ (pre : List α) (a : α) (post : List α), l = pre ++ a :: post → ∃ ρ', PG X tg (gSt X.K m ((wipeS ρ T).set i (.ow (F (pre.foldl step s0)))) ρ' (f a)) ∧
      PSs X body (tS X.K m ρ' (fun m1 ρ1 => m1 = m ∧ ∃ d, ρ1 = (wipeS ρ T).set i (.ow d) ∧ d = F (step (pre.foldl step s0) a)) R))
    (hs : ∀ x, foldedSetIterable iter X.env x = pure x := by intro _; rfl) : PS X (.For tg iter body [] pos) (tS X.K m ρ (fun m1 ρ1 => m1 = m ∧ ρ1 = (wipeS ρ T).set i (.ow (F (l.foldl step s0)))) R) := by
  subst hd0
  refine PS.wk (Le.wipe ρ T) (PS.post (ds_forS (ρ := wipeS ρ T) (m := m) n (fun n m1 ρ1 => m1 = m ∧ ρ1 = (wipeS ρ T).set i (.ow (F ((l.take n).foldl step s0)))) hp hc hi hn (fun d hd => ?_) ⟨rfl, (set_here h0).symm⟩ ?_ hs) ?_)
  · obtain ⟨a, ha, rfl⟩ := List.mem_map.mp hd
    exact hm a ha
  · rintro n _ _ d hd ⟨rfl, rfl⟩
    rw [List.getElem?_map] at hd
    cases q : l[n]? with
    | none => rw [q] at hd; cases hd
    | some a =>
      rw [q] at hd
      cases hd
      obtain ⟨ρ', h1, h2⟩ := hb (l.take n) a (l.drop (n + 1)) (take_pre q)
      refine ⟨ρ', h1, pss_mono h2 (fun m1 ρ1 ⟨e1, d, e2, e3⟩ => ⟨e1, ?_⟩) fun _ _ z => z⟩
      rw [e2, e3, take_succ' q, List.foldl_append]
      rfl
  · rintro m1 ρ1 ⟨e1, e2⟩
    refine ⟨e1, ?_⟩
    rw [e2, List.length_map, List.take_length]
theorem ds_fold2 (T : List Nat) (i j : Nat) (F G : S → PyData) (step : S → α → S) (s0 : S) (hp : PassesOwn (model X.prog X.w) X.A X.env X.xe) (hc : X.calm = true) (hi : PI X tg iter (tIF X.K ((wipeS ρ T).map pu) (l.map f))) (hm : ∀ a ∈ l, imm (f a) = true)
    (h0 : (wipeS ρ T)[i]? = some (.ow d0)) (hd0 : d0 = F s0) (h1 : (wipeS ρ T)[j]? = some (.ow d1)) (hd1 : d1 = G s0)
    (hb : ∀ (pre : List α) (a : α) (post : List α), l = pre ++ a :: post → ∃ ρ', PG X tg (gSt X.K m (((wipeS ρ T).set i (.ow (F (pre.foldl step s0)))).set j (.ow (G (pre.foldl step s0)))) ρ' (f a)) ∧
      PSs X body (tS X.K m ρ' (fun m1 ρ1 => m1 = m ∧ ∃ d d', ρ1 = ((wipeS ρ T).set i (.ow d)).set j (.ow d') ∧ d = F (step (pre.foldl step s0) a) ∧ d' = G (step (pre.foldl step s0) a)) R))
    (hs : ∀ x, foldedSetIterable iter X.env x = pure x := by intro _; rfl) : PS X (.For tg iter body [] pos) (tS X.K m ρ (fun m1 ρ1 => m1 = m ∧ ρ1 = ((wipeS ρ T).set i (.ow (F (l.foldl step s0)))).set j (.ow (G (l.foldl step s0)))) R) := by
  subst hd0 hd1
  refine PS.wk (Le.wipe ρ T) (PS.post (ds_for (ρ := wipeS ρ T) (m := m) (fun n m1 ρ1 => m1 = m ∧ ρ1 = ((wipeS ρ T).set i (.ow (F ((l.take n).foldl step s0)))).set j (.ow (G ((l.take n).foldl step s0)))) hp hc hi (fun d hd => ?_) ⟨rfl, ?_⟩ ?_ hs) ?_)
  · obtain ⟨a, ha, rfl⟩ := List.mem_map.mp hd
    exact hm a ha
  · rw [List.take_zero, List.foldl_nil, set_here h0, set_here h1]
  · rintro n _ _ d hd ⟨rfl, rfl⟩
    rw [List.getElem?_map] at hd
    cases q : l[n]? with
    | none => rw [q] at hd; cases hd
    | some a =>
      rw [q] at hd
      cases hd
      obtain ⟨ρ', h1, h2⟩ := hb (l.take n) a (l.drop (n + 1)) (take_pre q)
      refine ⟨ρ', h1, pss_mono h2 (fun m1 ρ1 ⟨e1, d, d', e2, e3, e4⟩ => ⟨e1, ?_⟩) fun _ _ z => z⟩
      rw [e2, e3, e4, take_succ' q, List.foldl_append]
      rfl
  · rintro m1 ρ1 ⟨e1, e2⟩
    refine ⟨e1, ?_⟩
    rw [e2, List.length_map, List.take_length]
theorem ds_find (T : List Nat) (pass : α → Prop) (hp : PassesOwn (model X.prog X.w) X.A X.env X.xe) (hc : X.calm = true) (hi : PI X tg iter (tIF X.K ((wipeS ρ T).map pu) (l.map f))) (hm : ∀ a ∈ l, imm (f a) = true)
    (hb : ∀ (pre : List α) (a : α) (post : List α), l = pre ++ a :: post → (∀ b ∈ pre, pass b) → ∃ ρ', PG X tg (gSt X.K m (wipeS ρ T) ρ' (f a)) ∧
      PSs X body (tS X.K m ρ' (fun m1 ρ1 => (m1 = m ∧ ρ1 = wipeS ρ T) ∧ pass a) R))
    (hs : ∀ x, foldedSetIterable iter X.env x = pure x := by intro _; rfl) : PS X (.For tg iter body [] pos) (tS X.K m ρ (fun m1 ρ1 => (m1 = m ∧ ρ1 = wipeS ρ T) ∧ ∀ a ∈ l, pass a) R) := by
  refine PS.wk (Le.wipe ρ T) (PS.post (ds_for (ρ := wipeS ρ T) (m := m) (fun n m1 ρ1 => (m1 = m ∧ ρ1 = wipeS ρ T) ∧ ∀ a ∈ l.take n, pass a) hp hc hi (fun d hd => ?_) ⟨⟨rfl, rfl⟩, fun a ha => by simp at ha⟩ ?_ hs) ?_)
  · obtain ⟨a, ha, rfl⟩ := List.mem_map.mp hd
    exact hm a ha
  · rintro n _ _ d hd ⟨⟨rfl, rfl⟩, hpre⟩
    rw [List.getElem?_map] at hd
    cases q : l[n]? with
    | none => rw [q] at hd; cases hd
    | some a =>
      rw [q] at hd
      cases hd
      obtain ⟨ρ', h1, h2⟩ := hb (l.take n) a (l.drop (n + 1)) (take_pre q) hpre
      refine ⟨ρ', h1, pss_mono h2 (fun m1 ρ1 ⟨e1, e2⟩ => ⟨e1, fun b hb => ?_⟩) fun _ _ z => z⟩
      rw [take_succ' q] at hb
      rcases List.mem_append.mp hb with hb | hb
      · exact hpre b hb
      · rw [List.mem_singleton.mp hb]; exact e2
  · rintro m1 ρ1 ⟨e1, e2⟩
    rw [List.length_map, List.take_length] at e2
    exact ⟨e1, e2⟩
end
section
variable {α β : Type} {l : List α} {l2 : List β} {f : α → PyData} {g : β → PyData} {r : Ro} {e a b : Expr} {elts : List Expr} {p tpos : Pos} {kk : Nat}
theorem enumD_map : enumD (l.map f) = l.zipIdx.map fun q => .tuple [.int (q.2 : Nat), f q.1] := by
  apply List.ext_getElem?
  intro i
  unfold enumD
  rw [List.getElem?_map, List.getElem?_zipIdx, List.getElem?_map, List.getElem?_map, List.getElem?_zipIdx]
  cases l[i]? <;> rfl
theorem zipD_map : zipD (l.map f) (l2.map g) = (l.zip l2).map fun q => .tuple [f q.1, g q.2] := by
  unfold zipD
  rw [List.zip_map, List.map_map]
  rfl
theorem pi_enumTM (h : PE X e (tP X.K r (.tuple (l.map f)))) (hg : Gl X "enumerate") (hm : X.mg "enumerate" = none) (hi : immAll (l.map f) = true) (hs : starEach [e] X.env = [(false, eval e X.env)] := by rfl) :
    PI X (.Tuple elts kk tpos) (.Call (.Name "enumerate" p) [e] [] pos) (tIF X.K r (l.zipIdx.map fun q => .tuple [.int (q.2 : Nat), f q.1])) := by
  rw [← enumD_map]; exact pi_enumT h hg hm hi hs
theorem pi_zipTTM (h1 : PE X a (tP X.K r (.tuple (l.map f)))) (h2 : PE X b (tP X.K r (.tuple (l2.map g)))) (hi : immAll (l.map f) = true ∧ immAll (l2.map g) = true) (hg : Gl X "zip") (hm : X.mg "zip" = none)
    (hs : starEach [a, b] X.env = (false, eval a X.env) :: starEach [b] X.env := by rfl) (hs2 : starEach [b] X.env = (false, eval b X.env) :: starEach [] X.env := by rfl) (hpl : (backTo pos (starEach [b] X.env)).any (·.1) = false := by rfl) :
    PI X (.Tuple elts kk tpos) (.Call (.Name "zip" p) [a, b] [] pos) (tIF X.K r ((l.zip l2).map fun q => .tuple [f q.1, g q.2])) := by
  rw [← zipD_map]; exact pi_zipTT h1 h2 hi hg hm hs hs2 hpl
end
end
section
variable {X : Cx} {r : Ro} {e : Expr} {pos p : Pos} {α : Type} {l : List α}
theorem pf_sumM {g : α → Int} (hc : X.calm = true) (h : PE X e (tP X.K r (.list (l.map fun a => .int (g a))))) (hg : Gl X "sum") (hm : X.mg "sum" = none) (hs : starEach [e] X.env = (false, eval e X.env) :: starEach [] X.env := by rfl) (hpl : (backTo pos (starEach [] X.env)).any (·.1) = false := by rfl) :
    PE X (.Call (.Name "sum" p) [e] [] pos) (tF X.K r (.int (l.map g).sum)) := pf_sum hc (cP h (by rw [List.map_map]; rfl)) hg hm hs hpl
theorem pf_allM {g : α → Bool} (hc : X.calm = true) (h : PE X e (tP X.K r (.list (l.map fun a => .bool (g a))))) (hg : Gl X "all") (hm : X.mg "all" = none) (hs : starEach [e] X.env = (false, eval e X.env) :: starEach [] X.env := by rfl) (hpl : (backTo pos (starEach [] X.env)).any (·.1) = false := by rfl) :
    PE X (.Call (.Name "all" p) [e] [] pos) (tF X.K r (.bool (l.all g))) := by
  have := pf_all (pos := pos) (p := p) hc (cP (d1 := .list ((l.map g).map .bool)) h (by rw [List.map_map]; rfl)) hg hm hs hpl
  have e : (l.map g).all id = l.all g := by rw [List.all_map]; rfl
  rwa [e] at this
end
end DL
end
section
set_option Elab.async false
set_option linter.all false
set_option maxRecDepth 100000
set_option maxHeartbeats 4000000
namespace DL
open PySem PySem.Spec L2
theorem imm_int {i : Int} : imm (.int i) = true := by rw [imm]
theorem imm_str {s : Str} : imm (.str s) = true := by rw [imm]
theorem imm_bl {s : Bool} : imm (.bool s) = true := by rw [imm]
theorem imm_non : imm .none = true := by rw [imm]
theorem immAll_nil : immAll [] = true := by rw [immAll]
theorem lookup_relabel' {env : PySem.Env} {k0 : NameKind} (hk : k0 = .cell ∨ k0 = .free) : ∀ {names : List (Str × NameKind)} {x : Str}, names.lookup x = some k0 →
    ((names.map fun (n, k) => if (k == NameKind.free && env.scope.kind == .function && env.kindOf n == some .cell) then (n, NameKind.cell) else (n, k)).lookup x = some .cell ∨
     (names.map fun (n, k) => if (k == NameKind.free && env.scope.kind == .function && env.kindOf n == some .cell) then (n, NameKind.cell) else (n, k)).lookup x = some .free)
  | [], _, h => by simp at h
  | (n, k) :: r, x, h => by
    have ih := @lookup_relabel' env k0 hk r x
    rw [List.map_cons]
    cases hx : x == n with
    | true =>
      simp only [List.lookup_cons, hx] at h
      cases h
      dsimp only
      split
      · simp [List.lookup_cons, hx]
      · rcases hk with rfl | rfl <;> simp [List.lookup_cons, hx]
    | false =>
      simp only [List.lookup_cons, hx] at h
      dsimp only
      split
      · simp only [List.lookup_cons, hx]; exact ih h
      · simp only [List.lookup_cons, hx]; exact ih h
theorem blkOk_in {X : Cx} {N : List Str} {s : Shared} {H : Hp} {sc sc2 : Scope} {cl : List (Str × Addr)} {C : Addr} {env : PySem.Env} {fp : List Addr} {own : List (Str × Nat)} (h : blkC N sc sc2 own = true) : BlkOk N (X.blk s H sc (compEnvC sc cl C env) fp).env.scope sc2 own := by
  obtain ⟨h1, h2, h3, h4, h5⟩ := blkOk_by h
  refine ⟨h1, h2, h3, fun y hy e => ?_, h5⟩
  rcases h4 y hy e with q | q
  · exact lookup_relabel' (.inl rfl) q
  · exact lookup_relabel' (.inr rfl) q
section
variable {X : Cx} {m : Nat} {ρ : Rh} {R : Nat → PyData → Prop} {o e : Expr} {pos apos cpos : Pos} {d : PyData} {ds ds2 : List PyData}
theorem ds_app (n : Nat) (ho : PE X o (tVar n)) (hn : ρ[n]? = some (.ow (.list ds))) (he : PE X e (tF X.K (ρ.map pu) d)) (hz : ds.length < sizeLine)
    (hbase : attributeBase o "append" X.env (eval o X.env) = eval o X.env := by rfl)
    (hfew : ((backTo cpos (starEach (e :: []) X.env)).all (fun x => !x.1) && (backToKw cpos (keywordEach [] X.env)).all (fun x => x.1.isSome)
      && decide ((e :: []).length + ([] : List Keyword).length + (if ([] : List Keyword).isEmpty then 0 else 1) < 30)) = true := by rfl)
    (hline : (apos.endLine == cpos.line) = true := by rfl) (hst : starEach (e :: []) X.env = (false, eval e X.env) :: starEach [] X.env := by rfl) (hplain : (backTo cpos (starEach [] X.env)).any (·.1) = false := by rfl)
    (hs : swapsWith (.Call (.Attribute o "append" apos) [e] [] cpos) none pos.line X.env = pure false := by rfl) :
    PS X (.Expr (.Call (.Attribute o "append" apos) [e] [] cpos) pos) (tS X.K m ρ (fun m1 ρ1 => m1 = m ∧ ρ1 = ρ.set n (.ow (.list (ds ++ [d])))) R) :=
  ds_append n ho hn he hz (pe_bm PySem.F.plainAttrs_list PySem.F.slot_list_append PySem.F.type_list_append mt_append ho (pa_cons he pa_nil hst) hbase hfew hline hst hplain) hs
theorem ds_ext (n : Nat) (ho : PE X o (tVar n)) (hn : ρ[n]? = some (.ow (.list ds))) (he : PE X e (tF X.K (ρ.map pu) (.list ds2))) (hz : ds.length + ds2.length ≤ sizeLine)
    (hbase : attributeBase o "extend" X.env (eval o X.env) = eval o X.env := by rfl)
    (hfew : ((backTo cpos (starEach (e :: []) X.env)).all (fun x => !x.1) && (backToKw cpos (keywordEach [] X.env)).all (fun x => x.1.isSome)
      && decide ((e :: []).length + ([] : List Keyword).length + (if ([] : List Keyword).isEmpty then 0 else 1) < 30)) = true := by rfl)
    (hline : (apos.endLine == cpos.line) = true := by rfl) (hst : starEach (e :: []) X.env = (false, eval e X.env) :: starEach [] X.env := by rfl) (hplain : (backTo cpos (starEach [] X.env)).any (·.1) = false := by rfl)
    (hs : swapsWith (.Call (.Attribute o "extend" apos) [e] [] cpos) none pos.line X.env = pure false := by rfl) :
    PS X (.Expr (.Call (.Attribute o "extend" apos) [e] [] cpos) pos) (tS X.K m ρ (fun m1 ρ1 => m1 = m ∧ ρ1 = ρ.set n (.ow (.list (ds ++ ds2)))) R) :=
  ds_extend n ho hn he hz (pe_bm PySem.F.plainAttrs_list PySem.F.slot_list_extend PySem.F.type_list_extend mt_extend ho (pa_cons he pa_nil hst) hbase hfew hline hst hplain) hs
end
theorem mem_at {α : Type} {l pre post : List α} {a : α} (h : l = pre ++ a :: post) : a ∈ l := by rw [h]; exact List.mem_append_right _ List.mem_cons_self
theorem sub_at {α : Type} {l pre post : List α} {a : α} (h : l = pre ++ a :: post) : ∀ x ∈ pre, x ∈ l := fun x hx => by rw [h]; exact List.mem_append_left _ hx
theorem len_at {α : Type} {l pre post : List α} {a : α} (h : l = pre ++ a :: post) : pre.length < l.length := by rw [h]; simp
theorem range_at {n a : Nat} {pre post : List Nat} (h : List.range n = pre ++ a :: post) : a = pre.length ∧ a < n := by
  have h1 : a < n := List.mem_range.mp (mem_at h)
  have h2 : (List.range n)[pre.length]? = some a := by rw [h]; simp
  have h3 := len_at h
  rw [List.length_range] at h3
  rw [List.getElem?_range h3] at h2
  exact ⟨(Option.some.inj h2).symm, h1⟩
theorem at0_mem {α : Type} [Inhabited α] {l : List α} {i : Int} (h : 0 ≤ i ∧ i < l.length) : at0 l i ∈ l := by
  unfold at0
  have : i.toNat < l.length := by omega
  rw [List.getD_eq_getElem?_getD, List.getElem?_eq_getElem this]
  exact List.getElem_mem this
theorem lst0_mem {α : Type} [Inhabited α] {l : List α} (h : 0 < l.length) : lst0 l ∈ l := by
  unfold lst0
  have : l.length - 1 < l.length := by omega
  rw [List.getD_eq_getElem?_getD, List.getElem?_eq_getElem this]
  exact List.getElem_mem this
theorem cut_to (xs : List PyData) (k : Nat) : cutD xs none (some (k : Int)) = xs.take k := by
  unfold cutD HT.sIx
  simp only [List.drop_zero, Nat.sub_zero]
  split
  · omega
  · rw [Int.toNat_natCast]
    by_cases h : k ≤ xs.length
    · rw [Nat.min_eq_left h]
    · rw [Nat.min_eq_right (by omega), List.take_length, List.take_of_length_le (by omega)]
theorem cut_from (xs : List PyData) (k : Nat) : cutD xs (some (k : Int)) none = xs.drop k := by
  unfold cutD HT.sIx
  dsimp only
  split
  · omega
  · rw [Int.toNat_natCast]
    by_cases h : k ≤ xs.length
    · rw [Nat.min_eq_left h, List.take_of_length_le (by rw [List.length_drop]; exact Nat.le_refl _)]
    · rw [Nat.min_eq_right (by omega), Nat.sub_self, List.take_zero, List.drop_of_length_le (by omega)]
theorem cut_but (xs : List PyData) : cutD xs none (some (-1)) = xs.dropLast := by
  unfold cutD HT.sIx
  simp only [List.drop_zero, Nat.sub_zero]
  rw [List.dropLast_eq_take]
  congr 1
  simp
  omega
section
variable {X : Cx} {r : Ro} {a b : Expr} {pos p2 q q2 : Pos} {k1 : Nat} {xs : List PyData} {α : Type} {l : List α} {f : α → PyData} {x0 x1 x2 : PyData} {k : Nat} {d : PyData} {j : Int}
theorem pp_toK {n : Int} (hn : n = (k : Int)) (ha : PE X a (tP X.K r (.tuple xs))) : PE X (.Subscript a (.Slice none (some (.Constant (.int n) k1 q)) none p2) pos) (tP X.K r (.tuple (xs.take k))) := by
  subst hn
  rw [← cut_to]
  exact pp_slT ha poN (poS (toP pf_int))
theorem pp_sl2 (ha : PE X a (tP X.K r (.tuple (x0 :: x1 :: xs)))) : PE X (.Subscript a (.Slice none (some (.Constant (.int 2) k1 q)) none p2) pos) (tP X.K r (.tuple [x0, x1])) := pp_toK (k := 2) rfl ha
theorem pp_sl3 (ha : PE X a (tP X.K r (.tuple (x0 :: x1 :: x2 :: xs)))) : PE X (.Subscript a (.Slice none (some (.Constant (.int 3) k1 q)) none p2) pos) (tP X.K r (.tuple [x0, x1, x2])) := pp_toK (k := 3) rfl ha
theorem pp_from1M (ha : PE X a (tP X.K r (.tuple (l.map f)))) : PE X (.Subscript a (.Slice (some (.Constant (.int 1) k1 q)) none none p2) pos) (tP X.K r (.tuple ((l.drop 1).map f))) := by
  rw [List.map_drop, ← cut_from]
  exact pp_slT ha (poS (toP pf_int)) poN
theorem pp_butM (ha : PE X a (tP X.K r (.tuple (l.map f)))) : PE X (.Subscript a (.Slice none (some (.UnaryOp .USub (.Constant (.int 1) k1 q) q2)) none p2) pos) (tP X.K r (.tuple (l.dropLast.map f))) := by
  rw [List.map_dropLast, ← cut_but]
  exact pp_slT ha poN (poS pe_m1)
theorem pf_rep1 (ha : PE X a (tP X.K r (.list [d]))) (hi : imm d = true) (hb : PE X b (tP X.K r (.int j))) (h : 0 ≤ j ∧ j ≤ 16777216) : PE X (.BinOp a .Mult b pos) (tF X.K r (.list (List.replicate j.toNat d))) := by
  have e : (List.replicate j.toNat [d]).flatten = List.replicate j.toNat d := by
    induction j.toNat with
    | zero => rfl
    | succ n ih => rw [List.replicate_succ, List.flatten_cons, ih]; rfl
  have hz := PySem.sizeLine_eq
  have := pf_repL (pos := pos) ha (immAll_cons hi immAll_nil) hb h.1 (by rw [hz]; simp; omega) (by omega)
  rwa [e] at this
end
end DL
end
section
set_option Elab.async false
set_option linter.all false
set_option maxRecDepth 100000
set_option maxHeartbeats 4000000
namespace DL
open PySem PySem.Spec L2 PyProof.Rows
section
variable {prog : Program} {w : World} {A : Around} {E : Value → Shared → Prop} {s : Shared}
theorem places_back (n : Nat) : Builtin.Slice.slicePlaces ((n : Int) - 1) (-1) (-1) = n := by
  unfold Builtin.Slice.slicePlaces
  rw [if_neg (by decide), show (- -1 : Int) = 1 by decide, Int.ediv_one]
  split <;> omega
theorem fm_congr {α β : Type} {f g : α → Option β} : ∀ {l : List α}, (∀ a ∈ l, f a = g a) → l.filterMap f = l.filterMap g
  | [], _ => rfl
  | a :: l, h => by rw [List.filterMap_cons, List.filterMap_cons, h a List.mem_cons_self, fm_congr fun b hb => h b (List.mem_cons_of_mem _ hb)]
theorem pick_back (xs : Array Value) : ((List.range xs.size).filterMap fun (m : Nat) => xs[((xs.size : Int) - 1 + (m : Int) * (-1)).toNat]?).toArray = xs.toList.reverse.toArray := by
  have e : (List.range xs.size).filterMap (fun (m : Nat) => xs[((xs.size : Int) - 1 + (m : Int) * (-1)).toNat]?) = ((List.range xs.size).map fun k => xs.size - 1 - k).filterMap (xs[·]?) := by
    rw [List.filterMap_map]
    refine fm_congr fun m hm => ?_
    have := List.mem_range.mp hm
    have e2 : ((xs.size : Int) - 1 + (m : Int) * (-1)).toNat = xs.size - 1 - m := by omega
    rw [e2]; rfl
  rw [e, PySem.W.krv_range, List.filterMap_reverse, PySem.W.krv_all]
theorem getItem_tuple_back {t sl : Addr} {items : Array Value} {vs : Value} {Q : Value → Shared → Prop} (ht : IsTup s.heap t items) (hs : s.heap.IsSliceOf sl .none .none vs) (ps : IsPart vs (some (-1)))
    (h : Q (.ref s.heap.objs.size) { s with heap := s.heap.push { cls := .type "tuple", data := .seq items.toList.reverse.toArray } })
    (hsz : items.size ≤ sizeLine) : wpAny (model prog w) A (getItem (.ref t) (.ref sl)) Q E s := by
  have htake : sizeOk (.seq items.toList.reverse.toArray) := by
    show items.toList.reverse.toArray.size ≤ sizeLine
    rw [List.size_toArray, List.length_reverse, Array.length_toList]
    exact hsz
  obtain ⟨os, hos, hcs, hds⟩ := id hs
  have hTs : s.TypeIs (.ref sl) "slice" := ⟨os, hos, hcs⟩
  unfold getItem
  try with_reducible refine wpAny_holding ?_
  first | refine wpAny_bind (wpAny_pure ?_) | skip
  refine wpAny_bind (wpAny_sequenceKey ht.typeIs (by decide) ?_)
  refine wpAny_bind (wpAny_callSpecial?_slot (name := Str.ofString "__getitem__") ht.typeIs PyProof.Rows.slot_tuple_getitem
    (wpAny_call_entry PyProof.Rows.slot_tuple_getitem ht.typeIs entry_tuple_getitem ?_ (args_tuple_getitem _ _)))
  show wpAny _ _ (Builtin.Tuple.tupleItemsOf (.ref t) >>= _) _ _ s
  refine wpAny_bind (tupleItemsOf_ ht ?_)
  refine wpAny_bind (wpAny_typeOf hTs ?_)
  rw [if_pos (by decide)]
  refine wpAny_bind ?_
  · unfold Builtin.Slice.sliceApplied Builtin.Slice.sliceFields
    refine wpAny_bind (wpAny_bind (wpAny_field hos hds (x := .none) rfl (wpAny_bind (wpAny_field hos hds (x := .none) rfl (wpAny_bind (wpAny_field hos hds (x := vs) rfl (wpAny_pure ?_)))))))
    refine wpAny_bind (HT.slicePart_ ps ?_)
    show wpAny _ _ (if ((-1 : Int) == 0) = true then _ else _) _ _ s
    rw [if_neg (by decide)]
    refine wpAny_bind (slicePart_none (wpAny_bind (slicePart_none (wpAny_bind (wpAny_pure ?_)))))
    show wpAny _ _ (pure ((items.size : Int) - 1, (-1 : Int), Builtin.Slice.slicePlaces ((items.size : Int) - 1) (-1) (-1))) _ _ s
    rw [places_back]
    refine wpAny_pure ?_
    show wpAny _ _ (if (((items.size : Int) - 1) == 0 && (-1 : Int) == 1 && items.size == items.size) = true then _ else _) _ _ s
    rw [if_neg (by simp), pick_back]
    first
      | exact wpAny_bind (m := Builtin.Tuple.tupleExact _) (wpAny_newObj_type (wpAny_pure ⟨_, rfl, wpAny_pure h⟩) htake)
      | exact wpAny_bind (m := Builtin.Tuple.tupleExact _) (wpAny_newObj_type (wpAny_bind (wpAny_pure (wpAny_pure ⟨_, rfl, wpAny_pure h⟩))) htake)
      | exact wpAny_bind (wpAny_bind (m := Builtin.Tuple.tupleExact _) (wpAny_newObj_type (wpAny_pure (wpAny_pure ⟨_, rfl, wpAny_pure h⟩)) htake))
      | exact wpAny_bind (wpAny_bind (m := Builtin.Tuple.tupleExact _) (wpAny_newObj_type (wpAny_pure ⟨_, rfl, wpAny_pure h⟩) htake))
end
theorem OwnL.ints {K : PySem.W.Frag} {H : Hp} : ∀ ns : List Int, OwnL K H (ns.map V.int) (ns.map PyData.int) []
  | [] => .nil
  | n :: ns => .cons (.int n) (OwnL.ints ns)
theorem OwnL.rev' {K : PySem.W.Frag} {H : Hp} : ∀ {xs : List V} {ds : List PyData} {B : List Addr}, OwnL K H xs ds B → B = [] → OwnL K H xs.reverse ds.reverse []
  | _, _, _, .nil, _ => .nil
  | _, _, _, .cons (x := x) (xs := xs) (d := d) (ds := ds) (B := C) (C := D) e l, h => by
    obtain ⟨h1, h2⟩ := List.append_eq_nil_iff.mp h
    have ih := OwnL.rev' l h2
    rw [List.reverse_cons, List.reverse_cons]
    exact OwnL.append ih (.cons (h1 ▸ e) .nil)
theorem OwnL.rev {K : PySem.W.Frag} {H : Hp} {xs : List V} {ds : List PyData} (h : OwnL K H xs ds []) : OwnL K H xs.reverse ds.reverse [] := h.rev' rfl
def tRevT (K : PySem.W.Frag) (te : TE) : TE := fun σ H Q => te σ H fun x H1 => ∃ a xs, x = .ref a ∧ SqT K H1 a xs ∧ ∀ p, H1 p = none → Q (.ref p) (upd H1 p (.tup xs.reverse))
section
variable {X : Cx}
theorem pe_revT {e : Expr} {te : TE} {k : Nat} {p1 p2 p3 pos : Pos} (he : PE X e te) : PE X (.Subscript e (.Slice none none (some (.UnaryOp .USub (.Constant (.int 1) k p1) p2)) p3) pos) (tRevT X.K te) := by
  refine ⟨fun pins s σ H Q I h => ?_⟩
  refine Subscript_ (thn (he.run pins s σ H _ I h) fun v s1 ⟨x, H1, I1, r1, q1⟩ => ?_)
  obtain ⟨a, xs, ex, hx, q⟩ := q1
  subst ex
  cases r1
  have hst : PO X (some (.UnaryOp .USub (.Constant (.int 1) k p1) p2)) (tPart (tUn (rU fun i => .int (-i)) (tC (.int 1)))) := po_some (pe_un un_neg pe_int)
  refine wpAny_Slice (thn (po_none.run pins s1 σ H1 (fun o H2 => o = none ∧ H2 = H1) I1 ⟨rfl, rfl⟩) fun vl s2 ⟨l, H2, I2, pl, el, e2⟩ => ?_)
  subst el e2
  refine thn (po_none.run pins s2 σ H2 (fun o H3 => o = none ∧ H3 = H2) I2 ⟨rfl, rfl⟩) fun vu s3 ⟨u, H3, I3, pu, eu, e3⟩ => ?_
  subst eu e3
  refine thn (hst.run pins s3 σ H3 (fun o H4 => o = some (-1) ∧ H4 = H3) I3 ⟨1, rfl, -1, rfl, rfl, rfl⟩) fun vs s4 ⟨o, H4, I4, ps, eo, e4⟩ => ?_
  subst eo e4
  cases pl
  cases pu
  have I5 : Inv X pins σ H4 { s4 with heap := s4.heap.push { cls := .type "slice", data := .fields #[.none, .none, vs] } } := I4.kept (t' := s4.toks) fun b ob q => Heap.get?_push_of_some _ q
  obtain ⟨its, r, ht, hz⟩ := I5.tuple hx
  have hlen := r.length
  show wpAny (model X.prog X.w) X.A (subscriptTail e (.Slice none none (some (.UnaryOp .USub (.Constant (.int 1) k p1) p2)) p3) (.ref a) (.ref s4.heap.objs.size)) (EP X pins σ Q) X.xe { s4 with heap := s4.heap.push { cls := .type "slice", data := .fields #[.none, .none, vs] } }
  refine tail_any (ops := [.ref a, .ref s4.heap.objs.size]) ht.typeIs PyProof.Rows.slot_tuple_getitem.lookup ?_ (by with_unfolding_all rfl)
  refine getItem_tuple_back ht (Heap.IsSliceOf.new _ .none .none vs) ps ?_ (by rw [List.size_toArray]; omega)
  refine ⟨.ref _, _, I5.laid (t' := s4.toks) (o := .tup xs.reverse) (fun b ob q => Heap.get?_push_of_some _ q) (Nat.le_refl _) ?_, rfl, q _ (I5.hok.fresh (Nat.le_refl _))⟩
  exact ⟨by rw [List.length_reverse]; exact hz, _, r.reverse, ⟨_, Heap.get?_push_size _ rfl, rfl, _, rfl⟩⟩
end
section
variable {X : Cx} {a e o : Expr} {ta to : TE} {t : TA} {p pos apos cpos : Pos} {r : Ro} {ns : List Int} {k : Int} {es : List Expr}
def kTupN (K : PySem.W.Frag) (x : V) (H : Hp) (Q : VK) : Prop :=
  ∃ (p : Addr) (ns : List Int), x = .ref p ∧ SqL K H p (ns.map .int) ∧ ∀ (q : Addr) (ob : Obj), ob.cls = .type "tuple" → ob.dict = none → H q = none → Q (.ref q) (upd H q (.frz ob (.tup (ns.map .int))))
theorem pe_tupleN (hg : Gl X "tuple") (hm : X.mg "tuple" = none) (ha : PE X a ta) (na : starEach [a] X.env = (false, eval a X.env) :: starEach [] X.env := by rfl) :
    PE X (.Call (.Name "tuple" p) [a] [] pos) (tThen ta (kTupN X.K)) := by
  refine ⟨fun pins s σ H Q I h => ?_⟩
  refine Call_ (ld_blt I hg hm boot_tuple (PyProof.Rows.callWith_type1 (one_arg ha I h (fun v s2 x H2 I2 r q => ?_) na) na))
  obtain ⟨p, ns, rfl, hs, q⟩ := q
  obtain rfl : v = .ref p := r
  obtain ⟨its, rv, pl, hz⟩ := I2.list hs
  refine call_tuple_list pl.isList (fun h' hk => ?_) (by rw [List.size_toArray, ← rv.length]; exact hz)
  have I1 : Inv X pins σ H2 { s2 with heap := h' } := I2.kept (t' := s2.toks) hk
  have I3 : Inv X pins σ (upd H2 h'.objs.size (.frz { cls := .type "tuple", data := .seq its.toArray } (.tup (ns.map .int)))) { s2 with heap := h'.push { cls := .type "tuple", data := .seq its.toArray } } :=
    I1.laid (t' := s2.toks) (fun b o e => Heap.get?_push_of_some _ e) (Nat.le_refl _) (show ObjOk X.prog X.w _ _ _ (.frz { cls := .type "tuple", data := .seq its.toArray } (.tup (ns.map .int))) from ⟨Heap.get?_push_size _ rfl, hz, its, rv, IsTup.new _ _⟩)
  exact ⟨.ref h'.objs.size, _, I3, rfl, q _ _ rfl rfl (I1.hok.fresh (Nat.le_refl _))⟩
theorem pf_tupleN (h : PE X a (tP X.K r (.list (ns.map .int)))) (hg : Gl X "tuple") (hm : X.mg "tuple" = none) (na : starEach [a] X.env = (false, eval a X.env) :: starEach [] X.env := by rfl) :
    PE X (.Call (.Name "tuple" p) [a] [] pos) (tF X.K r (nt ns)) :=
  PE.imp (pe_tupleN hg hm h na) fun _ H _ ⟨he, k⟩ => ⟨he, fun x H1 B s o => by
    obtain ⟨q, xs, C, rfl, hq, ol, hz, rfl⟩ := o.lst_inv
    have := ol.ints_inv
    subst this
    refine ⟨q, ns, rfl, .of hq, fun t ob hc hd ht => k _ _ [] (s.trans (same_new ht)) (.nd upd_same hc hd (by rw [List.length_map] at hz; exact hz)) List.nodup_nil fun b hb => by cases hb⟩⟩
theorem Own.nt_inv {K : PySem.W.Frag} {H : Hp} {v : V} {B : List Addr} (o : Own K H v (nt ns) B) : ∃ a ob, v = .ref a ∧ H a = some (.frz ob (.tup (ns.map V.int))) ∧ ob.cls = .type "tuple" ∧ ob.dict = none ∧ ns.length ≤ sizeLine ∧ B = [] := by
  generalize hd : nt ns = d at o
  unfold nt at hd
  cases o with
  | nd h c e z =>
    rename_i ms
    injection hd with hd
    injection hd with hd _
    injection hd with _ hd
    injection hd with hd
    have : ms = ns := by
      have h2 := congrArg (List.map fun (d : PyData) => match d with | .int i => i | _ => 0) hd
      rw [List.map_map, List.map_map] at h2
      have e : ((fun (d : PyData) => match d with | .int i => i | _ => 0) ∘ PyData.int) = id := rfl
      rw [e, List.map_id, List.map_id] at h2
      exact h2.symm
    subst this
    exact ⟨_, _, rfl, h, c, e, z, rfl⟩
  | @dK a kvs ds C h l =>
    exfalso
    injection hd with hd
    cases kvs with
    | nil => cases hd
    | cons q kvs =>
      cases ds with
      | nil => cases hd
      | cons d ds => rcases q with ⟨k | k, v⟩ <;> cases hd
  | dT h l =>
    exfalso
    injection hd with hd
    cases hd
  | lk h => exact absurd hd (by simp)
  | lt h => exact absurd hd (by simp)
  | non => cases hd
  | bl => cases hd
  | int => cases hd
  | str => cases hd
  | tup => cases hd
  | lst => cases hd
theorem pp_nt (h : PE X e (tP X.K r (nt ns))) : PE X e (tP X.K r (.tuple (ns.map .int))) := PE.imp h fun _ H _ ⟨he, k⟩ => ⟨he, fun x H1 B s o => by
  obtain ⟨a, ob, rfl, hq, hc, hd, hz, rfl⟩ := o.nt_inv
  exact k _ H1 [] s (.tup (.inl (.inr ⟨ob, hq⟩)) (by rw [List.length_map]; exact hz) (OwnL.ints ns))⟩
theorem imm_nt : imm (nt ns) = true := by unfold nt; rw [imm]; rfl
theorem pf_tupleNM {α : Type} {l : List α} {g : α → Int} (h : PE X a (tP X.K r (.list (l.map fun a => .int (g a))))) (hg : Gl X "tuple") (hm : X.mg "tuple" = none) (na : starEach [a] X.env = (false, eval a X.env) :: starEach [] X.env := by rfl) :
    PE X (.Call (.Name "tuple" p) [a] [] pos) (tF X.K r (nt (l.map g))) := pf_tupleN (cP h (by rw [List.map_map]; rfl)) hg hm na
mutual
theorem Own.nm {K : PySem.W.Frag} {H : Hp} : ∀ {x : V} {d : PyData} {B : List Addr}, Own K H x d B → Own K H x (DL.nm d) B
  | _, _, _, .non => by rw [DL.nm]; exact .non
  | _, _, _, .bl b => by rw [DL.nm]; exact .bl b
  | _, _, _, .int i => by rw [DL.nm]; exact .int i
  | _, _, _, .str x => by rw [DL.nm]; exact .str x
  | _, _, _, .tup h z l => by rw [DL.nm]; exact .tup h z (OwnL.nm l)
  | _, _, _, .lst h z l => by rw [DL.nm]; exact .lst h z (OwnL.nm l)
  | _, _, _, .dK (kvs := kvs) (ds := ds) h l => by
    have e : DL.nm (.dict ((kvs.map fun p => kD p.1).zip ds)) = .dict ((kvs.map fun p => kD p.1).zip ds) := by
      cases kvs with
      | nil => simp [DL.nm]
      | cons p kvs =>
        cases ds with
        | nil => simp [DL.nm]
        | cons d ds => rcases p with ⟨k | k, v⟩ <;> simp [DL.nm, kD]
    rw [e]; exact .dK h l
  | _, _, _, .dT (kvs := kvs) (ds := ds) h l => by
    have e : DL.nm (.dict ((.bool true, .none) :: (kvs.map fun p => tD p.1).zip ds)) = .dict ((.bool true, .none) :: (kvs.map fun p => tD p.1).zip ds) := by simp [DL.nm]
    rw [e]; exact .dT h l
  | _, _, _, .lk h => by simp only [DL.nm]; exact .lk h
  | _, _, _, .lt h => by simp only [DL.nm]; exact .lt h
  | _, _, _, .nd h _ _ z => by rw [DL.nm]; exact .tup (.inl (.inr ⟨_, h⟩)) (by rw [List.length_map]; exact z) (OwnL.ints _)
theorem OwnL.nm {K : PySem.W.Frag} {H : Hp} : ∀ {xs : List V} {ds : List PyData} {B : List Addr}, OwnL K H xs ds B → OwnL K H xs (nmAll ds) B
  | _, _, _, .nil => by rw [nmAll]; exact .nil
  | _, _, _, .cons e l => by rw [nmAll]; exact .cons (Own.nm e) (OwnL.nm l)
end
theorem pp_nm {d d1 : PyData} (hd : DL.nm d = d1) (h : PE X e (tP X.K r d)) : PE X e (tP X.K r d1) := hd ▸ PE.imp h fun _ H _ ⟨he, k⟩ => ⟨he, fun x H1 B s o => k x H1 B s o.nm⟩
theorem pf_nm {d d1 : PyData} (hd : DL.nm d = d1) (h : PE X e (tF X.K r d)) : PE X e (tF X.K r d1) := hd ▸ PE.imp h fun _ H _ ⟨he, k⟩ => ⟨he, fun x H1 B s o => k x H1 B s o.nm⟩
theorem nm_nt (ns : List Int) : DL.nm (nt ns) = .tuple (ns.map .int) := by unfold nt; rw [DL.nm]
theorem nmAll_map {α : Type} (f : α → PyData) : ∀ l : List α, nmAll (l.map f) = l.map fun a => DL.nm (f a)
  | [] => by rw [List.map_nil, nmAll]; rfl
  | a :: l => by rw [List.map_cons, nmAll, nmAll_map f l]; rfl
theorem nm_int (i : Int) : DL.nm (.int i) = .int i := by rw [DL.nm]
theorem nm_str (i : Str) : DL.nm (.str i) = .str i := by rw [DL.nm]
theorem nm_bl (i : Bool) : DL.nm (.bool i) = .bool i := by rw [DL.nm]
theorem nm_non : DL.nm .none = .none := by rw [DL.nm]
theorem nm_tup (l : List PyData) : DL.nm (.tuple l) = .tuple (nmAll l) := by rw [DL.nm]
theorem nm_lst (l : List PyData) : DL.nm (.list l) = .list (nmAll l) := by rw [DL.nm]
theorem nmAll_nil : nmAll [] = [] := by rw [nmAll]
theorem nmAll_cons (d : PyData) (l : List PyData) : nmAll (d :: l) = DL.nm d :: nmAll l := by rw [nmAll]
theorem nmAll_app (l m : List PyData) : nmAll (l ++ m) = nmAll l ++ nmAll m := by
  induction l with
  | nil => rw [nmAll]; rfl
  | cons d l ih => rw [List.cons_append, nmAll_cons, nmAll_cons, ih]; rfl
theorem pp_ntM {m : List (List Int)} (h : PE X e (tP X.K r (.tuple (m.map nt)))) : PE X e (tP X.K r (.tuple (m.map fun o => .tuple (o.map .int)))) := pp_nm (by rw [nm_tup, nmAll_map]; simp only [nm_nt]) h
def tBMN (r : V → List V → Hp → VK → Prop) (to : TE) (t : TA) : TE := fun σ H Q => to σ H fun x H1 => (∃ a o u, x = .ref a ∧ H1 a = some (.frz o u) ∧ o.cls = .type "tuple" ∧ o.dict = none) ∧ t σ H1 fun xs H2 => r x xs H2 Q
theorem pe_bmN {name : Str} {id : String} {rr : V → List V → Hp → VK → Prop} (slot : PySem.Slot "tuple" name id) (hty : typeOf (.builtin id) = pure (.type "method_descriptor")) (hm : MtR X id rr) (ho : PE X o to) (ha : PA X (e :: es) t)
    (hbase : attributeBase o name X.env (eval o X.env) = eval o X.env := by rfl)
    (hfew : ((backTo cpos (starEach (e :: es) X.env)).all (fun x => !x.1) && (backToKw cpos (keywordEach [] X.env)).all (fun x => x.1.isSome)
      && decide ((e :: es).length + ([] : List Keyword).length + (if ([] : List Keyword).isEmpty then 0 else 1) < 30)) = true := by rfl)
    (hline : (apos.endLine == cpos.line) = true := by rfl) (hs : starEach (e :: es) X.env = (false, eval e X.env) :: starEach es X.env := by rfl) (hplain : (backTo cpos (starEach es X.env)).any (·.1) = false := by rfl) :
    PE X (.Call (.Attribute o name apos) (e :: es) [] cpos) (tBMN rr to t) := by
  refine ⟨fun pins s σ H Q I h => ?_⟩
  refine wpAny_Call_method_late hbase hfew hline rfl (thn (ho.run pins s σ H _ I h) fun v s1 ⟨x, H1, I1, r1, ty, q1⟩ => ?_)
  obtain ⟨a, ob, u, rfl, hq, hc, hd⟩ := ty
  obtain rfl : v = .ref a := r1
  have hob : s1.heap.get? a = some ob := (I1.hok a _ hq).1
  refine ⟨"tuple", id, PySem.F.plainAttrs_tuple, slot, hty, ⟨ob, hob, hc⟩, (fun b eb => by cases eb; exact ⟨ob, hob, hd⟩), ?_⟩
  have hA := ha.run cpos pins s1 σ H1 _ I1 q1
  rw [hs] at hA ⊢
  refine Calls.callWith_builtin (by show (false || (backTo cpos (starEach es X.env)).any (·.1)) = false; rw [hplain] <;> rfl) (Calls.evalArgs_plain ?_)
  exact thn hA fun us s2 ⟨vs, H2, I2, r2, q2⟩ => hm pins s2 σ H2 (.ref a) vs (.ref a) us Q I2 rfl r2 q2
def rTCount (K : PySem.W.Frag) : V → List V → Hp → VK → Prop := fun x xs H Q => ∃ (a : Addr) (ns : List Int) (k : Int), x = .ref a ∧ xs = [.int k] ∧ SqT K H a (ns.map .int) ∧ Q (.int (ns.count k : Nat)) H
def rTIndex (K : PySem.W.Frag) : V → List V → Hp → VK → Prop := fun x xs H Q => ∃ (a : Addr) (ns : List Int) (k : Int), x = .ref a ∧ xs = [.int k] ∧ SqT K H a (ns.map .int) ∧ k ∈ ns ∧ Q (.int (ns.idxOf k : Nat)) H
theorem countP_ints (k : Int) : ∀ {ns : List Int} {us : List Value}, Vals (ns.map V.int) us → us.countP (eqU (.int k)) = ns.count k
  | [], _, .nil => rfl
  | n :: ns, _, .cons r t => by
    obtain ⟨tk, rfl⟩ := r
    rw [List.countP_cons, List.count_cons, countP_ints k t]
    rfl
theorem mt_tcount : MtR X "tuple.count" (rTCount X.K) := by
  intro pins s σ H x xs v us Q I rx rxs h
  obtain ⟨a, ns, k, rfl, rfl, hq, q⟩ := h
  obtain rfl : v = .ref a := rx
  cases rxs with
  | cons ry rt =>
    cases rt
    rename_i uy
    obtain ⟨its, rv, ⟨⟨cls, dd, data, sl⟩, ho, hc, n, hd⟩, hlen⟩ := I.tuple hq
    simp only at hc hd
    subst hc hd
    refine call_meets PySem.F.slot_tuple_count ⟨_, ho, rfl⟩ PySem.F.entry_tuple_count (PySem.F.args_tuple_count_2 _ _)
      (SeqAt.tuple_countAt a its.toArray n dd sl uy (eqU (.int k))) ⟨ho, fun u' hu' => mem_eqAt ry rfl rv (flat_ints ns) u' (by simpa using hu'), ?_⟩
    refine ⟨.int (ns.count k : Nat), H, I.tok _, ⟨s.toks, ?_⟩, q⟩
    have := countP_ints k rv
    show Value.int (its.toArray.toList.countP (eqU (.int k)) : Nat) s.toks = _
    simp only [List.toList_toArray]
    rw [this]
theorem mt_tindex : MtR X "tuple.index" (rTIndex X.K) := by
  intro pins s σ H x xs v us Q I rx rxs h
  obtain ⟨a, ns, k, rfl, rfl, hq, hk, q⟩ := h
  obtain rfl : v = .ref a := rx
  cases rxs with
  | cons ry rt =>
    cases rt
    obtain ⟨t, rfl⟩ := ry
    obtain ⟨its, rv, pl, hlen⟩ := I.tuple hq
    exact SeqAt.tuple_index_ints pl (RZ.intsAre_vals rv) hk ⟨.int (ns.idxOf k : Nat), H, I.tok _, ⟨_, rfl⟩, q⟩
theorem pf_ntcount (ho : PE X o (tP X.K r (nt ns))) (he : PE X e (tP X.K r (.int k)))
    (hbase : attributeBase o "count" X.env (eval o X.env) = eval o X.env := by rfl)
    (hfew : ((backTo cpos (starEach (e :: []) X.env)).all (fun x => !x.1) && (backToKw cpos (keywordEach [] X.env)).all (fun x => x.1.isSome)
      && decide ((e :: []).length + ([] : List Keyword).length + (if ([] : List Keyword).isEmpty then 0 else 1) < 30)) = true := by rfl)
    (hline : (apos.endLine == cpos.line) = true := by rfl) (hs : starEach (e :: []) X.env = (false, eval e X.env) :: starEach [] X.env := by rfl) (hplain : (backTo cpos (starEach [] X.env)).any (·.1) = false := by rfl) :
    PE X (.Call (.Attribute o "count" apos) [e] [] cpos) (tF X.K r (.int (ns.count k : Nat))) :=
  PE.imp (pe_bmN PySem.F.slot_tuple_count PySem.F.type_tuple_count mt_tcount ho (pa_cons he pa_nil hs) hbase hfew hline hs hplain) fun _ H _ ⟨hE, kk⟩ => ⟨hE, fun x H1 B s1 o1 => by
    obtain ⟨a, ob, rfl, hq, hc, hd, hz, rfl⟩ := o1.nt_inv
    refine ⟨⟨a, ob, _, rfl, hq, hc, hd⟩, hE.same s1, fun y H2 C s2 o2 => ?_⟩
    obtain rfl := o2.int_inv
    exact ⟨a, ns, k, rfl, rfl, .inl (.inr ⟨ob, s2 _ _ hq⟩), kk _ H2 [] (s1.trans s2) (.int _) List.nodup_nil fun _ q => by cases q⟩⟩
theorem pf_ntindex (ho : PE X o (tP X.K r (nt ns))) (he : PE X e (tP X.K r (.int k))) (hk : k ∈ ns)
    (hbase : attributeBase o "index" X.env (eval o X.env) = eval o X.env := by rfl)
    (hfew : ((backTo cpos (starEach (e :: []) X.env)).all (fun x => !x.1) && (backToKw cpos (keywordEach [] X.env)).all (fun x => x.1.isSome)
      && decide ((e :: []).length + ([] : List Keyword).length + (if ([] : List Keyword).isEmpty then 0 else 1) < 30)) = true := by rfl)
    (hline : (apos.endLine == cpos.line) = true := by rfl) (hs : starEach (e :: []) X.env = (false, eval e X.env) :: starEach [] X.env := by rfl) (hplain : (backTo cpos (starEach [] X.env)).any (·.1) = false := by rfl) :
    PE X (.Call (.Attribute o "index" apos) [e] [] cpos) (tF X.K r (.int (ns.idxOf k : Nat))) :=
  PE.imp (pe_bmN PySem.F.slot_tuple_index PySem.F.type_tuple_index mt_tindex ho (pa_cons he pa_nil hs) hbase hfew hline hs hplain) fun _ H _ ⟨hE, kk⟩ => ⟨hE, fun x H1 B s1 o1 => by
    obtain ⟨a, ob, rfl, hq, hc, hd, hz, rfl⟩ := o1.nt_inv
    refine ⟨⟨a, ob, _, rfl, hq, hc, hd⟩, hE.same s1, fun y H2 C s2 o2 => ?_⟩
    obtain rfl := o2.int_inv
    exact ⟨a, ns, k, rfl, rfl, .inl (.inr ⟨ob, s2 _ _ hq⟩), hk, kk _ H2 [] (s1.trans s2) (.int _) List.nodup_nil fun _ q => by cases q⟩⟩
theorem pp_revM {α : Type} {l : List α} {f : α → PyData} {kk : Nat} {p1 p2 p3 : Pos} (h : PE X e (tP X.K r (.tuple (l.map f)))) (hi : immAll (l.map f) = true) : PE X (.Subscript e (.Slice none none (some (.UnaryOp .USub (.Constant (.int 1) kk p1) p2)) p3) pos) (tP X.K r (.tuple (l.reverse.map f))) :=
  PE.imp (pe_revT h) fun _ H _ ⟨he, k⟩ => ⟨he, fun x H1 B s o => by
    obtain ⟨q, xs, rfl, hq, ol, hz⟩ := o.tup_inv
    refine ⟨q, xs, rfl, hq, fun t ht => k _ _ [] (s.trans (same_new ht)) (.tup (.inl (.inl upd_same)) (by rw [List.length_reverse]; exact hz) ?_)⟩
    have e := ol.imm hi
    subst e
    rw [List.map_reverse]
    exact (ol.same (same_new ht)).rev⟩
theorem pf_lenSet {q1 p2 : Pos} (hc : X.calm = true) (h : PE X e (tP X.K r (.list (ns.map .int)))) (hn : ns.Nodup ∧ ns.length < 64) (hg : Gl X "len") (hm : X.mg "len" = none) (hg2 : Gl X "set") (hm2 : X.mg "set" = none)
    (na : starEach [e] X.env = (false, eval e X.env) :: starEach [] X.env := by rfl) : PE X (.Call (.Name "len" p) [.Call (.Name "set" p2) [e] [] q1] [] pos) (tF X.K r (.int ns.length)) :=
  PE.imp (RZ.pe_lenSetI hg hm hg2 hm2 h hc na) fun _ H _ ⟨he, k⟩ => ⟨he, fun x H1 B s o => by
    obtain ⟨q, xs, C, rfl, hq, ol, hz, rfl⟩ := o.lst_inv
    have := ol.ints_inv
    subst this
    exact ⟨q, ns, rfl, .of hq, hn.1, by omega, k _ H1 [] s (.int _) List.nodup_nil fun _ q => by cases q⟩⟩
end
end DL
end
section
set_option Elab.async false
set_option linter.all false
set_option maxRecDepth 100000
set_option maxHeartbeats 4000000
namespace DL
open PySem PySem.Spec L2
def sh (d : PyData) (n : Nat) : Prop := d.canLay0 = true ∧ d.depth ≤ n
def shA (l : List PyData) (n : Nat) : Prop := PyData.canLayAll0 l = true ∧ PyData.depthAll l ≤ n
section
variable {n : Nat} {l m : List PyData} {d : PyData}
theorem sh_int {i : Int} : sh (.int i) n := ⟨by simp [PyData.canLay0], by simp [PyData.depth]⟩
theorem sh_str {i : Str} (h : PyData.strOk i = true) : sh (.str i) n := ⟨by simp [PyData.canLay0, h], by simp [PyData.depth]⟩
theorem sh_bl {i : Bool} : sh (.bool i) n := ⟨by simp [PyData.canLay0], by simp [PyData.depth]⟩
theorem sh_non : sh .none n := ⟨by simp [PyData.canLay0], by simp [PyData.depth]⟩
theorem sh_tup (h : shA l n) : sh (.tuple l) (n + 1) := ⟨by simpa only [PyData.canLay0] using h.1, by rw [PyData.depth]; exact Nat.succ_le_succ h.2⟩
theorem sh_lst (h : shA l n) : sh (.list l) (n + 1) := ⟨by simpa only [PyData.canLay0] using h.1, by rw [PyData.depth]; exact Nat.succ_le_succ h.2⟩
theorem shA_nil : shA [] n := ⟨by simp [PyData.canLayAll0], by simp [PyData.depthAll]⟩
theorem shA_cons (h : sh d n) (h2 : shA l n) : shA (d :: l) n := ⟨by simp [PyData.canLayAll0, h.1, h2.1], by rw [PyData.depthAll]; exact Nat.max_le.mpr ⟨h.2, h2.2⟩⟩
theorem shA_iff : shA l n ↔ ∀ d ∈ l, sh d n := by
  induction l with
  | nil => exact ⟨fun _ d h => (by cases h), fun _ => shA_nil⟩
  | cons d l ih =>
    refine ⟨fun h => ?_, fun h => shA_cons (h d List.mem_cons_self) (ih.mpr fun e he => h e (List.mem_cons_of_mem _ he))⟩
    obtain ⟨h1, h2⟩ := h
    simp only [PyData.canLayAll0, Bool.and_eq_true] at h1
    rw [PyData.depthAll] at h2
    intro e he
    rcases List.mem_cons.mp he with rfl | he
    · exact ⟨h1.1, (Nat.max_le.mp h2).1⟩
    · exact ih.mp ⟨h1.2, (Nat.max_le.mp h2).2⟩ e he
theorem shA_map {α : Type} {l : List α} {f : α → PyData} (h : ∀ a, sh (f a) n) : shA (l.map f) n := shA_iff.mpr fun d hd => by
  obtain ⟨a, _, rfl⟩ := List.mem_map.mp hd
  exact h a
theorem shA_app (h : shA l n) (h2 : shA m n) : shA (l ++ m) n := shA_iff.mpr fun d hd => by
  rcases List.mem_append.mp hd with hd | hd
  · exact shA_iff.mp h d hd
  · exact shA_iff.mp h2 d hd
theorem sh_of (h : sh d 64) : SeqAt.shaped d = true := by unfold SeqAt.shaped; rw [h.1, decide_eq_true h.2]; rfl
theorem sh_refl (h : sh d n) : PyData.eqv d d = true := eqv_refl d h.1
end
mutual
def nob : PyData → Bool
  | .none => true
  | .bool _ => false
  | .int _ => true
  | .str _ => true
  | .list l => nobAll l
  | .tuple l => nobAll l
  | .dict _ => false
def nobAll : List PyData → Bool
  | [] => true
  | d :: l => nob d && nobAll l
end
mutual
theorem eqv_eq : ∀ d e : PyData, nob d = true → nob e = true → PyData.eqv d e = true → d = e
  | .none, .none, _, _, _ => rfl
  | .none, .bool _, _, h, _ => by simp [nob] at h
  | .none, .int _, _, _, h => by simp [PyData.eqv] at h
  | .none, .str _, _, _, h => by simp [PyData.eqv] at h
  | .none, .list _, _, _, h => by simp [PyData.eqv] at h
  | .none, .tuple _, _, _, h => by simp [PyData.eqv] at h
  | .none, .dict _, _, _, h => by simp [PyData.eqv] at h
  | .bool _, _, h, _, _ => by simp [nob] at h
  | .int _, .none, _, _, h => by simp [PyData.eqv] at h
  | .int _, .bool _, _, h, _ => by simp [nob] at h
  | .int i, .int j, _, _, h => by simp [PyData.eqv] at h; rw [h]
  | .int _, .str _, _, _, h => by simp [PyData.eqv] at h
  | .int _, .list _, _, _, h => by simp [PyData.eqv] at h
  | .int _, .tuple _, _, _, h => by simp [PyData.eqv] at h
  | .int _, .dict _, _, _, h => by simp [PyData.eqv] at h
  | .str _, .none, _, _, h => by simp [PyData.eqv] at h
  | .str _, .bool _, _, h, _ => by simp [nob] at h
  | .str _, .int _, _, _, h => by simp [PyData.eqv] at h
  | .str i, .str j, _, _, h => by simp [PyData.eqv] at h; rw [h]
  | .str _, .list _, _, _, h => by simp [PyData.eqv] at h
  | .str _, .tuple _, _, _, h => by simp [PyData.eqv] at h
  | .str _, .dict _, _, _, h => by simp [PyData.eqv] at h
  | .list _, .none, _, _, h => by simp [PyData.eqv] at h
  | .list _, .bool _, _, h, _ => by simp [nob] at h
  | .list _, .int _, _, _, h => by simp [PyData.eqv] at h
  | .list _, .str _, _, _, h => by simp [PyData.eqv] at h
  | .list l, .list m, h1, h2, h => by
    rw [PyData.eqv] at h
    rw [nob] at h1 h2
    rw [eqvAll_eq l m h1 h2 h]
  | .list _, .tuple _, _, _, h => by simp [PyData.eqv] at h
  | .list _, .dict _, _, _, h => by simp [PyData.eqv] at h
  | .tuple _, .none, _, _, h => by simp [PyData.eqv] at h
  | .tuple _, .bool _, _, h, _ => by simp [nob] at h
  | .tuple _, .int _, _, _, h => by simp [PyData.eqv] at h
  | .tuple _, .str _, _, _, h => by simp [PyData.eqv] at h
  | .tuple _, .list _, _, _, h => by simp [PyData.eqv] at h
  | .tuple l, .tuple m, h1, h2, h => by
    rw [PyData.eqv] at h
    rw [nob] at h1 h2
    rw [eqvAll_eq l m h1 h2 h]
  | .tuple _, .dict _, _, _, h => by simp [PyData.eqv] at h
  | .dict _, _, h, _, _ => by simp [nob] at h
theorem eqvAll_eq : ∀ l m : List PyData, nobAll l = true → nobAll m = true → PyData.eqvAll l m = true → l = m
  | [], [], _, _, _ => rfl
  | [], _ :: _, _, _, h => by simp [PyData.eqvAll] at h
  | _ :: _, [], _, _, h => by simp [PyData.eqvAll] at h
  | d :: l, e :: m, h1, h2, h => by
    simp only [nobAll, Bool.and_eq_true] at h1 h2
    simp only [PyData.eqvAll, Bool.and_eq_true] at h
    rw [eqv_eq d e h1.1 h2.1 h.1, eqvAll_eq l m h1.2 h2.2 h.2]
end
def le3 (a b c x y z : Int) : Bool := if a = x then if b = y then if c = z then true else decide (c ≤ z) else decide (b ≤ y) else decide (a ≤ x)
section
variable {X : Cx} {a b c x y z : Int}
theorem ints3 {K : PySem.W.Frag} {H : Hp} {v : V} {B : List Addr} (o : Own K H v (.tuple [.int a, .int b, .int c]) B) : ∃ p, v = .ref p ∧ SqT K H p ([a, b, c].map V.int) := by
  obtain ⟨p, xs, rfl, hq, ol, _⟩ := o.tup_inv
  have := OwnL.ints_inv (ns := [a, b, c]) ol
  subst this
  exact ⟨p, rfl, hq⟩
theorem c_le3 (hu : X.A.units + 64 < cLine) : CmpD X .LtE (.tuple [.int a, .int b, .int c]) (.tuple [.int x, .int y, .int z]) (le3 a b c x y z) :=
  ⟨_, op_leT (by omega), fun _ _ _ _ _ o1 o2 _ q => by
    obtain ⟨p, rfl, h1⟩ := ints3 o1
    obtain ⟨p2, rfl, h2⟩ := ints3 o2
    refine ⟨p, p2, _, _, rfl, rfl, h1, h2, ?_⟩
    have e : Ob.lexAt (fun j => decide ([a, b, c].getD j 0 = [x, y, z].getD j 0)) (fun j => decide ([a, b, c].getD j 0 ≤ [x, y, z].getD j 0)) (decide ([a, b, c].length ≤ [x, y, z].length)) 0 (min [a, b, c].length [x, y, z].length) = le3 a b c x y z := by
      show Ob.lexAt _ _ _ 0 3 = _
      unfold le3
      simp only [Ob.lexAt, List.length_cons, List.length_nil, Nat.le_refl, decide_true]
      by_cases e1 : a = x <;> by_cases e2 : b = y <;> by_cases e3 : c = z <;> simp [e1, e2, e3]
    rw [e]; exact q⟩
end
section
variable {X : Cx} {r : Ro} {e : Expr} {d : PyData} {w : Bool} {pos : Pos}
theorem pf_isK {T ty : String} {x2 : Str} {p1 p2 : Pos} (h : PE X e (tP X.K r d)) (hk : kitB ty T = some w) (hg : Gl X "isinstance") (hm : X.mg "isinstance" = none) (hT : PE X (.Name x2 p1) (tC (.ty T))) (hty : tyD d = ty := by rfl)
    (hs : starEach [e, .Name x2 p1] X.env = (false, eval e X.env) :: starEach [.Name x2 p1] X.env := by rfl) (hs2 : starEach [.Name x2 p1] X.env = (false, eval (.Name x2 p1) X.env) :: starEach [] X.env := by rfl) (hpl : (backTo pos (starEach [.Name x2 p1] X.env)).any (·.1) = false := by rfl) (hl : isLt d = false := by rfl) :
    PE X (.Call (.Name "isinstance" p2) [e, .Name x2 p1] [] pos) (tF X.K r (.bool w)) := pf_isi h (by rw [hty]; exact hk) hg hm hT hs hs2 hpl hl
end
end DL
end
section
set_option Elab.async false
set_option linter.all false
set_option maxRecDepth 100000
set_option maxHeartbeats 4000000
namespace DL
open PySem PySem.Spec L2
section
variable {X : Cx} {r : Ro} {a b : Expr} {d1 d2 : PyData} {pos : Pos}
theorem pt_eqD (hu : X.A.units + 64 < cLine) (ha : PE X a (tP X.K r d1)) (hb : PE X b (tP X.K r d2)) (h1 : SeqAt.shaped d1 = true) (h2 : SeqAt.shaped d2 = true) (hm : behindInMarks .Eq b = false := by rfl) : PT X (.Compare a [.Eq] [b] pos) (tT X.K r (PyData.eqv d1 d2)) := pt_c (c_eqD hu h1 h2) ha hb hm
theorem pt_neD (hu : X.A.units + 64 < cLine) (ha : PE X a (tP X.K r d1)) (hb : PE X b (tP X.K r d2)) (h1 : SeqAt.shaped d1 = true) (h2 : SeqAt.shaped d2 = true) (hm : behindInMarks .NotEq b = false := by rfl) : PT X (.Compare a [.NotEq] [b] pos) (tT X.K r (!PyData.eqv d1 d2)) := pt_c (c_neD hu h1 h2) ha hb hm
theorem pf_eqD (hu : X.A.units + 64 < cLine) (ha : PE X a (tP X.K r d1)) (hb : PE X b (tP X.K r d2)) (h1 : SeqAt.shaped d1 = true) (h2 : SeqAt.shaped d2 = true) (hm : behindInMarks .Eq b = false := by rfl) : PE X (.Compare a [.Eq] [b] pos) (tF X.K r (.bool (PyData.eqv d1 d2))) := pf_c (c_eqD hu h1 h2) ha hb hm
theorem pf_neD (hu : X.A.units + 64 < cLine) (ha : PE X a (tP X.K r d1)) (hb : PE X b (tP X.K r d2)) (h1 : SeqAt.shaped d1 = true) (h2 : SeqAt.shaped d2 = true) (hm : behindInMarks .NotEq b = false := by rfl) : PE X (.Compare a [.NotEq] [b] pos) (tF X.K r (.bool (!PyData.eqv d1 d2))) := pf_c (c_neD hu h1 h2) ha hb hm
theorem pt_eqN (hu : X.A.units + 64 < cLine) (ha : PE X a (tP X.K r d1)) (hb : PE X b (tP X.K r d2)) (h1 : SeqAt.shaped (nm d1) = true) (h2 : SeqAt.shaped (nm d2) = true) (hm : behindInMarks .Eq b = false := by rfl) : PT X (.Compare a [.Eq] [b] pos) (tT X.K r (PyData.eqv (nm d1) (nm d2))) := pt_c (c_eqN hu h1 h2) ha hb hm
theorem pt_neN (hu : X.A.units + 64 < cLine) (ha : PE X a (tP X.K r d1)) (hb : PE X b (tP X.K r d2)) (h1 : SeqAt.shaped (nm d1) = true) (h2 : SeqAt.shaped (nm d2) = true) (hm : behindInMarks .NotEq b = false := by rfl) : PT X (.Compare a [.NotEq] [b] pos) (tT X.K r (!PyData.eqv (nm d1) (nm d2))) := pt_c (c_neN hu h1 h2) ha hb hm
theorem pf_eqN (hu : X.A.units + 64 < cLine) (ha : PE X a (tP X.K r d1)) (hb : PE X b (tP X.K r d2)) (h1 : SeqAt.shaped (nm d1) = true) (h2 : SeqAt.shaped (nm d2) = true) (hm : behindInMarks .Eq b = false := by rfl) : PE X (.Compare a [.Eq] [b] pos) (tF X.K r (.bool (PyData.eqv (nm d1) (nm d2)))) := pf_c (c_eqN hu h1 h2) ha hb hm
theorem pf_neN (hu : X.A.units + 64 < cLine) (ha : PE X a (tP X.K r d1)) (hb : PE X b (tP X.K r d2)) (h1 : SeqAt.shaped (nm d1) = true) (h2 : SeqAt.shaped (nm d2) = true) (hm : behindInMarks .NotEq b = false := by rfl) : PE X (.Compare a [.NotEq] [b] pos) (tF X.K r (.bool (!PyData.eqv (nm d1) (nm d2)))) := pf_c (c_neN hu h1 h2) ha hb hm
end
end DL
end
section
set_option Elab.async false
set_option linter.all false
set_option maxRecDepth 100000
set_option maxHeartbeats 4000000
namespace DL
open PySem PySem.Spec L2
section
variable {K : PySem.W.Frag} {H : Hp}
theorem OwnL.put : ∀ {xs : List V} {ds : List PyData} {B : List Addr}, OwnL K H xs ds B → B.Nodup → ∀ {q : Nat} {x : V} {d : PyData}, xs[q]? = some x → ds[q]? = some d →
    ∃ C, Own K H x d C ∧ C.Nodup ∧ (∀ c ∈ C, c ∈ B) ∧ ∀ (S C' : List Addr) (d' : PyData) (H' : Hp), Kp S false H H' → (∀ s ∈ S, s ∈ C) → Own K H' x d' C' → C'.Nodup → (∀ c ∈ C', c ∈ C) →
      ∃ B', OwnL K H' xs (ds.set q d') B' ∧ B'.Nodup ∧ ∀ b ∈ B', b ∈ B
  | _, _, _, .nil, _, _, _, _, h, _ => by simp at h
  | _, _, _, .cons (xs := xs) (ds := ds) (B := B1) (C := C2) e l, n, 0, x, d, h, h' => by
    cases h; cases h'
    obtain ⟨n1, n2, n3⟩ := List.nodup_append.mp n
    refine ⟨B1, e, n1, fun c hc => List.mem_append_left _ hc, fun S C' d' H' kp hS o nC hC => ?_⟩
    refine ⟨C' ++ C2, .cons o (l.kp kp fun b hb z => n3 b (hS b z) b hb rfl), List.nodup_append.mpr ⟨nC, n2, fun a ha b hb => n3 a (hC a ha) b hb⟩, fun b hb => ?_⟩
    rcases List.mem_append.mp hb with q | q
    · exact List.mem_append_left _ (hC b q)
    · exact List.mem_append_right _ q
  | _, _, _, .cons (xs := xs) (ds := ds) (B := B1) (C := C2) e l, n, k + 1, x, d, h, h' => by
    obtain ⟨n1, n2, n3⟩ := List.nodup_append.mp n
    obtain ⟨C, o, nC, hC, w⟩ := OwnL.put l n2 (q := k) (by simpa using h) (by simpa using h')
    refine ⟨C, o, nC, fun c hc => List.mem_append_right _ (hC c hc), fun S C' d' H' kp hS o' nC' hC' => ?_⟩
    obtain ⟨B', l', nB', hB'⟩ := w S C' d' H' kp hS o' nC' hC'
    refine ⟨B1 ++ B', by rw [List.set_cons_succ]; exact .cons (e.kp kp fun b hb z => n3 b hb b (hC b (hS b z)) rfl) l', List.nodup_append.mpr ⟨n1, nB', fun a ha b hb => n3 a ha b (hB' b hb)⟩, fun b hb => ?_⟩
    rcases List.mem_append.mp hb with q | q
    · exact List.mem_append_left _ q
    · exact List.mem_append_right _ (hB' b q)
end
section
variable {X : Cx} {m : Nat} {ρ : Rh} {R : Nat → PyData → Prop} {e o ix jx : Expr} {pos ipos tpos : Pos} {i j v : Int}
abbrev dRow (r : List Int) : PyData := .list (r.map .int)
theorem ds_setItem2 (n : Nat) {l : List (List Int)} (ho : PE X o (tVar n)) (hn : ρ[n]? = some (.ow (.list (l.map dRow)))) (hx : PE X ix (tP X.K (ρ.map pu) (.int i))) (hj : PE X jx (tP X.K (ρ.map pu) (.int j))) (he : PE X e (tF X.K (ρ.map pu) (.int v)))
    (hi : 0 ≤ i ∧ i < l.length) (hjl : 0 ≤ j ∧ j < (at0 l i).length) (hp : PlainIx ix := by exact fun _ _ => rfl)
    (ha : ∀ u, assign (.Subscript (.Subscript o ix ipos) jx tpos) X.env u = (do
      let ov ← holding [u] (eval (.Subscript o ix ipos) X.env)
      let iv ← holding [u, ov] (eval jx X.env)
      standAt tpos
      holding [u, ov, iv] (setItem ov iv u)
      release [u, ov, iv] []) := by intro _; rfl)
    (hs : swapsWithSole [.Subscript (.Subscript o ix ipos) jx tpos] e pos.line X.env = pure false := by rfl) (hw : swappedStores [.Subscript (.Subscript o ix ipos) jx tpos] e X.env = pure none := by rfl)
    (h1 : (assignEach [.Subscript (.Subscript o ix ipos) jx tpos] X.env).map (·.2) = [assign (.Subscript (.Subscript o ix ipos) jx tpos) X.env] := by rfl) :
    PS X (.Assign [.Subscript (.Subscript o ix ipos) jx tpos] e pos) (tS X.K m ρ (fun m1 ρ1 => m1 = m ∧ ρ1 = ρ.set n (.ow (.list ((l.set i.toNat ((at0 l i).set j.toNat v)).map dRow)))) R) :=
  PS.imp (ps_asg he (pg_sub (pe_ix ix_list ho hx hp) hj set_list ha) hs hw h1) fun D σ H ⟨Pt, He, A, en, k1, _⟩ => ⟨en.envP, fun y H2 B s oy nB fB => by
    obtain rfl := oy.int_inv
    have hB : B = [] := oy.imm imm_int
    subst hB
    have e2 := en.same s
    obtain ⟨x, C0, h1, o0, n0, f0, wr⟩ := e2.write hn
    obtain ⟨p, xs, C, rfl, hp, ol, hl, rfl⟩ := o0.lst_inv
    have il : i.toNat < l.length := by omega
    have hd : (l.map dRow)[i.toNat]? = some (dRow (at0 l i)) := by
      rw [List.getElem?_map, List.getElem?_eq_getElem il]
      unfold at0
      rw [List.getD_eq_getElem?_getD, List.getElem?_eq_getElem il]; rfl
    obtain ⟨u, _, hu, _, _⟩ := ol.get hd
    refine ⟨_, h1, e2.envP, fun z H3 D3 s3 oz => ⟨p, xs, i, u, rfl, oz.int_inv, .of (s3 _ _ hp), ?_, ?_⟩⟩
    · have : i = ((i.toNat : Nat) : Int) := by omega
      rw [this]; exact atI_nat hu
    have e3 := e2.same s3
    have ol3 := ol.same s3
    obtain ⟨nd1, nd2⟩ := List.nodup_cons.mp n0
    obtain ⟨Ci, oi, nCi, hCi, put⟩ := ol3.put nd2 hu hd
    obtain ⟨p2, ys, E, rfl, hp2, oy2, hy2, rfl⟩ := oi.lst_inv
    refine ⟨e3.envP, fun z4 H4 D4 s4 oz4 => ⟨p2, ys, j, j.toNat, rfl, oz4.int_inv, s4 _ _ hp2, ?_, ?_⟩⟩
    · rw [oy2.length, List.length_map]; exact ixN_ok hjl
    have ok4 := oy2.same s4
    obtain ⟨E1, oE, sub⟩ := OwnL.set_imm j.toNat ok4 (Own.int (K := X.K) (H := H4) v)
    have kp4 : Kp [p2] false H3 (upd H4 p2 (.lst (ys.set j.toNat (.int v)))) := (Kp.of_same s4).trans (Kp.upd (by simp) (s4 _ _ hp2) trivial)
    have kp4' : Kp [p2] false H4 (upd H4 p2 (.lst (ys.set j.toNat (.int v)))) := Kp.upd (by simp) (s4 _ _ hp2) trivial
    have nE : ∀ b ∈ E1, b ∉ [p2] := fun b hb z => by
      have e' : b = p2 := by simpa using z
      subst e'
      exact (List.nodup_cons.mp nCi).1 (sub.subset hb)
    obtain ⟨B', l', nB', hB'⟩ := put [p2] (p2 :: E1) (dRow ((at0 l i).set j.toNat v)) _ kp4 (by simp)
      (.lst upd_same (by rw [List.length_set]; exact hy2) (by rw [List.map_set]; exact oE.kp kp4' nE)) (List.nodup_cons.mpr ⟨fun z => nE p2 z (by simp), (List.nodup_cons.mp nCi).2.sublist sub⟩)
      fun b hb => by
        rcases List.mem_cons.mp hb with rfl | hb
        · exact List.mem_cons_self
        · exact List.mem_cons_of_mem _ (sub.subset hb)
    have hne : p ≠ p2 := fun z => nd1 (z ▸ hCi p2 List.mem_cons_self)
    have kpA : Kp [p2] false H2 (upd H4 p2 (.lst (ys.set j.toNat (.int v)))) := (Kp.of_same (s3.trans s4)).trans kp4'
    obtain ⟨A', e'⟩ := wr [p2] (p :: B') _ (.list ((l.set i.toNat ((at0 l i).set j.toNat v)).map dRow)) kpA (by
        intro b hb
        have e' : b = p2 := by simpa using hb
        subst e'
        exact List.mem_cons_of_mem _ (hCi _ List.mem_cons_self))
      (.lst (by rw [upd_ne hne]; exact s4 _ _ (s3 _ _ hp)) hl (by rw [List.map_set]; exact l'))
      (List.nodup_cons.mpr ⟨fun z => nd1 (hB' p z), nB'⟩) fun b hb => by
        rcases List.mem_cons.mp hb with rfl | hb
        · exact .inl List.mem_cons_self
        · exact .inl (List.mem_cons_of_mem _ (hB' b hb))
    exact k1 He σ _ m _ A' (.refl _) e' ⟨rfl, rfl⟩⟩
end
end DL
end
section
set_option Elab.async false
set_option linter.all false
set_option maxRecDepth 100000
set_option maxHeartbeats 4000000
namespace DL
open PySem PySem.Spec L2
def ItzM (K : PySem.W.Frag) (a b : Addr) : It where
  go i H := ∃ (xs ys : List V) (x y : V), SqT K H a xs ∧ SqL K H b ys ∧ xs[i]? = some x ∧ ys[i]? = some y
  yld i H v H' := ∃ T x y, v = .ref T ∧ H T = none ∧ H' = upd H T (.tup [x, y]) ∧ (∀ xs, SqT K H a xs → xs[i]? = some x) ∧ ∀ ys, SqL K H b ys → ys[i]? = some y
  stop i H := ∃ xs ys : List V, SqT K H a xs ∧ SqL K H b ys ∧ i = min xs.length ys.length
structure Aprt (z TI TO i1 i2 a b : Addr) : Prop where
  nd : [z, TI, TO, i1, i2].Nodup
  a' : a ∉ [z, TI, TO, i1, i2]
  b' : b ∉ [z, TI, TO, i1, i2]
theorem Aprt.sep {z TI TO i1 i2 a b : Addr} (D : Aprt z TI TO i1 i2 a b) : ZipSep2 z TI TO i1 i2 [i1, a] [i2, b] := by
  obtain ⟨n, h1, h2⟩ := D
  simp only [List.nodup_cons, List.mem_cons, List.not_mem_nil, or_false, not_or, not_false_eq_true, List.nodup_nil, and_true] at n h1 h2
  obtain ⟨⟨n1, n2, n3, n4⟩, ⟨n5, n6, n7⟩, ⟨n8, n9⟩, n10⟩ := n
  obtain ⟨p1, p2, p3, p4, p5⟩ := h1
  obtain ⟨q1, q2, q3, q4, q5⟩ := h2
  exact ⟨Ne.symm n1, Ne.symm n2, n5, n6, by simp, by simp [n3, Ne.symm p1], by simp [n8, Ne.symm p3], n7, by simp, by simp [n4, Ne.symm q1], by simp [n9, Ne.symm q3], by simp [n10, Ne.symm q4], by simp [Ne.symm n10, Ne.symm p5]⟩
theorem turn_zipM {P : Program} {w : World} {K : PySem.W.Frag} {elts : List Expr} {kk : Nat} {tpos : Pos} {a b z TI TO i1 i2 : Addr} (D : Aprt z TI TO i1 i2 a b) :
    Turn P w K (.Tuple elts kk tpos) (ItzM K a b) [z, TI, TO, i1, i2] z (fun i h => IsZip h z TI TO .none ∧ IsTupOf2 h TI (.ref i1) (.ref i2) ∧ (∃ x y, IsTupOf2 h TO x y) ∧ h.IsTupleIter i1 a i ∧ h.IsListIter i2 b i) where
  mem := List.mem_cons_self
  obj := fun i h st c hc => by
    obtain ⟨hz, hTI, ⟨x, y, hTO⟩, ⟨o1, e1, _, d1⟩, ⟨o2, e2, _, d2⟩⟩ := st
    simp only [List.mem_cons, List.not_mem_nil, or_false] at hc
    rcases hc with rfl | rfl | rfl | rfl | rfl
    · exact ⟨_, hz, fun v q => by cases q⟩
    · exact ⟨_, hTI, fun v q => by cases q⟩
    · exact ⟨_, hTO, fun v q => by cases q⟩
    · exact ⟨o1, e1, fun v q => by rw [d1] at q; cases q⟩
    · exact ⟨o2, e2, fun v q => by rw [d2] at q; cases q⟩
  keep := fun i h h' st k => by
    obtain ⟨hz, hTI, ⟨x, y, hTO⟩, h1, h2⟩ := st
    exact ⟨k z (by simp) _ hz, k TI (by simp) _ hTI, ⟨x, y, k TO (by simp) _ hTO⟩, h1.at fun o => k i1 (by simp) o, h2.at fun o => k i2 (by simp) o⟩
  item := by
    intro X hP hw hK hc i pins s σ H E I hf st hg
    subst hP hw hK
    obtain ⟨hz, hTI, ⟨x0, y0, hTO⟩, h1, h2⟩ := st
    obtain ⟨xs, ys, x, y, hqx, hqy, hx, hy⟩ := hg
    obtain ⟨its, rv, p, _⟩ := I.tuple hqx
    obtain ⟨jts, rv2, p2, _⟩ := I.list hqy
    obtain ⟨u, hu, ru⟩ := rv.get hx
    obtain ⟨u2, hu2, ru2⟩ := rv2.get hy
    have S := D.sep
    have na : a ≠ i1 := fun q => D.a' (by simp [q])
    have nb : b ≠ i2 := fun q => D.b' (by simp [q])
    have D1 := Draws.tuple (prog := X.prog) (w := X.w) (A := X.A.in1) (I.ok.hd hc) i1 a na its.toArray
    have D2 := Draws.list (prog := X.prog) (w := X.w) (A := X.A.in1) (I.ok.hd hc) i2 b nb jts.toArray
    have l1 : i < its.toArray.size := by simpa using (List.getElem?_eq_some_iff.mp hu).1
    have l2 : i < jts.toArray.size := by simpa using (List.getElem?_eq_some_iff.mp hu2).1
    have lz : z < s.heap.objs.size := Heap.lt_size hz
    refine wpAny_pyNext_zipD2_item S D1 D2 hz hTI hTO ⟨h1, p⟩ ⟨h2, p2.isList⟩ l1 l2 fun v1 v2 h' tk y1 y2 z' TO' s1 s2 hT hsz hk => ?_
    have ev1 : v1 = u := by
      have q : its.toArray[i]? = some v1 := y1
      rw [List.getElem?_toArray, hu] at q
      exact (Option.some.inj q).symm
    have ev2 : v2 = u2 := by
      have q : jts.toArray[i]? = some v2 := y2
      rw [List.getElem?_toArray, hu2] at q
      exact (Option.some.inj q).symm
    subst ev1 ev2
    refine ⟨_, rfl, wpAny_letOwnedTupleGo_zip (s := { s with heap := h', toks := tk }) z' fun h'' z'' sb => ?_⟩
    have hT2 : h''.get? s.heap.objs.size = some { cls := .type "tuple", data := .seq #[v1, v2] } := (sb.2 _ (Nat.ne_of_gt lz)).trans hT
    have new : ObjOk X.prog X.w (upd H s.heap.objs.size (.tup [x, y])) h'' s.heap.objs.size (.tup [x, y]) :=
      ⟨(by show 2 ≤ sizeLine; decide), [v1, v2], .cons ru (.cons ru2 .nil), ⟨_, hT2, rfl, _, rfl⟩⟩
    have I1 : Inv X pins σ (upd H s.heap.objs.size (.tup [x, y])) { s with heap := h'', toks := tk } :=
      I.turnedNew (ch := [z, TI, TO, i1, i2]) (fun c o hb q => by
        simp only [List.mem_cons, List.not_mem_nil, or_false, not_or] at hb
        exact (sb.2 c hb.1).trans (hk c o hb.1 hb.2.2.1 hb.2.2.2.1 hb.2.2.2.2 q)) hf (Nat.le_refl _) new
    refine ⟨.ref s.heap.objs.size, _, I1, rfl, ⟨_, x, y, rfl, I.hok.fresh (Nat.le_refl _), rfl, fun l hl => by rw [I.tuple_inj hl hqx]; exact hx, fun l hl => by rw [I.list_inj hl hqy]; exact hy⟩, ⟨z'', ?_, ⟨v1, v2, ?_⟩, ?_, ?_⟩, fun c hcm => ?_⟩
    · exact (sb.2 _ S.TIz).trans (hk _ _ S.TIz S.TITO S.TIi1 S.TIi2 hTI)
    · exact (sb.2 _ S.TOz).trans TO'
    · exact s1.1.at fun o q => (sb.2 _ S.zi1.symm).trans q
    · exact s2.1.at fun o q => (sb.2 _ S.zi2.symm).trans q
    · have lt : c < s.heap.objs.size := by
        simp only [List.mem_cons, List.not_mem_nil, or_false] at hcm
        rcases hcm with rfl | rfl | rfl | rfl | rfl
        · exact lz
        · exact Heap.lt_size hTI
        · exact Heap.lt_size hTO
        · obtain ⟨_, e1, _⟩ := h1; exact Heap.lt_size e1
        · obtain ⟨_, e2, _⟩ := h2; exact Heap.lt_size e2
      rw [upd_ne (Nat.ne_of_lt lt)]
      exact (hf c hcm).1
  done := by
    intro X hP hw hK hc i pins s σ H E I hf st hg
    subst hP hw hK
    obtain ⟨hz, hTI, ⟨x0, y0, hTO⟩, h1, h2⟩ := st
    obtain ⟨xs, ys, hqx, hqy, hend⟩ := hg
    obtain ⟨its, rv, p, _⟩ := I.tuple hqx
    obtain ⟨jts, rv2, p2, _⟩ := I.list hqy
    have l1 := rv.length
    have l2 := rv2.length
    have na : a ≠ i1 := fun q => D.a' (by simp [q])
    have nb : b ≠ i2 := fun q => D.b' (by simp [q])
    have D1 := Draws.tuple (prog := X.prog) (w := X.w) (A := X.A.in1) (I.ok.hd hc) i1 a na its.toArray
    have D2 := Draws.list (prog := X.prog) (w := X.w) (A := X.A.in1) (I.ok.hd hc) i2 b nb jts.toArray
    exact wpAny_pyNext_zipD2_end D.sep D1 D2 hz hTI hTO ⟨h1, p⟩ ⟨h2, p2.isList⟩ (by simp; omega) (by simp; omega) (by simp; omega) fun h' tk hk => ⟨rfl, I.turnedL (t' := tk) (ch := [z, TI, TO, i1, i2]) (fun c o hb q => by
      simp only [List.mem_cons, List.not_mem_nil, or_false, not_or] at hb
      exact hk c o hb.1 hb.2.2.1 hb.2.2.2.1 hb.2.2.2.2 q) hf⟩
  self := fun A i s Q E st h => wpAny_pyIter_zip st.1 h
def iZipM (K : PySem.W.Frag) (ta : TA) : TI := fun σ H R => ta σ H fun vs H1 => ∃ a b xs ys, vs = [.ref a, .ref b] ∧ SqT K H1 a xs ∧ SqL K H1 b ys ∧ R (ItzM K a b) H1
theorem cells_ge {n : Addr} {c : Addr} (h : c ∈ [n + 4, n + 2, n + 3, n, n + 1]) : n ≤ c := by
  simp only [List.mem_cons, List.not_mem_nil, or_false] at h
  rcases h with q | q | q | q | q
  · rw [q]; exact Nat.le_add_right n 4
  · rw [q]; exact Nat.le_add_right n 2
  · rw [q]; exact Nat.le_add_right n 3
  · rw [q]; exact Nat.le_refl n
  · rw [q]; exact Nat.le_add_right n 1
theorem pi_zipM {X : Cx} {e e2 : Expr} {ta : TA} {p pos tpos : Pos} {elts : List Expr} {kk : Nat} (hg : Gl X "zip") (hm : X.mg "zip" = none) (ha : PA X [e, e2] ta)
    (hs : starEach [e, e2] X.env = (false, eval e X.env) :: starEach [e2] X.env := by rfl) (hpl : (backTo pos (starEach [e2] X.env)).any (·.1) = false := by rfl) :
    PI X (.Tuple elts kk tpos) (.Call (.Name "zip" p) [e, e2] [] pos) (iZipM X.K ta) := by
  refine ⟨fun pins s σ H R I h => PyProof.Rows.Call_ (ld_blt I hg hm PyProof.Rows.boot_zip (PyProof.Rows.callWith_type1 (thn (ha.run pos pins s σ H _ I h) fun us s1 ⟨vs, H1, I1, r1, q1⟩ => ?_) hs hpl))⟩
  obtain ⟨a, b, xs, ys, rfl, hqx, hqy, q⟩ := q1
  cases r1 with
  | cons r rr =>
    cases rr with
    | cons r' rr =>
      cases rr
      cases r
      cases r'
      obtain ⟨its, rv, p1, _⟩ := I1.tuple hqx
      obtain ⟨jts, rv2, p2, _⟩ := I1.list hqy
      have la : a < s1.heap.objs.size := by obtain ⟨_, e, _⟩ := id p1; exact Heap.lt_size e
      have lb : b < s1.heap.objs.size := p2.lt
      refine zip_begins2 (begins_tuple a its.toArray) (begins_list b jts.toArray) p1 p2.isList fun h' hz hTI hTO h1 h2 hsz hk => wpAny_pyIter_zip hz ?_
      have I2 : Inv X pins σ H1 { s1 with heap := h' } := I1.kept (t' := s1.toks) hk
      refine ⟨s1.heap.objs.size + 4, [s1.heap.objs.size + 4, s1.heap.objs.size + 2, s1.heap.objs.size + 3, s1.heap.objs.size, s1.heap.objs.size + 1], _, _, H1, rfl, I2, turn_zipM (a := a) (b := b) ⟨by simp, fun q => Nat.lt_irrefl _ (Nat.lt_of_lt_of_le la (cells_ge q)), fun q => Nat.lt_irrefl _ (Nat.lt_of_lt_of_le lb (cells_ge q))⟩, ⟨hz, hTI, ⟨_, _, hTO⟩, ⟨_, h1, rfl, rfl⟩, ⟨_, h2, rfl, rfl⟩⟩, fun c hcm => ?_, q⟩
      have hle := cells_ge hcm
      exact I1.fpOk hle (I1.hok.fresh hle)
section
variable {X : Cx} {m : Nat} {ρ : Rh} {R : Nat → PyData → Prop} {e a b : Expr} {elts : List Expr} {body : List Stmt} {pos zpos p tpos : Pos} {kk : Nat} {ds es its : List PyData}
theorem ds_forZ (n : Nat) (I : Nat → Nat → Rh → Prop) (hp : PassesOwn (model X.prog X.w) X.A X.env X.xe) (hc : X.calm = true) (h1 : PE X a (tP X.K (ρ.map pu) (.tuple ds))) (h2 : PE X b (tVar n)) (hn : ρ[n]? = some (.sh (.list es))) (hd : immAll ds = true) (he : immAll es = true) (h0 : I 0 m ρ)
    (hg : Gl X "zip") (hm : X.mg "zip" = none)
    (hb : ∀ (n m : Nat) (ρ : Rh) (d : PyData), (zipD ds es)[n]? = some d → I n m ρ → ∃ ρ', PG X (.Tuple elts kk tpos) (gSt X.K m ρ ρ' d) ∧ PSs X body (tS X.K m ρ' (I (n + 1)) R))
    (hs1 : starEach [a, b] X.env = (false, eval a X.env) :: starEach [b] X.env := by rfl) (hs2 : starEach [b] X.env = (false, eval b X.env) :: starEach [] X.env := by rfl) (hpl : (backTo zpos (starEach [b] X.env)).any (·.1) = false := by rfl)
    (hs : ∀ x, foldedSetIterable (.Call (.Name "zip" p) [a, b] [] zpos) X.env x = pure x := by intro _; rfl) :
    PS X (.For (.Tuple elts kk tpos) (.Call (.Name "zip" p) [a, b] [] zpos) body [] pos) (tS X.K m ρ (I (zipD ds es).length) R) := by
  have hgt : PG X (.Tuple elts kk tpos) (fun v σ H Q => ∃ n m ρ d ρ', (zipD ds es)[n]? = some d ∧ I n m ρ ∧ PG X (.Tuple elts kk tpos) (gSt X.K m ρ ρ' d) ∧ gSt X.K m ρ ρ' d v σ H Q) := ⟨fun pins s σ H v u Q J r ⟨n, m, ρ, d, ρ', h1, h2, h3, h⟩ => h3.run pins s σ H v u Q J r h⟩
  have hb' : PSs X body (fun D σ H => ∃ n m ρ', PSs X body (tS X.K m ρ' (I (n + 1)) R) ∧ tS X.K m ρ' (I (n + 1)) R D σ H) := ⟨fun pins s σ H D J ⟨n, m, ρ', h1, h⟩ => h1.run pins s σ H D J h⟩
  refine PS.imp (ps_for hp hc (pi_zipM hg hm (pa_cons h1 (pa_cons h2 pa_nil hs2) hs1) hs1 hpl) hgt hb' hs) fun D σ H ⟨Pt, He, A, en, k1, k2⟩ => ?_
  refine ⟨en.envP, fun x H1 B1 s1 ox => ?_⟩
  have en1 := en.same s1
  obtain ⟨v, A1, C, A2, hv, hA, h3, _⟩ := en1.sl.split n _ hn
  cases h3 with
  | sh o dj q =>
    rename_i y B
    have oH := o.kp en1.kp dj
    have oS := o.isS
    obtain ⟨p1, xs, rfl, hp1, ol1, hl1⟩ := ox.tup_inv
    have hB1 := ol1.imm hd
    subst hB1
    obtain ⟨p2, ys, C2, rfl, hp2, ol2, hl2, hBC⟩ := oH.lst_inv
    have hC2 := ol2.imm he
    subst hC2
    refine ⟨_, hv, p1, p2, xs, ys, rfl, hp1, .of hp2, for_core (F := B) I en1 (.refl H1) ?_ (fun H2 k a o' ha hmu ht => ?_) (fun d hd' => ?_) h0 hb k1 k2⟩
    · have sqT : ∀ H2, Kq B H1 H2 → SqT X.K H2 p1 xs := fun H2 kq => SqT.kpM (fun b o e z t => kq b o e (fun y => absurd y z) t) hp1
      have sqL : ∀ H2, Kq B H1 H2 → H2 p2 = some (.lst ys) := fun H2 kq => kq p2 _ hp2 (fun _ => by rw [hBC]; exact List.mem_cons_self) fun z => z
      refine ⟨fun i H2 d2 kq hd2 => ?_, fun H2 kq => ⟨xs, ys, sqT H2 kq, .of (sqL H2 kq), by rw [zipD_length, ol1.length, ol2.length]⟩, by rw [zipD_length, ← ol1.length]; omega⟩
      obtain ⟨x, y, hx, hy, rfl⟩ := zipD_get hd2
      obtain ⟨xv, E1, hxv, ox1, hE1⟩ := ol1.get hx
      obtain ⟨yv, E2, hyv, oy1, hE2⟩ := ol2.get hy
      have z1 : E1 = [] := List.eq_nil_iff_forall_not_mem.mpr fun c hc => by cases hE1 c hc
      have z2 : E2 = [] := List.eq_nil_iff_forall_not_mem.mpr fun c hc => by cases hE2 c hc
      subst z1 z2
      refine ⟨⟨xs, ys, xv, yv, sqT H2 kq, .of (sqL H2 kq), hxv, hyv⟩, fun v H3 ⟨T, x3, y3, e1, e2, e3, e4, e5⟩ => ?_⟩
      subst e1 e3
      have hxx := e4 xs (sqT H2 kq)
      rw [hxv] at hxx; cases hxx
      have hyy := e5 ys (.of (sqL H2 kq))
      rw [hyv] at hyy; cases hyy
      obtain ⟨p1, p2⟩ := seqs_pair e2 (ox1.kq kq fun _ z => by cases z) (oy1.kq kq fun _ z => by cases z)
      exact ⟨p1, _, p2, fun b hb => by simp at hb⟩
    · by_cases hM : LD (some o')
      · have ha2 := hmu hM
        obtain ⟨_, kH⟩ := en1.hid
        cases q2 : He a with
        | none => exact absurd q2 (oS a ha2)
        | some u =>
          have tu : ¬ isT u := ld_not (o.mut a ha2) q2
          have e1 := en1.kp.keep a u q2 (fun z => absurd z (dj a ha2)) fun _ => tu
          rw [ha] at e1; cases e1
          exact k.keep a _ (kH.keep a _ q2 (fun z => absurd z (dj a ha2)) fun _ => tu) (fun z => absurd z (dj a ha2)) fun _ => tu
      · exact en1.kq (F := []) k (.refl H1) (fun _ z => by cases z) a o' ha (fun z => absurd z hM) ht
    · obtain ⟨i, hi⟩ := List.mem_iff_getElem?.mp hd'
      obtain ⟨x, y, hx, hy, rfl⟩ := zipD_get hi
      exact immT (immAll_cons (immAll_iff.mp hd x (List.mem_of_getElem? hx)) (immAll_cons (immAll_iff.mp he y (List.mem_of_getElem? hy)) immAll_nil))
theorem ds_foldZ {α β S : Type} {l : List α} {l2 : List β} {f : α → PyData} {g : β → PyData} {d0 : PyData} (T : List Nat) (n : Nat) (i : Nat) (F : S → PyData) (step : S → α × β → S) (s0 : S) (hp : PassesOwn (model X.prog X.w) X.A X.env X.xe) (hc : X.calm = true)
    (h1 : PE X a (tP X.K ((wipeS ρ T).map pu) (.tuple (l.map f)))) (h2 : PE X b (tVar n)) (hn : (wipeS ρ T)[n]? = some (.sh (.list (l2.map g)))) (hi : immAll (l.map f) = true ∧ immAll (l2.map g) = true)
    (h0 : (wipeS ρ T)[i]? = some (.ow d0)) (hd0 : d0 = F s0) (hg : Gl X "zip") (hm : X.mg "zip" = none)
    (hb : ∀ (pre : List (α × β)) (q : α × β) (post : List (α × β)), l.zip l2 = pre ++ q :: post → ∃ ρ', PG X (.Tuple elts kk tpos) (gSt X.K m ((wipeS ρ T).set i (.ow (F (pre.foldl step s0)))) ρ' (.tuple [f q.1, g q.2])) ∧
      PSs X body (tS X.K m ρ' (fun m1 ρ1 => m1 = m ∧ ∃ d, ρ1 = (wipeS ρ T).set i (.ow d) ∧ d = F (step (pre.foldl step s0) q)) R))
    (hs1 : starEach [a, b] X.env = (false, eval a X.env) :: starEach [b] X.env := by rfl) (hs2 : starEach [b] X.env = (false, eval b X.env) :: starEach [] X.env := by rfl) (hpl : (backTo zpos (starEach [b] X.env)).any (·.1) = false := by rfl)
    (hs : ∀ x, foldedSetIterable (.Call (.Name "zip" p) [a, b] [] zpos) X.env x = pure x := by intro _; rfl) :
    PS X (.For (.Tuple elts kk tpos) (.Call (.Name "zip" p) [a, b] [] zpos) body [] pos) (tS X.K m ρ (fun m1 ρ1 => m1 = m ∧ ρ1 = (wipeS ρ T).set i (.ow (F ((l.zip l2).foldl step s0)))) R) := by
  subst hd0
  refine PS.wk (Le.wipe ρ T) (PS.post (ds_forZ (ρ := wipeS ρ T) (m := m) n (fun n m1 ρ1 => m1 = m ∧ ρ1 = (wipeS ρ T).set i (.ow (F (((l.zip l2).take n).foldl step s0)))) hp hc h1 h2 hn hi.1 hi.2 ⟨rfl, (set_here h0).symm⟩ hg hm ?_ hs1 hs2 hpl hs) ?_)
  · rintro n _ _ d hd ⟨rfl, rfl⟩
    rw [zipD_map, List.getElem?_map] at hd
    cases q : (l.zip l2)[n]? with
    | none => rw [q] at hd; cases hd
    | some a =>
      rw [q] at hd
      cases hd
      obtain ⟨ρ', g1, g2⟩ := hb ((l.zip l2).take n) a ((l.zip l2).drop (n + 1)) (take_pre q)
      refine ⟨ρ', g1, pss_mono g2 (fun m1 ρ1 ⟨e1, d, e2, e3⟩ => ⟨e1, ?_⟩) fun _ _ z => z⟩
      rw [e2, e3, take_succ' q, List.foldl_append]
      rfl
  · rintro m1 ρ1 ⟨e1, e2⟩
    refine ⟨e1, ?_⟩
    rw [e2, zipD_map, List.length_map, List.take_length]
end
end DL
end
section
set_option Elab.async false
set_option linter.all false
set_option maxRecDepth 100000
set_option maxHeartbeats 4000000
namespace DL
open PySem PySem.Spec L2
section
variable {X : Cx} {m : Nat} {ρ : Rh} {R : Nat → PyData → Prop} {e : Expr} {pos : Pos} {d : PyData}
theorem ds_expr (he : PE X e (tP X.K (ρ.map pu) d)) (hs : swapsWith e none pos.line X.env = pure false := by rfl) :
    PS X (.Expr e pos) (tS X.K m ρ (fun m1 ρ1 => m1 = m ∧ ρ1 = ρ) R) :=
  PS.imp (ps_expr he hs) fun D σ H ⟨Pt, He, A, en, k1, _⟩ => ⟨en.envP, fun x H' B s o => k1 He σ H' m ρ A (.refl _) (en.same s) ⟨rfl, rfl⟩⟩
end
end DL
end
section
set_option Elab.async false
set_option linter.all false
set_option maxRecDepth 100000
set_option maxHeartbeats 4000000
namespace DL
open PySem PySem.Spec L2
section
variable {K : PySem.W.Frag} {Pt : Ef} {m m' : Nat} {He H H' : Hp} {σ : St} {ρ : Rh} {A : List Addr}
theorem Env.potted (e : Env K Pt m He H σ ρ A) (k : Ke Pt H H') (p : PotAt Pt m' H') : Env K Pt m' He H' σ ρ A := by
  refine ⟨e.sl.stay (fun b o h z y => k.keep b o h (fun _ => z) fun _ => y) fun b hb o h => ?_, e.nd, e.fr, e.dj, e.kp.trans k, p⟩
  exact k.keep b o h (fun z => absurd z (e.dj b hb)) fun _ => ld_not (e.sl.isS b hb) h
theorem IsPot.mono {p g : Addr} (h : IsPot H p g m) (l : m' ≤ m) : IsPot H p g m' := by
  obtain ⟨gs, st, tn, h1, h2, h3, h4, h5, h6, h7, h8⟩ := h.ex
  exact ⟨gs, st, tn, h1, h2, h3, h4, h5, h6, h7, by omega⟩
theorem PotAt.mono (h : PotAt Pt m H) (l : m' ≤ m) : PotAt Pt m' H := ⟨fun p g e => (h.pot p g e).mono l, h.tab⟩
theorem Env.less (e : Env K Pt m He H σ ρ A) (l : m' ≤ m) : Env K Pt m' He H σ ρ A := ⟨e.sl, e.nd, e.fr, e.dj, e.kp, e.pt.mono l⟩
end
def tEs (K : PySem.W.Frag) (m : Nat) (ρ : Rh) (m' : Nat) (P : List PyData → Prop) : TA := fun σ H Q => ∃ Pt He A, Env K Pt m He H σ ρ A ∧
  ∀ xs H' ds B, P ds → Env K Pt m' He H' σ ρ A → Ke Pt H H' → OwnL K H' xs ds B → B.Nodup → (∀ b ∈ B, H b = none) → Q xs H'
section
variable {X : Cx} {m m1 m' : Nat} {ρ : Rh} {R : Nat → PyData → Prop} {e : Expr} {es : List Expr} {pos : Pos} {d : PyData} {P P' : PyData → Prop} {Ps Ps' : List PyData → Prop}
theorem e_pure (h : PE X e (tF X.K (ρ.map pu) d)) : PE X e (tE X.K m ρ m (· = d)) := PE.imp h fun _ H Q ⟨Pt, He, A, en, k⟩ => ⟨en.envP, fun x H' B s o n f => k x H' d B rfl (en.same s) (.of_same s) o n f⟩
theorem e_imp (h : PE X e (tE X.K m ρ m1 P)) (hP : ∀ d, P d → P' d) (l : m' ≤ m1) : PE X e (tE X.K m ρ m' P') := PE.imp h fun _ H Q ⟨Pt, He, A, en, k⟩ => ⟨Pt, He, A, en, fun x H' d B p en' kp o n f => k x H' d B (hP d p) (en'.less l) kp o n f⟩
theorem es_imp (h : PA X es (tEs X.K m ρ m1 Ps)) (hP : ∀ d, Ps d → Ps' d) (l : m' ≤ m1) : PA X es (tEs X.K m ρ m' Ps') := PA.imp h fun _ H Q ⟨Pt, He, A, en, k⟩ => ⟨Pt, He, A, en, fun x H' d B p en' kp o n f => k x H' d B (hP d p) (en'.less l) kp o n f⟩
theorem es_nil : PA X [] (tEs X.K m ρ m (· = [])) := PA.imp pa_nil fun _ H Q ⟨Pt, He, A, en, k⟩ => k [] H [] [] rfl en (.refl H) .nil List.nodup_nil fun _ q => by cases q
def AndThen (P : PyData → Prop) (Ps : List PyData → Prop) : List PyData → Prop
  | [] => False
  | d :: ds => P d ∧ Ps ds
theorem es_cons (h : PE X e (tE X.K m ρ m1 P)) (hs : PA X es (tEs X.K m1 ρ m' Ps)) (hq : starEach (e :: es) X.env = (false, eval e X.env) :: starEach es X.env := by rfl) : PA X (e :: es) (tEs X.K m ρ m' (AndThen P Ps)) :=
  PA.imp (pa_cons h hs hq) fun σ H Q ⟨Pt, He, A, en, k⟩ => ⟨Pt, He, A, en, fun x H1 d B p en1 k1 o n f => ⟨Pt, He, A, en1, fun xs H2 ds C ps en2 k2 ol n2 f2 => by
    have out : ∀ b ∈ B, b ∉ ptA Pt := fun b hb z => en.pt.some b z (f b hb)
    refine k (x :: xs) H2 (d :: ds) (B ++ C) ⟨p, ps⟩ en2 (k1.trans k2) (.cons (o.kp k2 out) ol) (List.nodup_append.mpr ⟨n, n2, fun a ha b hb z => o.isS a ha (by rw [z]; exact f2 b hb)⟩) fun b hb => ?_
    rcases List.mem_append.mp hb with q | q
    · exact f b q
    · exact k1.dom b (f2 b q)⟩⟩
theorem e_tup {kk : Nat} (h : PA X es (tEs X.K m ρ m' Ps)) (hz : ∀ ds, Ps ds → ds.length ≤ sizeLine) : PE X (.Tuple es kk pos) (tE X.K m ρ m' (fun d => ∃ ds, d = .tuple ds ∧ Ps ds)) :=
  PE.imp (pe_tup h) fun σ H Q ⟨Pt, He, A, en, k⟩ => ⟨Pt, He, A, en, fun xs H1 ds B p en1 k1 o n f => by
    have z : xs.length ≤ sizeLine := by rw [o.length]; exact hz ds p
    refine ⟨z, fun q hq => k _ _ _ B ⟨ds, rfl, p⟩ (en1.same (same_new hq)) (k1.trans (.of_same (same_new hq))) (.tup (.of upd_same) z (o.same (same_new hq))) n f⟩⟩
theorem e_lst (h : PA X es (tEs X.K m ρ m' Ps)) (hz : ∀ ds, Ps ds → ds.length ≤ sizeLine) : PE X (.List es pos) (tE X.K m ρ m' (fun d => ∃ ds, d = .list ds ∧ Ps ds)) :=
  PE.imp (pe_lst h) fun σ H Q ⟨Pt, He, A, en, k⟩ => ⟨Pt, He, A, en, fun xs H1 ds B p en1 k1 o n f => by
    have z : xs.length ≤ sizeLine := by rw [o.length]; exact hz ds p
    refine ⟨z, fun q hq => k _ _ _ (q :: B) ⟨ds, rfl, p⟩ (en1.same (same_new hq)) (k1.trans (.of_same (same_new hq))) (.lst upd_same z (o.same (same_new hq))) (List.nodup_cons.mpr ⟨fun y => o.isS q y hq, n⟩) fun b hb => ?_⟩
    rcases List.mem_cons.mp hb with rfl | hb
    · exact k1.dom _ hq
    · exact f b hb⟩
theorem ds_setE (i : Nat) {x : Str} {pos' : Pos} (hN : X.N.Nodup) (hi : X.N[i]? = some x) (hx : Loc X.env.scope x) (he : PE X e (tE X.K m ρ m' P)) (hil : i < ρ.length := by (first | exact Nat.le_of_ble_eq_true rfl | decide | simp))
    (hs : swapsWith e (some (.Name x pos')) pos.line X.env = pure false := by rfl) (hf : X.fn x = true ∨ X.env.scope.names.lookup x = some .local := by first | exact .inl rfl | exact .inr rfl | assumption) :
    PS X (.Assign [.Name x pos'] e pos) (tS X.K m ρ (fun m1 ρ1 => ∃ d, P d ∧ m1 = m' ∧ ρ1 = ρ.set i (.ow d)) R) :=
  PS.imp (ps_set hN hi hx he hs hf) fun D σ H ⟨Pt, He, A, en, k1, _⟩ => ⟨Pt, He, A, en, fun x H' d B p en' kp o nd f => by
    have fr : ∀ b ∈ B, b ∉ A := fun b hb z => mut_some (en.sl.isS b z) (f b hb)
    obtain ⟨v, A1, C, A2, h1, hA, h3, h4⟩ := en'.sl.split i ρ[i] (by simp [hil])
    have hsl := h4 (some x) (.ow d) B (by have := Slots.ow (K := X.K) (Pt := Pt) (He := He) o Slots.nil; rwa [List.append_nil] at this)
    have eA := en'.nd
    rw [hA] at eA
    have hin : ∀ a ∈ A1 ++ B ++ A2, a ∈ B ∨ a ∈ A := fun a ha => by
      rcases List.mem_append.mp ha with ha | ha
      · rcases List.mem_append.mp ha with ha | ha
        · exact .inr (by rw [hA]; exact List.mem_append_left _ (List.mem_append_left _ ha))
        · exact .inl ha
      · exact .inr (by rw [hA]; exact List.mem_append_right _ ha)
    refine k1 He _ H' m' _ (A1 ++ B ++ A2) (.refl _) ⟨hsl, nodup_mid eA nd (fun b hb z => fr b hb (by rw [hA]; exact mem_mid z)), fun a ha => ?_, fun a ha z => ?_, en'.kp, en'.pt⟩ ⟨d, p, rfl, rfl⟩
    · rcases hin a ha with q | q
      · exact en.kp.dom a (f a q)
      · exact en.fr a q
    · rcases hin a ha with q | q
      · exact en.pt.some a z (f a q)
      · exact en.dj a q z⟩
theorem ds_retE (he : PE X e (tE X.K m ρ m' P)) (h : ∀ d, P d → R m' d) {N : Nat → Rh → Prop} : PS X (.Return (some e) pos) (tS X.K m ρ N R) :=
  PS.imp (ps_ret he) fun D σ H ⟨Pt, He, A, en, _, k2⟩ => ⟨Pt, He, A, en, fun x H' d B p en' kp o nd f => k2 x H' m' d B en'.kp en'.pt o nd (fun b hb => en.kp.dom b (f b hb)) (h d p)⟩
end
end DL
end
section
set_option Elab.async false
set_option linter.all false
set_option maxRecDepth 100000
set_option maxHeartbeats 4000000
namespace DL
open PySem PySem.Spec L2
def spE (K : PySem.W.Frag) (Tn : Ef → Prop) (Pre : List PyData → Nat → Prop) (Post : List PyData → PyData → Prop) : Sp := fun vs H Q _ => ∃ (Pt : Ef) (p g : Addr) (m c : Nat) (ds : List PyData) (C : List Addr) (xs : List V),
  Pt.pot = some (p, g) ∧ Tn Pt ∧ vs = .ref p :: xs ∧ PotAt Pt (m + c) H ∧ Pre ds c ∧ OwnL K H xs ds C ∧ (∀ b ∈ C, b ∉ ptA Pt) ∧
  ∀ x H' d B, Post ds d → Ke Pt H H' → PotAt Pt m H' → Own K H' x d B → B.Nodup → (∀ b ∈ B, H b = none) → Q x H'
structure FuE (P : Program) (w : World) (K : PySem.W.Frag) (mg : Str → Option Value) (base : Heap) (x : Str) (ps : List Str) (k : Nat) (Pre : List PyData → Nat → Prop) (Post : List PyData → PyData → Prop) : Prop where
  ex : ∃ f fd, At K mg x f fd ps ∧ FnOk P w K mg base CX0 k f fd ps (spE K (fun _ => True) Pre Post)
section
variable {X : Cx} {m m1 m' c i : Nat} {ρ : Rh} {e pe : Expr} {es : List Expr} {pos p : Pos} {P : PyData → Prop} {Ps : List PyData → Prop} {Pre : List PyData → Nat → Prop} {Post : List PyData → PyData → Prop} {x : Str} {ps : List Str} {k : Nat}
theorem e_callE (F : FuE X.prog X.w X.K X.mg X.base x ps k Pre Post) (hr : Room k X.A) (hv : PE X pe (tVar i)) (hi : ρ[i]? = some .pot) (ha : PA X es (tEs X.K m ρ m1 Ps)) (hm : m1 = m' + c) (hPre : ∀ ds, Ps ds → Pre ds c) (hPost : ∀ ds d, Ps ds → Post ds d → P d)
    (hg : Gl X x := by rfl) (hdb : (x == ("__debug__" : Str)) = false := by decide)
    (he : starEach (pe :: es) X.env = (false, eval pe X.env) :: starEach es X.env := by rfl) (hpl : (backTo pos (starEach es X.env)).any (·.1) = false := by rfl) : PE X (.Call (.Name x p) (pe :: es) [] pos) (tE X.K m ρ m' P) := by
  obtain ⟨f, fd, At', G⟩ := F.ex
  subst hm
  refine PE.imp (pe_call G hr hg At'.gl At'.kp At'.bd .nil pass0 (pa_cons hv ha he) hdb he hpl) fun σ H Q ⟨Pt, He, A, en, kq⟩ => ?_
  obtain ⟨v, A1, C, A2, h1, hA, h3, _⟩ := en.sl.split i _ hi
  cases h3 with
  | pot hp q =>
    rename_i p0 g0
    refine ⟨_, h1, Pt, He, A, en, fun xs H1 ds B hps en1 k1 ol n f => ?_⟩
    refine ⟨Pt, p0, g0, m', c, ds, B, xs, hp, trivial, by rw [List.append_nil], en1.pt, hPre ds hps, ol, fun b hb z => en.pt.some b z (f b hb), fun y H2 d D hpost k2 pt2 o2 n2 f2 => ?_⟩
    exact kq y H2 d D (hPost ds d hps hpost) (en1.potted k2 pt2) (k1.trans k2) o2 n2 fun b hb => k1.dom b (f2 b hb)
end
section
variable {P : Program} {w : World} {K : PySem.W.Frag} {mg : Str → Option Value} {base : Heap}
theorem slots_sh {Pt : Ef} {He H : Hp} : ∀ {vs : List V} {ds : List PyData} {B : List Addr} (k : Nat), OwnL K He vs ds B → (∀ b ∈ B, b ∉ ptA Pt) → Slots K Pt He H (vs.map some ++ List.replicate k none) (ds.map .sh ++ List.replicate k .un) []
  | _, _, _, k, .nil, _ => by
    induction k with
    | zero => exact .nil
    | succ k ih => exact .un ih
  | _, _, _, k, .cons o l, h => .sh o (fun b hb => h b (List.mem_append_left _ hb)) (slots_sh k l fun b hb => h b (List.mem_append_right _ hb))
theorem fn_pot {x qual : Str} {st : Stmt} {f : Addr} {fd : FuncData} {N ps : List Str} {k : Nat} {Pre : List PyData → Nat → Prop} {Post : List PyData → PyData → Prop} (F : Fun K x qual st f fd) (Sc : FnScope N ps (defScope st)) (hl : ∀ ds c, Pre ds c → ds.length + 1 = ps.length)
    (hb : ∀ (cdv : Value) (A : Around) (outer : List PySem.Env) (s : Shared) (H : Hp) (E : XK), Room k (A.deeper (PyProof.Rows.envOfC qual (defScope st) s.heap.objs.size f cdv)) → ∀ m ds c, Pre ds c →
      PSs (cxOf CX0 P w K mg base N qual (defScope st) f cdv A outer s H E).nox (defBody st) (tS K (m + c) (.pot :: ent (N.length - 1) ds) (fun m' _ => m ≤ m' ∧ Post ds .none) (fun m' d' => m ≤ m' ∧ Post ds d'))) : FnOk P w K mg base CX0 (k + 1) f fd ps (spE K (fun _ => True) Pre Post) := by
  refine F.ok Sc (fun vs H Q E ⟨Pt, p, g, m, c, ds, C, xs, hp, _, hv, pt, hpre, ol, _⟩ => by rw [hv, List.length_cons, ol.length]; exact hl ds c hpre) fun cdv A outer s H vs Q E hr ⟨Pt, p, g, m, c, ds, C, xs, hp, _, hv, pt, hpre, ol, dj, q⟩ => ?_
  subst hv
  refine ⟨_, hb cdv A outer s H E hr m ds c hpre, Pt, H, [], ⟨?_, List.nodup_nil, (fun _ z => by cases z), (fun _ z => by cases z), .refl H, pt⟩, ?_, ?_⟩
  · unfold L2.start ent
    have e : N.length - (V.ref p :: xs).length = N.length - 1 - ds.length := by rw [List.length_cons, ol.length]; omega
    rw [List.map_cons, List.cons_append, e]
    exact .pot hp (slots_sh _ ol dj)
  · intro He' σ' H' m' ρ' A' kk en ⟨l, n⟩
    exact q .non H' .none [] n (kk.trans en.kp) (en.pt.mono l) .non List.nodup_nil fun _ z => by cases z
  · intro y H' m' d' B kk pt' o n f ⟨l, r⟩
    exact q y H' d' B r kk (pt'.mono l) o n f
end
end DL
end
section
set_option Elab.async false
set_option linter.all false
set_option maxRecDepth 100000
set_option maxHeartbeats 4000000
namespace DL
open PySem PySem.Spec L2
section
variable {K : PySem.W.Frag} {Pt : Ef} {m : Nat} {He H : Hp} {σ : St} {ρ : Rh} {A : List Addr}
theorem Env.holds (e : Env K Pt m He H σ ρ A) {n : Nat} {d : PyData} (h : ρ[n]? = some (.sh d) ∨ ρ[n]? = some (.ow d)) : ∃ x B, σ[n]? = some (some x) ∧ Own K H x d B := by
  rcases h with h | h
  · obtain ⟨v, A1, C, A2, h1, hA, h3, _⟩ := e.sl.split n _ h
    cases h3 with
    | sh o dj q => exact ⟨_, _, h1, o.kp e.kp dj⟩
  · obtain ⟨v, A1, C, A2, h1, hA, h3, _⟩ := e.sl.split n _ h
    cases h3 with
    | ow o q => exact ⟨_, _, h1, o⟩
end
section
variable {X : Cx} {m m1 m' : Nat} {ρ : Rh} {a b e : Expr} {pos : Pos} {l : List PyData} {P Q : PyData → Prop}
theorem e_ixL (n : Nat) (ha : PE X a (tVar n)) (hn : ρ[n]? = some (.sh (.list l)) ∨ ρ[n]? = some (.ow (.list l))) (hb : PE X b (tE X.K m ρ m' P)) (hP : ∀ d, P d → ∃ i : Int, d = .int i ∧ 0 ≤ i ∧ i < l.length) (hi : immAll l = true) (hs : PlainIx b := by exact fun _ _ => rfl) :
    PE X (.Subscript a b pos) (tE X.K m ρ m' (· ∈ l)) :=
  PE.imp (pe_ix ix_list ha hb hs) fun σ H Q ⟨Pt, He, A, en, k⟩ => by
    obtain ⟨x, B, hx, _⟩ := en.holds hn
    refine ⟨x, hx, Pt, He, A, en, fun y H2 d C p en2 k2 o n2 f2 => ?_⟩
    obtain ⟨i, rfl, i0, i1⟩ := hP d p
    obtain ⟨x', B', hx', o'⟩ := en2.holds hn
    rw [hx] at hx'; cases hx'
    obtain ⟨q, xs, E, rfl, hq, ol, hz, rfl⟩ := o'.lst_inv
    have hE := ol.imm hi
    subst hE
    have hl : i.toNat < l.length := by omega
    obtain ⟨v, D, hv, ov, hD⟩ := ol.get (i := i.toNat) (d := l[i.toNat]) (by simp [hl])
    have hD0 : D = [] := List.eq_nil_iff_forall_not_mem.mpr fun c hc => by cases hD c hc
    subst hD0
    have hii : i = ((i.toNat : Nat) : Int) := by omega
    refine ⟨q, xs, i, v, rfl, o.int_inv, .of hq, by rw [hii]; exact atI_nat hv, k v H2 _ [] (List.getElem_mem hl) en2 k2 ov List.nodup_nil fun _ z => by cases z⟩
end
end DL
end
section
set_option Elab.async false
set_option linter.all false
set_option maxRecDepth 100000
set_option maxHeartbeats 4000000
namespace DL
open PySem PySem.Spec L2
section
variable {K : PySem.W.Frag} {Pt : Ef} {m : Nat} {He H : Hp}
theorem Slots.off : ∀ {σ : St} {ρ : Rh} {A : List Addr}, Slots K Pt He H σ ρ A → ∀ n : Nat, ∃ A', Slots K Pt He H (σ.set n none) (ρ.set n .un) A' ∧ List.Sublist A' A
  | _, _, _, .nil, n => ⟨[], by simpa using Slots.nil, .slnil⟩
  | _, _, _, .un s, 0 => ⟨_, .un s, List.Sublist.refl _⟩
  | _, _, _, .ow (B := B) o s, 0 => ⟨_, .un s, List.sublist_append_right B _⟩
  | _, _, _, .sh o d s, 0 => ⟨_, .un s, List.Sublist.refl _⟩
  | _, _, _, .pot e s, 0 => ⟨_, .un s, List.Sublist.refl _⟩
  | _, _, _, .tb e s, 0 => ⟨_, .un s, List.Sublist.refl _⟩
  | _, _, _, .un s, n + 1 => let ⟨A', h1, h2⟩ := Slots.off s n; ⟨A', .un h1, h2⟩
  | _, _, _, .ow (B := B) o s, n + 1 => let ⟨A', h1, h2⟩ := Slots.off s n; ⟨B ++ A', .ow o h1, List.Sublist.append (List.Sublist.refl B) h2⟩
  | _, _, _, .sh o d s, n + 1 => let ⟨A', h1, h2⟩ := Slots.off s n; ⟨A', .sh o d h1, h2⟩
  | _, _, _, .pot e s, n + 1 => let ⟨A', h1, h2⟩ := Slots.off s n; ⟨A', .pot e h1, h2⟩
  | _, _, _, .tb e s, n + 1 => let ⟨A', h1, h2⟩ := Slots.off s n; ⟨A', .tb e h1, h2⟩
theorem Env.off {σ : St} {ρ : Rh} {A : List Addr} (e : Env K Pt m He H σ ρ A) : ∀ T : List Nat, ∃ A', Env K Pt m He H (wipe σ T) (wipeS ρ T) A' ∧ List.Sublist A' A
  | [] => ⟨A, e, List.Sublist.refl A⟩
  | v :: T => by
    obtain ⟨A1, e1, s1⟩ := Env.off e T
    obtain ⟨A2, h1, h2⟩ := e1.sl.off v
    exact ⟨A2, ⟨h1, e1.nd.sublist h2, fun a ha => e1.fr a (h2.subset ha), fun a ha => e1.dj a (h2.subset ha), e1.kp, e1.pt⟩, h2.trans s1⟩
end
def gSw (K : PySem.W.Frag) (m : Nat) (ρ ρ' : Rh) (d : PyData) (T : List Nat) : TG := fun v σ H Q => ∃ Pt He A, Env K Pt m He H σ ρ A ∧ Own K H v d [] ∧ ∀ σ' A', Env K Pt m He H σ' ρ' A' → wipe σ' T = wipe σ T → Q σ' H
section
variable {X : Cx} {m c : Nat} {ρ : Rh} {e tg iter elt : Expr} {pos : Pos} {d : PyData}
theorem gsw_name {n : Nat} {T : List Nat} (h : PG X e (gName n)) (hT : n ∈ T := by decide) (hn : n < ρ.length := by (first | exact Nat.le_of_ble_eq_true rfl | decide | simp)) : PG X e (gSw X.K m ρ (ρ.set n (.ow d)) d T) :=
  PG.imp h fun v σ H Q ⟨Pt, He, A, en, o, k⟩ => by
    obtain ⟨A', e'⟩ := en.set (Same.refl H) hn o List.nodup_nil (fun _ q => by cases q)
    exact k _ A' e' (set_wipe hT)
theorem e_lc {α : Type} {l : List α} {f : α → PyData} {P : α → PyData → Prop} {ρ' : α → Rh} {own : List (Str × Nat)} {scope : Scope}
    (hc : X.calm = true) (hN : X.N.Nodup) (hi : PI X tg iter (tIF X.K (ρ.map pu) (l.map f))) (hm : ∀ a ∈ l, imm (f a) = true) (ok : BlkOk X.N X.env.scope scope own)
    (hg : ∀ (s : Shared) (H : Hp) (C : Addr) (cl : List (Str × Addr)) (fp : List Addr) (mm : Nat), ∀ a ∈ l, PG (X.blk s H scope (compEnvC scope cl C X.env) fp) tg (gSw X.K mm (wipeS ρ (own.map (·.2))) (ρ' a) (f a) (own.map (·.2))))
    (he : ∀ (s : Shared) (H : Hp) (C : Addr) (cl : List (Str × Addr)) (fp : List Addr) (mm : Nat), ∀ a ∈ l, PE (X.blk s H scope (compEnvC scope cl C X.env) fp) elt (tE X.K (mm + c) (ρ' a) mm (P a)))
    (hs : ∀ x, foldedSetIterable iter X.env x = pure x := by intro _; rfl) :
    PE X (.ListComp elt [⟨tg, iter, [], 0⟩] scope pos) (tE X.K (m + l.length * c) ρ m (fun d => ∃ ds : List PyData, d = .list ds ∧ ds.length = l.length ∧ ∀ (i : Nat) (a : α) (d : PyData), l[i]? = some a → ds[i]? = some d → P a d)) := by
  have hg' : ∀ (s : Shared) (H : Hp) (C : Addr) (cl : List (Str × Addr)) (fp : List Addr), PG (X.blk s H scope (compEnvC scope cl C X.env) fp) tg (fun v σ H Q => ∃ mm a, a ∈ l ∧ gSw X.K mm (wipeS ρ (own.map (·.2))) (ρ' a) (f a) (own.map (·.2)) v σ H Q) :=
    fun s H C cl fp => ⟨fun pins s' σ H' v u Q I rv ⟨mm, a, ha, h⟩ => (hg s H C cl fp mm a ha).run pins s' σ H' v u Q I rv h⟩
  have ht' : ∀ (s : Shared) (H : Hp) (C : Addr) (cl : List (Str × Addr)) (fp : List Addr), PTs (X.blk s H scope (compEnvC scope cl C X.env) fp) [] (fun σ H Q => Q true H) :=
    fun s H C cl fp => ⟨fun pins s' σ H' Q I h => pts_nil.run pins s' σ H' Q I h⟩
  have he' : ∀ (s : Shared) (H : Hp) (C : Addr) (cl : List (Str × Addr)) (fp : List Addr), PE (X.blk s H scope (compEnvC scope cl C X.env) fp) elt (fun σ H Q => ∃ mm a, a ∈ l ∧ tE X.K (mm + c) (ρ' a) mm (P a) σ H Q) :=
    fun s H C cl fp => ⟨fun pins s' σ H' Q I ⟨mm, a, ha, h⟩ => (he s H C cl fp mm a ha).run pins s' σ H' Q I h⟩
  refine PE.imp (pe_lc hc hN hi ok hg' ht' he' hs) fun σ H Q ⟨Pt, He, A, en, k⟩ => ⟨en.envP, fun J H1 F s1 sq fF _ D hD => ?_⟩
  have hlen : (l.map f).length = l.length := List.length_map _
  have hsz : l.length ≤ sizeLine := by rw [← hlen]; exact sq.size
  have en1 := en.same s1
  have potNe : ∀ a ∈ ptA Pt, H1 a ≠ none := en1.pt.some
  have kqOf : ∀ H2, Ke Pt H1 H2 → Kq F H1 H2 := fun H2 k a o h n t => k.keep a o h (fun z hM => en.pt.some a z (fF a (n hM))) fun _ => t
  refine ⟨fun i n H2 => n = l.length - i ∧ i ≤ l.length ∧ Ke Pt H1 H2 ∧ PotAt Pt (m + (l.length - i) * c) H2 ∧ ∃ (acc : List V) (ds : List PyData) (B : List Addr), H2 D = some (.lst acc) ∧ OwnL X.K H2 acc ds B ∧ B.Nodup ∧ (∀ b ∈ B, H1 b = none) ∧ D ∉ B ∧ ds.length = i ∧ ∀ (j : Nat) (a : α) (d : PyData), l[j]? = some a → ds[j]? = some d → P a d,
    ⟨l.length, by simp, Nat.zero_le _, .of_same (same_new hD), en1.pt.same (same_new hD), [], [], [], upd_same, .nil, List.nodup_nil, (fun _ z => by cases z), List.not_mem_nil, rfl, fun j a d _ h => by simp at h⟩, ?_⟩
  rintro i n H2 ⟨rfl, hile, k2, pt2, acc, ds, B, hacc, oB, nB, fB, dB, lB, pB⟩
  have outB : ∀ b ∈ B, b ∉ ptA Pt := fun b hb z => potNe b z (fB b hb)
  have outD : D ∉ ptA Pt := fun z => potNe D z hD
  by_cases hlt : i < l.length
  · refine .inr ?_
    have hia : l[i]? = some l[i] := by simp [hlt]
    have hid : (l.map f)[i]? = some (f l[i]) := by rw [List.getElem?_map, hia]; rfl
    have hal : l[i] ∈ l := List.getElem_mem hlt
    obtain ⟨go, yl⟩ := sq.go i H2 _ (kqOf H2 k2) hid
    have hbud : m + (l.length - i) * c = (m + (l.length - (i + 1)) * c) + c := by
      have : l.length - i = (l.length - (i + 1)) + 1 := by omega
      rw [this, Nat.add_mul]; omega
    refine ⟨go, fun H' => i + 1 ≤ l.length ∧ Ke Pt H1 H' ∧ PotAt Pt (m + (l.length - (i + 1)) * c) H' ∧ ∃ (acc : List V) (ds : List PyData) (B : List Addr), H' D = some (.lst acc) ∧ OwnL X.K H' acc ds B ∧ B.Nodup ∧ (∀ b ∈ B, H1 b = none) ∧ D ∉ B ∧ ds.length = i + 1 ∧ ∀ (j : Nat) (a : α) (d : PyData), l[j]? = some a → ds[j]? = some d → P a d,
      fun H' h' => ⟨l.length - (i + 1), by omega, rfl, h'⟩, fun x H3 y3 => ?_⟩
    obtain ⟨s3, Bx, ox, _⟩ := yl x H3 y3
    have hBx := ox.imm (hm _ hal)
    subst hBx
    have en3 := (en1.potted k2 pt2).same s3
    obtain ⟨A4, en4, _⟩ := en3.off (own.map (·.2))
    refine ⟨m + (l.length - i) * c, l[i], hal, Pt, He, A4, en4, ox, fun σ5 A5 en5 w5 => ⟨w5.trans (wipe_wipe _ _), iteT ⟨m + (l.length - (i + 1)) * c, l[i], hal, Pt, He, A5, by rw [← hbud]; exact en5, fun y H6 d6 C p6 en6 k6 oy nC fC => ?_⟩⟩⟩
    have hD3 : H3 D = some (.lst acc) := s3 _ _ hacc
    have hD6 : H6 D = some (.lst acc) := k6.keep _ _ hD3 (fun z => absurd z outD) fun _ z => z
    have dC : D ∉ C := fun z => by
      have := fC D z
      rw [hD3] at this; cases this
    have oB6 := (oB.same s3).kp k6 outB
    have kp : Kp [D] false H6 (upd H6 D (.lst (acc ++ [y]))) := Kp.upd (by simp) hD6 trivial
    have n1 : ∀ b ∈ B ++ C, b ∉ [D] := fun b hb z => by
      have e : b = D := by simpa using z
      subst e
      rcases List.mem_append.mp hb with hb | hb
      · exact dB hb
      · exact dC hb
    have la : acc.length = i := by rw [oB.length]; exact lB
    refine ⟨acc, hD6, by omega, hlt, ?_, en6.pt.kept kp (fun a ha z => outD (by simpa using (show a = D by simpa using ha) ▸ z)), acc ++ [y], ds ++ [d6], B ++ C, upd_same, (oB6.append (OwnL.single oy)).kp kp n1, ?_, ?_, fun z => n1 D z (by simp), by rw [List.length_append, lB]; rfl, ?_⟩
    · refine ⟨fun b o hb n t => ?_, fun b hb => ?_⟩
      · have hbD : b ≠ D := ne_of_none hb hD
        rw [upd_ne hbD]
        exact ((k2.trans (.of_same s3)).trans k6).keep b o hb n t
      · by_cases hbD : b = D
        · rw [hbD]; exact hD
        · rw [upd_ne hbD] at hb
          exact ((k2.trans (.of_same s3)).trans k6).dom b hb
    · exact List.nodup_append.mpr ⟨nB, nC, fun b hb c' hc' z => by
        have h2 := (oB.same s3).isS b hb
        rw [z] at h2
        exact h2 (fC c' hc')⟩
    · intro b hb
      rcases List.mem_append.mp hb with hb | hb
      · exact fB b hb
      · exact (k2.trans (.of_same s3)).dom b (fC b hb)
    · intro j a d hj hd
      by_cases hji : j < i
      · rw [List.getElem?_append_left (by omega)] at hd
        exact pB j a d hj hd
      · rw [List.getElem?_append_right (by omega)] at hd
        have hj' : j = i := by
          have := (List.getElem?_eq_some_iff.mp hd).1
          simp at this
          omega
        subst hj'
        rw [hia] at hj; cases hj
        rw [lB, Nat.sub_self] at hd
        cases hd
        exact p6
  · have e : i = l.length := by omega
    subst e
    refine .inl ⟨by rw [← hlen]; exact sq.stop H2 (kqOf H2 k2), ?_⟩
    have pt3 : PotAt Pt m H2 := by
      rw [Nat.sub_self, Nat.zero_mul, Nat.add_zero] at pt2; exact pt2
    have kk : Ke Pt H H2 := (Kp.of_same s1).trans k2
    exact k (.ref D) H2 (.list ds) (D :: B) ⟨ds, rfl, lB, pB⟩ (en1.potted k2 pt3) kk (.lst hacc (by rw [oB.length]; omega) oB) (List.nodup_cons.mpr ⟨dB, nB⟩) fun b hb => by
      rcases List.mem_cons.mp hb with rfl | hb
      · exact s1.free hD
      · exact s1.free (fB b hb)
end
end DL
end
section
set_option Elab.async false
set_option linter.all false
set_option maxRecDepth 100000
set_option maxHeartbeats 4000000
namespace DL
open PySem PySem.Spec L2 PyProof.Rows
section
variable {X : Cx} {m m' : Nat} {ρ : Rh} {a : Expr} {p pos : Pos} {P : PyData → Prop}
theorem e_tupleN (Pn : List Int → Prop) (h : PE X a (tE X.K m ρ m' P)) (hP : ∀ d, P d → ∃ ns : List Int, d = .list (ns.map .int) ∧ Pn ns) (hg : Gl X "tuple") (hm : X.mg "tuple" = none) (na : starEach [a] X.env = (false, eval a X.env) :: starEach [] X.env := by rfl) :
    PE X (.Call (.Name "tuple" p) [a] [] pos) (tE X.K m ρ m' (fun d => ∃ ns : List Int, d = nt ns ∧ Pn ns)) :=
  PE.imp (pe_tupleN hg hm h na) fun σ H Q ⟨Pt, He, A, en, k⟩ => ⟨Pt, He, A, en, fun x H1 d B pd en1 k1 o n f => by
    obtain ⟨ns, rfl, pn⟩ := hP d pd
    obtain ⟨q, xs, C, rfl, hq, ol, hz, rfl⟩ := o.lst_inv
    have := ol.ints_inv
    subst this
    refine ⟨q, ns, rfl, .of hq, fun t ob hc hd ht => ?_⟩
    exact k _ _ (nt ns) [] ⟨ns, rfl, pn⟩ (en1.same (same_new ht)) (k1.trans (.of_same (same_new ht))) (.nd upd_same hc hd (by rw [List.length_map] at hz; exact hz)) List.nodup_nil fun b hb => by cases hb⟩
theorem ints_of_items {α : Type} {l : List α} {Pi : α → Int → Prop} {ds : List PyData} (hl : ds.length = l.length) (h : ∀ (i : Nat) (a : α) (d : PyData), l[i]? = some a → ds[i]? = some d → ∃ z : Int, d = .int z ∧ Pi a z) : ∃ ns : List Int, ds = ns.map .int ∧ ns.length = l.length ∧ ∀ z ∈ ns, ∃ a ∈ l, Pi a z := by
  induction ds generalizing l with
  | nil => exact ⟨[], rfl, hl, fun z h => (by cases h)⟩
  | cons d ds ih =>
    cases l with
    | nil => simp at hl
    | cons a l =>
      obtain ⟨z, rfl, hz⟩ := h 0 a d rfl rfl
      obtain ⟨ns, rfl, h2, h3⟩ := ih (l := l) (by simpa using hl) fun i a d hi hd => h (i + 1) a d (by simpa using hi) (by simpa using hd)
      refine ⟨z :: ns, rfl, by simp [h2], fun y hy => ?_⟩
      rcases List.mem_cons.mp hy with rfl | hy
      · exact ⟨a, List.mem_cons_self, hz⟩
      · obtain ⟨b, hb, q⟩ := h3 y hy
        exact ⟨b, List.mem_cons_of_mem _ hb, q⟩
end
end DL
end
section
set_option Elab.async false
set_option linter.all false
set_option maxRecDepth 100000
set_option maxHeartbeats 4000000
namespace DL
open PySem PySem.Spec L2
theorem OwnL.erase {K : PySem.W.Frag} {H : Hp} : ∀ {xs : List V} {ds : List PyData} {B : List Addr}, OwnL K H xs ds B → B = [] → ∀ k : Nat, OwnL K H (xs.eraseIdx k) (ds.eraseIdx k) []
  | _, _, _, .nil, _, _ => .nil
  | _, _, _, .cons (B := B) (C := C) e l, h, 0 => by
    obtain ⟨_, h2⟩ := List.append_eq_nil_iff.mp h
    exact h2 ▸ l
  | _, _, _, .cons (B := B) (C := C) e l, h, k + 1 => by
    obtain ⟨h1, h2⟩ := List.append_eq_nil_iff.mp h
    exact .cons (h1 ▸ e) (OwnL.erase l h2 k)
section
variable {X : Cx} {m m' : Nat} {ρ : Rh} {R : Nat → PyData → Prop} {o1 o2 b : Expr} {pos cp1 cp2 ap1 ap2 : Pos} {ds l : List PyData} {P : PyData → Prop}
theorem ds_appPop (i j : Nat) (hij : i ≠ j) (ho1 : PE X o1 (tVar i)) (ho2 : PE X o2 (tVar j)) (hi : ρ[i]? = some (.ow (.list ds))) (hj : ρ[j]? = some (.ow (.list l))) (hb : PE X b (tE X.K m ρ m' P)) (hP : ∀ d, P d → ∃ k : Int, d = .int k ∧ 0 ≤ k ∧ k < l.length)
    (im : immAll l = true) (im2 : immAll ds = true) (hz : ds.length < sizeLine) (hl63 : l.length ≤ 16777216)
    (hc : PE X (.Call (.Attribute o1 "append" ap1) [.Call (.Attribute o2 "pop" ap2) [b] [] cp2] [] cp1) (tBM X.K "list" rAppend (tVar i) (tCons (tBM X.K "list" rPopAt (tVar j) (tCons (tE X.K m ρ m' P) tNil)) tNil)))
    (hs : swapsWith (.Call (.Attribute o1 "append" ap1) [.Call (.Attribute o2 "pop" ap2) [b] [] cp2] [] cp1) none pos.line X.env = pure false := by rfl) :
    PS X (.Expr (.Call (.Attribute o1 "append" ap1) [.Call (.Attribute o2 "pop" ap2) [b] [] cp2] [] cp1) pos) (tS X.K m ρ (fun m1 ρ1 => ∃ k : Nat, ∃ h : k < l.length, m1 = m' ∧ ρ1 = (ρ.set j (.ow (.list (l.eraseIdx k)))).set i (.ow (.list (ds ++ [l[k]])))) R) :=
  PS.imp (ps_expr hc hs) fun D σ H ⟨Pt, He, A, en, k1, _⟩ => by
    obtain ⟨x, _, hx, ox⟩ := en.holds (.inr hi)
    obtain ⟨y, _, hy, oy⟩ := en.holds (.inr hj)
    obtain ⟨p1, xs0, _, rfl, hp1, _, _, _⟩ := ox.lst_inv
    obtain ⟨p2, ys0, _, rfl, hp2, _, _, _⟩ := oy.lst_inv
    refine ⟨_, hx, .inl ⟨rfl, _, .of hp1⟩, _, hy, .inl ⟨rfl, _, .of hp2⟩, Pt, He, A, en, fun z H1 d B pd en1 kk oz nB fB => ?_⟩
    obtain ⟨k, rfl, k0, kl⟩ := hP d pd
    obtain rfl := oz.int_inv
    obtain ⟨y', C2, hy', o2', n2, f2, wr2⟩ := en1.write hj
    rw [hy] at hy'; cases hy'
    obtain ⟨q2, ys, E2, e2, hq2, ol2, hl2, rfl⟩ := o2'.lst_inv
    cases e2
    have hE2 := ol2.imm im
    subst hE2
    have kn : k.toNat < l.length := by omega
    obtain ⟨v, Dv, hv, ov, hDv⟩ := ol2.get (i := k.toNat) (d := l[k.toNat]) (by simp [kn])
    have hDv0 : Dv = [] := List.eq_nil_iff_forall_not_mem.mpr fun c hc => by cases hDv c hc
    subst hDv0
    have hylen := ol2.length
    refine ⟨p2, ys, k, k.toNat, v, rfl, rfl, hq2, by omega, by omega, ?_, hv, ?_⟩
    · have n0 : ¬ k < 0 := by omega
      have ky : k < ys.length := by omega
      simp [seqIndex?, n0, k0, ky]
    have kpA : Kp [p2] false H1 (upd H1 p2 (.lst (ys.eraseIdx k.toNat))) := Kp.upd (by simp) hq2 trivial
    obtain ⟨A2, en2⟩ := wr2 [p2] [p2] _ (.list (l.eraseIdx k.toNat)) kpA (by simp) (.lst upd_same (by have := List.length_eraseIdx_le ys k.toNat; omega) ((ol2.erase rfl k.toNat).kp kpA fun b hb => by cases hb)) (by simp) (fun b hb => .inl hb)
    have hi2 : (ρ.set j (.ow (.list (l.eraseIdx k.toNat))))[i]? = some (.ow (.list ds)) := by rw [List.getElem?_set_ne (Ne.symm hij)]; exact hi
    obtain ⟨x', C1, hx', o1', n1, f1, wr1⟩ := en2.write hi2
    rw [hx] at hx'; cases hx'
    obtain ⟨q1, xs, E1, e1, hq1, ol1, hl1, rfl⟩ := o1'.lst_inv
    cases e1
    have hE1 := ol1.imm im2
    subst hE1
    have ov2 : Own X.K (upd H1 p2 (.lst (ys.eraseIdx k.toNat))) v l[k.toNat] [] := ov.kp kpA fun b hb => by cases hb
    refine ⟨p1, xs, v, rfl, rfl, hq1, by rw [ol1.length]; exact hz, ?_⟩
    have kpB : Kp [p1] false (upd H1 p2 (.lst (ys.eraseIdx k.toNat))) (upd (upd H1 p2 (.lst (ys.eraseIdx k.toNat))) p1 (.lst (xs ++ [v]))) := Kp.upd (by simp) hq1 trivial
    obtain ⟨A3, en3⟩ := wr1 [p1] [p1] _ (.list (ds ++ [l[k.toNat]])) kpB (by simp) (.lst upd_same (by rw [List.length_append]; show xs.length + 1 ≤ sizeLine; rw [ol1.length]; exact hz) (by
      have := (ol1.append (OwnL.single ov2)).kp kpB fun b hb => by simp at hb
      simpa using this)) (by simp) (fun b hb => .inl hb)
    exact k1 He σ _ m' _ A3 (.refl _) en3 ⟨k.toNat, kn, rfl, rfl⟩
end
end DL
end
section
set_option Elab.async false
set_option linter.all false
set_option maxRecDepth 100000
set_option maxHeartbeats 4000000
namespace DL
open PySem PySem.Spec L2
section
variable {X : Cx} {m m' : Nat} {ρ : Rh} {R : Nat → PyData → Prop} {o e : Expr} {pos cpos apos : Pos} {ds : List PyData} {P : PyData → Prop}
theorem e_nm (h : PE X e (tE X.K m ρ m' P)) : PE X e (tE X.K m ρ m' (fun d => ∃ d0, P d0 ∧ d = nm d0)) := PE.imp h fun _ H Q ⟨Pt, He, A, en, k⟩ => ⟨Pt, He, A, en, fun x H' d B p en' kp o n f => k x H' (nm d) B ⟨d, p, rfl⟩ en' kp o.nm n f⟩
theorem ds_appE (n : Nat) (ho : PE X o (tVar n)) (hn : ρ[n]? = some (.ow (.list ds))) (he : PE X e (tE X.K m ρ m' P)) (hP : ∀ d, P d → imm d = true) (im : immAll ds = true) (hz : ds.length < sizeLine)
    (hc : PE X (.Call (.Attribute o "append" apos) [e] [] cpos) (tBM X.K "list" rAppend (tVar n) (tCons (tE X.K m ρ m' P) tNil)))
    (hs : swapsWith (.Call (.Attribute o "append" apos) [e] [] cpos) none pos.line X.env = pure false := by rfl) :
    PS X (.Expr (.Call (.Attribute o "append" apos) [e] [] cpos) pos) (tS X.K m ρ (fun m1 ρ1 => ∃ d, P d ∧ m1 = m' ∧ ρ1 = ρ.set n (.ow (.list (ds ++ [d])))) R) :=
  PS.imp (ps_expr hc hs) fun D σ H ⟨Pt, He, A, en, k1, _⟩ => by
    obtain ⟨x, _, hx, ox⟩ := en.holds (.inr hn)
    obtain ⟨p1, xs0, _, rfl, hp1, _, _, _⟩ := ox.lst_inv
    refine ⟨_, hx, .inl ⟨rfl, _, .of hp1⟩, Pt, He, A, en, fun y H1 d B pd en1 kk oy nB fB => ?_⟩
    have hB := oy.imm (hP d pd)
    subst hB
    obtain ⟨x', C1, hx', o1', n1, f1, wr1⟩ := en1.write hn
    rw [hx] at hx'; cases hx'
    obtain ⟨q1, xs, E1, e1, hq1, ol1, hl1, rfl⟩ := o1'.lst_inv
    cases e1
    have hE1 := ol1.imm im
    subst hE1
    refine ⟨p1, xs, y, rfl, rfl, hq1, by rw [ol1.length]; exact hz, ?_⟩
    have kpB : Kp [p1] false H1 (upd H1 p1 (.lst (xs ++ [y]))) := Kp.upd (by simp) hq1 trivial
    obtain ⟨A3, en3⟩ := wr1 [p1] [p1] _ (.list (ds ++ [d])) kpB (by simp) (.lst upd_same (by rw [List.length_append]; show xs.length + 1 ≤ sizeLine; rw [ol1.length]; exact hz) (by
      have := (ol1.append (OwnL.single oy)).kp kpB fun b hb => by simp at hb
      simpa using this)) (by simp) (fun b hb => .inl hb)
    exact k1 He σ _ m' _ A3 (.refl _) en3 ⟨d, pd, rfl, rfl⟩
theorem ds_apE (n : Nat) (ho : PE X o (tVar n)) (hn : ρ[n]? = some (.ow (.list ds))) (he : PE X e (tE X.K m ρ m' P)) (hP : ∀ d, P d → imm d = true) (im : immAll ds = true) (hz : ds.length < sizeLine)
    (hbase : attributeBase o "append" X.env (eval o X.env) = eval o X.env := by rfl)
    (hfew : ((backTo cpos (starEach (e :: []) X.env)).all (fun x => !x.1) && (backToKw cpos (keywordEach [] X.env)).all (fun x => x.1.isSome)
      && decide ((e :: []).length + ([] : List Keyword).length + (if ([] : List Keyword).isEmpty then 0 else 1) < 30)) = true := by rfl)
    (hline : (apos.endLine == cpos.line) = true := by rfl) (hst : starEach (e :: []) X.env = (false, eval e X.env) :: starEach [] X.env := by rfl) (hplain : (backTo cpos (starEach [] X.env)).any (·.1) = false := by rfl)
    (hs : swapsWith (.Call (.Attribute o "append" apos) [e] [] cpos) none pos.line X.env = pure false := by rfl) :
    PS X (.Expr (.Call (.Attribute o "append" apos) [e] [] cpos) pos) (tS X.K m ρ (fun m1 ρ1 => ∃ d, P d ∧ m1 = m' ∧ ρ1 = ρ.set n (.ow (.list (ds ++ [d])))) R) :=
  ds_appE n ho hn he hP im hz (pe_bm PySem.F.plainAttrs_list PySem.F.slot_list_append PySem.F.type_list_append mt_append ho (pa_cons he pa_nil hst) hbase hfew hline hst hplain) hs
end
end DL
end
section
set_option Elab.async false
set_option linter.all false
set_option maxRecDepth 100000
set_option maxHeartbeats 4000000
namespace DL
open PySem PySem.Spec L2
def ItiT (d : Addr) (o : Obj) (kvs : List (List Key × V)) : It where
  go i H := H d = some (.frz o (.dT kvs)) ∧ i < kvs.length
  yld i H x H' := ∃ T k v q, kvs[i]? = some (k, v) ∧ x = .ref T ∧ H T = none ∧ H q = some (.tup (k.map kV)) ∧ H' = upd H T (.tup [.ref q, v])
  stop i H := H d = some (.frz o (.dT kvs)) ∧ kvs.length ≤ i
section
variable {X : Cx} {pins : List (Addr × Obj)} {σ : St} {H : Hp} {s : Shared} {d : Addr} {o : Obj}
theorem frzT2 {kvs : List (List Key × V)} (I : Inv X pins σ H s) (h : H d = some (.frz o (.dT kvs))) : ∃ (es : Array DictEntry) (ep : Nat), o.data = .dict es ep ∧ es.size = kvs.length ∧ s.heap.DictRaw d es ep ∧
    ∀ (i : Nat) (k : List Key) (v : V), kvs[i]? = some (k, v) → ∃ (en : DictEntry) (q : Addr), es[i]? = some en ∧ en.key = .ref q ∧ H q = some (.tup (k.map kV)) ∧ RelV v en.val := by
  obtain ⟨hd, z, hs, xs, pr, o', es, ep, ho, hx, hdt, he, _⟩ := I.hok d _ h
  rw [hd] at ho
  cases ho
  refine ⟨es, ep, hdt, ?_, ⟨o, hd, hx, hdt⟩, fun i k v e => ?_⟩
  · have l1 : es.size = xs.length := size_of_entries he
    have l2 : kvs.length = xs.length := Paired.length pr
    omega
  · obtain ⟨b, hb, e1, e2, e3⟩ := paired_get pr e
    have q := entry_at he i
    rw [hb] at q
    exact ⟨_, b.2.1, q, rfl, e2, e3⟩
end
theorem turn_itemsT {P : Program} {w : World} {K : PySem.W.Frag} {elts : List Expr} {kk : Nat} {tpos : Pos} {d it : Addr} {o : Obj} {es : Array DictEntry} {ep : Nat} {kvs : List (List Key × V)} (hod : o.data = .dict es ep) :
    Turn P w K (.Tuple elts kk tpos) (ItiT d o kvs) [it] it (fun i h => ∃ ok ov, IsItemIter h it d i es.size ep ok ov) where
  mem := List.mem_cons_self
  obj := fun i h ⟨ok, ov, e⟩ b hb => by
    obtain rfl : b = it := by simpa using hb
    exact ⟨_, e, fun v z => by cases z⟩
  keep := fun i h h' ⟨ok, ov, e⟩ k => ⟨ok, ov, k it (by simp) _ e⟩
  item := by
    intro X hP hw hK hc i pins s σ H E I hf ⟨ok, ov, he⟩ ⟨hd, hi⟩
    subst hP hw hK
    obtain ⟨es', ep', hdt, hsz, raw, ent⟩ := frzT2 I hd
    obtain ⟨rfl, rfl⟩ := dict_ep hod hdt
    obtain ⟨⟨k, v⟩, hkv⟩ : ∃ p, kvs[i]? = some p := ⟨kvs[i], List.getElem?_eq_getElem hi⟩
    obtain ⟨en, q, hen, hkey, hq, rv⟩ := ent i k v hkv
    have lt : i < es'.size := by omega
    have een : es'[i] = en := by
      have := Array.getElem?_eq_getElem lt
      rw [hen] at this
      exact (Option.some.inj this).symm
    have hlt : it < s.heap.objs.size := Heap.lt_size he
    refine wpAny_pyNext_items_item_raw he raw lt fun h' ho hT hz hk => ⟨_, rfl, wpAny_letOwnedTupleGo_items (s := { s with heap := h' }) ho fun h'' he' sb => ?_⟩
    rw [een, hkey] at hT
    have hT2 := (sb.2 _ (Nat.ne_of_gt hlt)).trans hT
    have new : ObjOk X.prog X.w (upd H s.heap.objs.size (.tup [.ref q, v])) h'' s.heap.objs.size (.tup [.ref q, v]) :=
      ⟨(by show 2 ≤ sizeLine; decide), [.ref q, en.val], .cons rfl (.cons rv .nil), ⟨_, hT2, rfl, _, rfl⟩⟩
    have I1 : Inv X pins σ (upd H s.heap.objs.size (.tup [.ref q, v])) { s with heap := h'' } :=
      I.turnedNew (t' := s.toks) (ch := [it]) (fun b ob hb e => (sb.2 b (by simpa using hb)).trans (hk b ob (by simpa using hb) e)) hf (Nat.le_refl _) new
    refine ⟨.ref s.heap.objs.size, _, I1, rfl, ⟨_, k, v, q, hkv, rfl, I.hok.fresh (Nat.le_refl _), hq, rfl⟩, ⟨_, _, he'⟩, fun b hb => ?_⟩
    obtain rfl : b = it := by simpa using hb
    rw [upd_ne (Nat.ne_of_lt hlt)]
    exact (hf b (by simp)).1
  done := by
    intro X hP hw hK hc i pins s σ H E I hf ⟨ok, ov, he⟩ ⟨hd, hi⟩
    subst hP hw hK
    obtain ⟨f0, f1, f2, f3, f4, f5⟩ := hf it (by simp)
    obtain ⟨es', ep', hdt, hsz, raw, ent⟩ := frzT2 I hd
    obtain ⟨rfl, rfl⟩ := dict_ep hod hdt
    exact wpAny_pyNext_items_end_raw (I.ok.hd hc) he raw (by omega) fun h' eb => ⟨rfl, I.turned (t' := s.toks) (fun b ob hb e => eb b ob hb e) f0 f1 f3 f4 f5⟩
  self := fun A i s Q E ⟨_, _, e⟩ h => PySem.W.kcp_self e h
def iItemsT (td : TE) : TI := fun σ H R => td σ H fun x H1 => ∃ d o kvs, x = .ref d ∧ H1 d = some (.frz o (.dT kvs)) ∧ R (ItiT d o kvs) H1
theorem pi_itemsT {X : Cx} {e : Expr} {td : TE} {apos cpos : Pos} {elts : List Expr} {kk : Nat} {tpos : Pos} (he : PE X e td) (hbase : attributeBase e "items" X.env (eval e X.env) = eval e X.env := by rfl) (hline : (apos.endLine == cpos.line) = true := by rfl) :
    PI X (.Tuple elts kk tpos) (.Call (.Attribute e "items" apos) [] [] cpos) (iItemsT td) := by
  refine ⟨fun pins s σ H R I h => wpAny_Call_method (T := "dict") (id := "dict.items") hbase rfl hline PySem.F.plainAttrs_dict PySem.F.slot_dict_items PySem.F.type_dict_items (thn (he.run pins s σ H _ I h) fun u s1 ⟨x, H1, I1, rx, d, o, kvs, ex, hd, q⟩ => ?_)⟩
  subst ex
  obtain rfl : u = Value.ref d := rx
  obtain ⟨hs, hgd, hx, _⟩ := I1.frzT hd
  obtain ⟨es, ep, hdt, hsz, raw, _⟩ := frzT2 I1 hd
  refine ⟨raw.typeIs, (fun a e => by cases e; exact ⟨o, hgd, hx.2.1⟩), ?_⟩
  have I2 : Inv X pins σ H1 { s1 with heap := s1.heap.push { cls := .type "dict_items", data := .fields #[.ref d] } } := I1.kept (t' := s1.toks) fun b ob q => Heap.get?_push_of_some _ q
  have fin : wpAny (model X.prog X.w) X.A (pyIter (.ref s1.heap.objs.size)) (PIE X pins σ (.Tuple elts kk tpos) R) X.xe { s1 with heap := s1.heap.push { cls := .type "dict_items", data := .fields #[.ref d] } } :=
    wpAny_pyIter_items_raw (d := d) ⟨_, Heap.get?_push_size _ rfl, rfl, rfl⟩ (raw.at fun o e => Heap.get?_push_of_some _ e) (pi_one (tk := s1.toks) I2 _ (turn_itemsT hdt) ⟨.none, .none, Heap.get?_push_size _ rfl⟩ q)
  show wpAny _ _ (callWith cpos (.builtin "dict.items") [.ref d] [] []) _ X.xe s1
  exact method_meetsIn PySem.F.slot_dict_items PySem.F.entry_dict_items rfl (PySem.evalArgs_none ⟨rfl, raw.typeIs, PySem.F.args_dict_items_1 _, _, meets_dict_items_raw d hs, ⟨⟨es, ep, raw⟩, fin⟩⟩)
end DL
end
section
set_option Elab.async false
set_option linter.all false
set_option maxRecDepth 100000
set_option maxHeartbeats 4000000
namespace DL
open PySem PySem.Spec L2
section
variable {κ β : Type} [DecidableEq κ]
def aGet (s : List (κ × β)) (k : κ) : Option β := (s.find? fun e => decide (e.1 = k)).map (·.2)
def aPut (s : List (κ × β)) (k : κ) (v : β) : List (κ × β) := if (s.any fun e => decide (e.1 = k)) = true then s.map (fun e => if e.1 = k then (e.1, v) else e) else s ++ [(k, v)]
theorem aGet_nil (k : κ) : aGet ([] : List (κ × β)) k = none := rfl
theorem aGet_cons (e : κ × β) (s : List (κ × β)) (k : κ) : aGet (e :: s) k = if e.1 = k then some e.2 else aGet s k := by
  unfold aGet
  rw [List.find?_cons]
  by_cases h : e.1 = k
  · rw [if_pos h, decide_eq_true h]; rfl
  · rw [if_neg h, decide_eq_false h]
end
def dicI {β : Type} (vf : β → PyData) (s : List (Int × β)) : PyData := .dict (s.map fun e => (.int e.1, vf e.2))
def dicT {β : Type} (vf : β → PyData) (s : List (List Int × β)) : PyData := .dict ((.bool true, .none) :: s.map fun e => (.tuple (e.1.map .int), vf e.2))
def lkI (s : List (Int × Int)) : PyData := .dict ((.bool false, .none) :: s.map fun e => (.int e.1, .int e.2))
def lkT (s : List (List Int × Int)) : PyData := .dict ((.list [], .none) :: s.map fun e => (.tuple (e.1.map .int), .int e.2))
theorem imm_lkI (s : List (Int × Int)) : imm (lkI s) = true := by unfold lkI; simp [imm, isNt, isLk]
theorem imm_lkT (s : List (List Int × Int)) : imm (lkT s) = true := by unfold lkT; simp [imm, isNt, isLk]
def kI (i : Int) : Key := .inl i
def kT (l : List Int) : List Key := l.map .inl
theorem kT_inj {a b : List Int} (h : kT a = kT b) : a = b := by
  unfold kT at h
  induction a generalizing b with
  | nil => cases b with
    | nil => rfl
    | cons y b => simp at h
  | cons x a ih => cases b with
    | nil => simp at h
    | cons y b =>
      rw [List.map_cons, List.map_cons] at h
      injection h with h1 h2
      injection h1 with h1
      rw [h1, ih h2]
theorem tD_kT (l : List Int) : tD (kT l) = .tuple (l.map .int) := by unfold tD kT; rw [List.map_map]; rfl
theorem tD_inj : ∀ {a b : List Key}, tD a = tD b → a = b := by
  have e : ∀ {x y : Key}, kD x = kD y → x = y := by
    intro x y h
    cases x <;> cases y <;> simp [kD] at h <;> rw [h]
  intro a b h
  unfold tD at h
  injection h with h
  induction a generalizing b with
  | nil => cases b with
    | nil => rfl
    | cons y b => simp at h
  | cons x a ih => cases b with
    | nil => simp at h
    | cons y b =>
      rw [List.map_cons, List.map_cons] at h
      injection h with h1 h2
      rw [e h1, ih h2]
theorem kD_inj {x y : Key} (h : kD x = kD y) : x = y := by
  cases x <;> cases y <;> simp [kD] at h <;> rw [h]
theorem rows_of {κ τ β : Type} {kf : κ → PyData} {tf : τ → PyData} {tk : τ → κ} {vf : β → PyData} (inj : ∀ a b, kf a = kf b → a = b) (tk' : ∀ t, kf (tk t) = tf t) : ∀ {kvs : List (κ × V)} {ds : List PyData} {s : List (τ × β)}, kvs.length = ds.length →
    (kvs.map fun p => kf p.1).zip ds = s.map (fun e => (tf e.1, vf e.2)) → kvs.map (·.1) = s.map (fun e => tk e.1) ∧ ds = s.map fun e => vf e.2
  | [], [], [], _, _ => ⟨rfl, rfl⟩
  | [], [], _ :: _, _, h => by simp at h
  | _ :: _, [], _, h, _ => by simp at h
  | [], _ :: _, _, h, _ => by simp at h
  | p :: kvs, d :: ds, [], _, h => by simp at h
  | p :: kvs, d :: ds, e :: s, hl, h => by
    rw [List.map_cons, List.zip_cons_cons, List.map_cons] at h
    injection h with h1 h2
    injection h1 with h3 h4
    obtain ⟨r1, r2⟩ := rows_of inj tk' (kvs := kvs) (ds := ds) (s := s) (by simpa using hl) h2
    have h5 : p.1 = tk e.1 := inj _ _ (h3.trans (tk' e.1).symm)
    rw [List.map_cons, List.map_cons, List.map_cons, h5, r1, h4, r2]
    exact ⟨rfl, rfl⟩
section
variable {K : PySem.W.Frag} {H : Hp} {v : V} {B : List Addr} {β : Type} {vf : β → PyData}
theorem Own.dicI_inv {s : List (Int × β)} (o : Own K H v (dicI vf s) B) : ∃ a kvs C, v = .ref a ∧ H a = some (.dK kvs) ∧ kvs.map (·.1) = s.map (fun e => kI e.1) ∧ OwnL K H (kvs.map (·.2)) (s.map fun e => vf e.2) C ∧ B = a :: C := by
  generalize hd : dicI vf s = d at o
  unfold dicI at hd
  cases o with
  | @dK a kvs ds C h l =>
    injection hd with hd
    obtain ⟨r1, r2⟩ := rows_of (kf := kD) (tf := fun i => .int i) (tk := kI) (fun _ _ h => kD_inj h) (fun _ => rfl) (by rw [← l.length, List.length_map]) hd.symm
    rw [r2] at l
    exact ⟨a, kvs, C, rfl, h, r1, l, rfl⟩
  | @dT a kvs ds C h l => exfalso; injection hd with hd; cases s <;> simp at hd
  | lk h => exfalso; injection hd with hd; cases s <;> simp at hd
  | lt h => exfalso; injection hd with hd; cases s <;> simp at hd
  | nd h c e z => exfalso; injection hd with hd; cases s <;> simp at hd
  | non => cases hd
  | bl => cases hd
  | int => cases hd
  | str => cases hd
  | tup => cases hd
  | lst => cases hd
theorem Own.dicT_inv {s : List (List Int × β)} (o : Own K H v (dicT vf s) B) : ∃ a kvs C, v = .ref a ∧ H a = some (.dT kvs) ∧ kvs.map (·.1) = s.map (fun e => kT e.1) ∧ OwnL K H (kvs.map (·.2)) (s.map fun e => vf e.2) C ∧ B = a :: C := by
  generalize hd : dicT vf s = d at o
  unfold dicT at hd
  cases o with
  | @dT a kvs ds C h l =>
    injection hd with hd
    injection hd with _ hd
    obtain ⟨r1, r2⟩ := rows_of (kf := tD) (tf := fun i : List Int => .tuple (i.map .int)) (tk := kT) (fun _ _ h => tD_inj h) tD_kT (by rw [← l.length, List.length_map]) hd.symm
    rw [r2] at l
    exact ⟨a, kvs, C, rfl, h, r1, l, rfl⟩
  | @dK a kvs ds C h l =>
    exfalso; injection hd with hd
    cases kvs with
    | nil => simp at hd
    | cons p kvs =>
      cases ds with
      | nil => simp at hd
      | cons d ds => rcases p with ⟨k | k, v⟩ <;> simp [kD] at hd
  | lk h => exfalso; injection hd with hd; simp at hd
  | lt h => exfalso; injection hd with hd; simp at hd
  | nd h c e z => exfalso; injection hd with hd; simp at hd
  | non => cases hd
  | bl => cases hd
  | int => cases hd
  | str => cases hd
  | tup => cases hd
  | lst => cases hd
theorem intRows {τ : Type} {tf : τ → PyData} : ∀ {l : List (τ × Int)} {s : List (τ × Int)}, (∀ a b, tf a = tf b → a = b) → l.map (fun e => (tf e.1, PyData.int e.2)) = s.map (fun e => (tf e.1, PyData.int e.2)) → l = s
  | [], [], _, _ => rfl
  | [], _ :: _, _, h => by simp at h
  | _ :: _, [], _, h => by simp at h
  | a :: l, b :: s, inj, h => by
    rw [List.map_cons, List.map_cons] at h
    injection h with h1 h2
    injection h1 with h3 h4
    injection h4 with h4
    rw [intRows inj h2, Prod.ext (inj _ _ h3) h4]
theorem Own.lkI_inv {s : List (Int × Int)} (o : Own K H v (lkI s) B) : ∃ a ob, v = .ref a ∧ H a = some (.frz ob (.dK (s.map fun e => (kI e.1, V.int e.2)))) ∧ B = [] := by
  generalize hd : lkI s = d at o
  unfold lkI at hd
  cases o with
  | @lk a ob kvs h =>
    injection hd with hd
    injection hd with _ hd
    have e : kvs = s.map fun e => (kI e.1, e.2) := by
      refine intRows (tf := kD) (fun _ _ h => kD_inj h) ?_
      rw [List.map_map]; exact hd.symm
    subst e
    rw [List.map_map] at h
    exact ⟨a, ob, rfl, h, rfl⟩
  | @dK a kvs ds C h l =>
    exfalso; injection hd with hd
    cases kvs with
    | nil => simp at hd
    | cons p kvs =>
      cases ds with
      | nil => simp at hd
      | cons d ds => rcases p with ⟨k | k, v⟩ <;> simp [kD] at hd
  | dT h l => exfalso; injection hd with hd; simp at hd
  | lt h => exfalso; injection hd with hd; simp at hd
  | nd h c e z => exfalso; injection hd with hd; simp at hd
  | non => cases hd
  | bl => cases hd
  | int => cases hd
  | str => cases hd
  | tup => cases hd
  | lst => cases hd
theorem Own.lkT_inv {s : List (List Int × Int)} (o : Own K H v (lkT s) B) : ∃ a ob, v = .ref a ∧ H a = some (.frz ob (.dT (s.map fun e => (kT e.1, V.int e.2)))) ∧ B = [] := by
  generalize hd : lkT s = d at o
  unfold lkT at hd
  cases o with
  | @lt a ob kvs h =>
    injection hd with hd
    injection hd with _ hd
    have e : kvs = s.map fun e => (kT e.1, e.2) := by
      refine intRows (tf := tD) (fun _ _ h => tD_inj h) ?_
      rw [List.map_map, ← hd]
      exact List.map_congr_left fun e _ => by rw [← tD_kT]; rfl
    subst e
    rw [List.map_map] at h
    exact ⟨a, ob, rfl, h, rfl⟩
  | @dK a kvs ds C h l =>
    exfalso; injection hd with hd
    cases kvs with
    | nil => simp at hd
    | cons p kvs =>
      cases ds with
      | nil => simp at hd
      | cons d ds => rcases p with ⟨k | k, v⟩ <;> simp [kD] at hd
  | dT h l => exfalso; injection hd with hd; simp at hd
  | lk h => exfalso; injection hd with hd; simp at hd
  | nd h c e z => exfalso; injection hd with hd; simp at hd
  | non => cases hd
  | bl => cases hd
  | int => cases hd
  | str => cases hd
  | tup => cases hd
  | lst => cases hd
theorem get_row {κ τ : Type} [DecidableEq κ] [DecidableEq τ] {tk : τ → κ} (inj : ∀ a b, tk a = tk b → a = b) : ∀ {kvs : List (κ × V)} {s : List (τ × β)} {C : List Addr}, kvs.map (·.1) = s.map (fun e => tk e.1) → OwnL K H (kvs.map (·.2)) (s.map fun e => vf e.2) C → ∀ k : τ,
    (aGet s k = none → valV kvs (tk k) = none) ∧ ∀ b, aGet s k = some b → ∃ x D, valV kvs (tk k) = some x ∧ Own K H x (vf b) D ∧ ∀ c ∈ D, c ∈ C
  | [], [], _, _, _, k => ⟨fun _ => rfl, fun b h => by cases h⟩
  | [], _ :: _, _, h, _, _ => by simp at h
  | _ :: _, [], _, h, _, _ => by simp at h
  | p :: kvs, e :: s, C, h, ol, k => by
    rw [List.map_cons, List.map_cons] at h
    injection h with h1 h2
    rw [List.map_cons, List.map_cons] at ol
    cases ol with
    | @cons _ _ _ _ B1 C1 o l =>
      obtain ⟨r1, r2⟩ := get_row inj h2 l k
      rw [aGet_cons]
      by_cases hk : e.1 = k
      · rw [if_pos hk, valV_pos (by rw [h1, hk])]
        refine ⟨fun z => (by cases z), fun b hb => ?_⟩
        cases hb
        exact ⟨_, _, rfl, o, fun c hc => List.mem_append_left _ hc⟩
      · rw [if_neg hk, valV_neg (fun z => hk (inj _ _ (h1.symm.trans z)))]
        refine ⟨r1, fun b hb => ?_⟩
        obtain ⟨x, D, e1, e2, e3⟩ := r2 b hb
        exact ⟨x, D, e1, e2, fun c hc => List.mem_append_right _ (e3 c hc)⟩
theorem get_int {κ τ : Type} [DecidableEq κ] [DecidableEq τ] {tk : τ → κ} (inj : ∀ a b, tk a = tk b → a = b) (k : τ) : ∀ s : List (τ × Int), valV (s.map fun e => (tk e.1, V.int e.2)) (tk k) = (aGet s k).map V.int
  | [] => rfl
  | e :: s => by
    rw [List.map_cons, aGet_cons]
    by_cases hk : e.1 = k
    · rw [if_pos hk, valV_pos (by show tk e.1 = tk k; rw [hk])]; rfl
    · rw [if_neg hk, valV_neg (fun z => hk (inj _ _ z)), get_int inj k s]
end
end DL
end
section
set_option Elab.async false
set_option linter.all false
set_option maxRecDepth 100000
set_option maxHeartbeats 4000000
namespace DL
open PySem PySem.Spec L2
theorem kI_inj : ∀ a b : Int, kI a = kI b → a = b := fun a b h => by unfold kI at h; injection h
section
variable {K : PySem.W.Frag} {H H' : Hp} {σ : St} {β : Type} {vf : β → PyData}
theorem put_row {κ τ : Type} [DecidableEq κ] [DecidableEq τ] {tk : τ → κ} (inj : ∀ a b, tk a = tk b → a = b) {x : V} {b : β} {B : List Addr} {k : τ} (o : Own K H x (vf b) B) (nB : B.Nodup) : ∀ {kvs : List (κ × V)} {s : List (τ × β)} {C : List Addr},
    kvs.map (·.1) = s.map (fun e => tk e.1) → OwnL K H (kvs.map (·.2)) (s.map fun e => vf e.2) C → C.Nodup → (∀ c ∈ B, c ∉ C) → (s.map (·.1)).Nodup →
    ∃ C', OwnL K H ((kvs.map fun kv => if kv.1 = tk k then (kv.1, x) else kv).map (·.2)) ((s.map fun e => if e.1 = k then (e.1, b) else e).map fun e => vf e.2) C' ∧ C'.Nodup ∧ ∀ c ∈ C', c ∈ C ∨ c ∈ B
  | [], [], _, _, ol, nC, _, _ => ⟨[], .nil, List.nodup_nil, fun _ z => by cases z⟩
  | [], _ :: _, _, h, _, _, _, _ => by simp at h
  | _ :: _, [], _, h, _, _, _, _ => by simp at h
  | p :: kvs, e :: s, C, h, ol, nC, dj, nd => by
    rw [List.map_cons, List.map_cons] at h
    injection h with h1 h2
    rw [List.map_cons, List.map_cons] at ol
    rw [List.map_cons, List.nodup_cons] at nd
    cases ol with
    | @cons _ _ _ _ B1 C1 o1 l =>
      obtain ⟨n1, n2, n3⟩ := List.nodup_append.mp nC
      rw [List.map_cons, List.map_cons, List.map_cons, List.map_cons]
      by_cases hk : e.1 = k
      · have hk' : p.1 = tk k := by rw [h1, hk]
        rw [if_pos hk', if_pos hk]
        have e1 : kvs.map (fun kv => if kv.1 = tk k then (kv.1, x) else kv) = kvs := by
          conv => rhs; rw [← List.map_id kvs]
          refine List.map_congr_left fun q hq => ?_
          rw [if_neg]; · rfl
          intro z
          have hm : q.1 ∈ s.map (fun e => tk e.1) := by rw [← h2]; exact List.mem_map_of_mem hq
          obtain ⟨e', he', hz⟩ := List.mem_map.mp hm
          have : e'.1 = e.1 := inj _ _ (by rw [hz, z, hk])
          exact nd.1 (by rw [← this]; exact List.mem_map_of_mem he')
        have e2 : s.map (fun e => if e.1 = k then (e.1, b) else e) = s := by
          conv => rhs; rw [← List.map_id s]
          refine List.map_congr_left fun q hq => ?_
          rw [if_neg]; · rfl
          intro z
          exact nd.1 (by rw [hk, ← z]; exact List.mem_map_of_mem hq)
        rw [e1, e2]
        refine ⟨B ++ C1, .cons o l, List.nodup_append.mpr ⟨nB, n2, fun a ha c hc z => dj a ha (by rw [z]; exact List.mem_append_right _ hc)⟩, fun c hc => ?_⟩
        rcases List.mem_append.mp hc with hc | hc
        · exact .inr hc
        · exact .inl (List.mem_append_right _ hc)
      · have hk' : ¬ p.1 = tk k := fun z => hk (inj _ _ (h1.symm.trans z))
        rw [if_neg hk', if_neg hk]
        obtain ⟨C', l', nC', sub⟩ := put_row inj o nB h2 l n2 (fun c hc z => dj c hc (List.mem_append_right _ z)) nd.2
        refine ⟨B1 ++ C', .cons o1 l', List.nodup_append.mpr ⟨n1, nC', fun a ha c hc z => ?_⟩, fun c hc => ?_⟩
        · rcases sub c hc with hc | hc
          · exact n3 a ha c hc z
          · exact dj c hc (by rw [← z]; exact List.mem_append_left _ ha)
        · rcases List.mem_append.mp hc with hc | hc
          · exact .inl (List.mem_append_left _ hc)
          · rcases sub c hc with hc | hc
            · exact .inl (List.mem_append_right _ hc)
            · exact .inr hc
theorem put_rows {κ τ : Type} [DecidableEq κ] [DecidableEq τ] {tk : τ → κ} (inj : ∀ a b, tk a = tk b → a = b) {x : V} {b : β} {B : List Addr} {k : τ} (o : Own K H x (vf b) B) (nB : B.Nodup) {kvs : List (κ × V)} {s : List (τ × β)} {C : List Addr}
    (h : kvs.map (·.1) = s.map (fun e => tk e.1)) (ol : OwnL K H (kvs.map (·.2)) (s.map fun e => vf e.2) C) (nC : C.Nodup) (dj : ∀ c ∈ B, c ∉ C) (nd : (s.map (·.1)).Nodup) :
    (putK kvs (tk k) x).map (·.1) = (aPut s k b).map (fun e => tk e.1) ∧ ∃ C', OwnL K H ((putK kvs (tk k) x).map (·.2)) ((aPut s k b).map fun e => vf e.2) C' ∧ C'.Nodup ∧ ∀ c ∈ C', c ∈ C ∨ c ∈ B := by
  have ha : (kvs.any fun kv => decide (kv.1 = tk k)) = s.any fun e => decide (e.1 = k) := by
    clear ol nC dj nd
    induction s generalizing kvs with
    | nil => cases kvs with
      | nil => rfl
      | cons p kvs => simp at h
    | cons e s ih => cases kvs with
      | nil => simp at h
      | cons p kvs =>
        rw [List.map_cons, List.map_cons] at h
        injection h with h1 h2
        rw [List.any_cons, List.any_cons, ih h2, h1]
        congr 1
        by_cases hk : e.1 = k
        · rw [decide_eq_true hk, decide_eq_true (by rw [hk])]
        · rw [decide_eq_false hk, decide_eq_false (fun z => hk (inj _ _ z))]
  unfold putK aPut
  rw [ha]
  by_cases q : (s.any fun e => decide (e.1 = k)) = true
  · rw [if_pos q, if_pos q]
    refine ⟨?_, put_row inj o nB h ol nC dj nd⟩
    rw [List.map_map, List.map_map]
    have e1 : kvs.map ((·.1) ∘ fun kv => if kv.1 = tk k then (kv.1, x) else kv) = kvs.map (·.1) := List.map_congr_left fun p _ => by show (if p.1 = tk k then (p.1, x) else p).1 = p.1; split <;> rfl
    have e2 : s.map ((fun e => tk e.1) ∘ fun e => if e.1 = k then (e.1, b) else e) = s.map fun e => tk e.1 := List.map_congr_left fun p _ => by show tk (if p.1 = k then (p.1, b) else p).1 = tk p.1; split <;> rfl
    rw [e1, e2, h]
  · rw [if_neg q, if_neg q]
    refine ⟨by rw [List.map_append, List.map_append, h]; rfl, C ++ B, ?_, List.nodup_append.mpr ⟨nC, nB, fun a ha c hc z => dj c hc (by rw [← z]; exact ha)⟩, fun c hc => List.mem_append.mp hc⟩
    rw [List.map_append, List.map_append]
    exact ol.append (OwnL.single o)
theorem aPut_nd {τ : Type} [DecidableEq τ] {s : List (τ × β)} {k : τ} {b : β} (nd : (s.map (·.1)).Nodup) : ((aPut s k b).map (·.1)).Nodup := by
  unfold aPut
  split
  · have : (s.map fun e => if e.1 = k then (e.1, b) else e).map (·.1) = s.map (·.1) := by
      rw [List.map_map]
      exact List.map_congr_left fun p _ => by show (if p.1 = k then (p.1, b) else p).1 = p.1; split <;> rfl
    rw [this]; exact nd
  · rename_i h
    rw [List.map_append, List.nodup_append]
    refine ⟨nd, by simp, fun a ha c hc z => ?_⟩
    have hc : c = k := by simpa using hc
    obtain ⟨e, he, rfl⟩ := List.mem_map.mp ha
    exact h (List.any_eq_true.mpr ⟨e, he, by rw [z, hc]; simp⟩)
theorem aPut_len {τ : Type} [DecidableEq τ] (s : List (τ × β)) (k : τ) (b : β) : (aPut s k b).length ≤ s.length + 1 := by
  unfold aPut
  split
  · rw [List.length_map]; omega
  · rw [List.length_append]; simp
end
section
variable {X : Cx} {m : Nat} {ρ : Rh} {r : Ro} {N : Nat → Rh → Prop} {R : Nat → PyData → Prop} {a b c e o ix f tg iter kx vx : Expr} {es elts : List Expr} {rest : List Stmt} {pos cpos apos tpos p : Pos} {d d0 : PyData} {i j : Int} {l : List Int} {β : Type} {vf : β → PyData}
theorem pf_dicI0 : PE X (.Dict [] [] pos) (tF X.K r (dicI vf [])) := PE.imp pe_dnewK fun _ H _ ⟨he, k⟩ p hp =>
  k _ _ [p] (same_new hp) (Own.dK (kvs := []) (ds := []) upd_same .nil) (by simp) fun b hb => by rw [List.mem_singleton.mp hb]; exact hp
theorem pf_dicT0 : PE X (.Dict [] [] pos) (tF X.K r (dicT vf [])) := PE.imp pe_dnewT fun _ H _ ⟨he, k⟩ p hp =>
  k _ _ [p] (same_new hp) (Own.dT (kvs := []) (ds := []) upd_same .nil) (by simp) fun b hb => by rw [List.mem_singleton.mp hb]; exact hp
theorem pf_dicI1 (hk : PE X a (tP X.K r (.int i))) (hv : PE X b (tP X.K r (.int j))) : PE X (.Dict [some a] [b] pos) (tF X.K r (dicI .int [(i, j)])) :=
  PE.imp (pe_disp (pps_cons hk hv pps_nil) rfl rfl (by simp) (Nat.le_of_ble_eq_true rfl)) fun _ H _ ⟨he, k⟩ p hp => by
    have s0 := same_new (o := HO.dK []) hp
    refine ⟨he.same s0, fun x H1 B s1 o1 => ⟨(he.same s0).same s1, fun y H2 C s2 o2 => ?_⟩⟩
    have e2 := s2 _ _ (s1 _ _ (upd_same (H := H) (a := p) (o := HO.dK [])))
    refine ⟨e2, [(kI i, .int j)], by rw [o1.int_inv, o2.int_inv]; rfl, Nat.le_of_ble_eq_true rfl, ?_⟩
    refine k _ _ [p] (fun c u hc => ?_) (Own.dK (kvs := [(kI i, .int j)]) (ds := [.int j]) upd_same (.cons (.int j) .nil)) (by simp) fun b hb => by rw [List.mem_singleton.mp hb]; exact hp
    rw [upd_ne (ne_of_none hc hp)]
    exact s2 _ _ (s1 _ _ (s0 _ _ hc))
def tKy (K : PySem.W.Frag) (r : Ro) (l : List Int) : TE := fun σ H Q => EnvP K H σ r ∧ ∀ q H', Same H H' → H' q = some (.tup (l.map V.int)) → Q (.ref q) H'
theorem ky_tup {kk : Nat} (h : PA X es (tPs X.K r (l.map .int))) (hz : l.length ≤ sizeLine) : PE X (.Tuple es kk pos) (tKy X.K r l) := PE.imp (pe_tup h) fun _ H _ ⟨he, k⟩ => ⟨he, fun xs H1 B s ol => by
  have := ol.ints_inv
  subst this
  exact ⟨by rw [List.length_map]; exact hz, fun q hq => k q _ (s.trans (same_new hq)) upd_same⟩⟩
theorem keyV (l : List Int) : (kT l).map kV = l.map V.int := by unfold kT; rw [List.map_map]; rfl
theorem pp_getT {s : List (List Int × β)} (hu : X.A.units + 64 < cLine) (hd : PE X o (tP X.K r (dicT vf s))) (hk : PE X e (tKy X.K r l)) (hx : PE X f (tP X.K r d0)) (mm : M2 X o "get" apos e f cpos := by exact ⟨rfl, rfl, rfl, rfl⟩) :
    PE X (.Call (.Attribute o "get" apos) [e, f] [] cpos) (tP X.K r (match aGet s l with | some v => vf v | none => d0)) :=
  PE.imp (pe_dget2 (by omega) hd hk hx mm) fun _ H _ ⟨he, k⟩ => ⟨he, fun x H1 B s1 o1 => by
    obtain ⟨a, kvs, C, rfl, ha, r1, ol, rfl⟩ := o1.dicT_inv
    refine ⟨a, rfl, .inr ⟨kvs, .inl ha⟩, he.same s1, fun q H2 s2 hq => ⟨(he.same s1).same s2, fun z H3 D s3 oz => ?_⟩⟩
    refine ⟨valV kvs (kT l), DGet.t (s3 _ _ (s2 _ _ ha)) (by rw [keyV]; exact s3 _ _ hq), ?_⟩
    obtain ⟨g1, g2⟩ := get_row (fun _ _ h => kT_inj h) r1 ((ol.same s2).same s3) l
    have s13 := (s1.trans s2).trans s3
    cases q : aGet s l with
    | none => rw [g1 q]; rw [q] at k; exact k z H3 D s13 oz
    | some v =>
      obtain ⟨y, E, e1, e2, _⟩ := g2 v q
      rw [e1]; rw [q] at k; exact k y H3 E s13 e2⟩
theorem pp_dixL {s : List (Int × Int)} {v : Int} (hu : X.A.units + 64 < cLine) (hd : PE X o (tP X.K r (lkI s))) (hk : PE X ix (tP X.K r (.int i))) (hg : aGet s i = some v) (hs : NoSl ix := by exact fun _ _ => rfl) : PE X (.Subscript o ix pos) (tP X.K r (.int v)) :=
  PE.imp (pe_dget (by omega) hd hk hs) fun _ H _ ⟨he, k⟩ => ⟨he, fun x H1 B s1 o1 => by
    obtain ⟨a, ob, rfl, ha, rfl⟩ := o1.lkI_inv
    refine ⟨he.same s1, fun y H2 C s2 o2 => ⟨a, .int v, rfl, .inl ⟨_, kI i, .inr ⟨ob, s2 _ _ ha⟩, ?_, ?_⟩, k _ H2 [] (s1.trans s2) (.int v)⟩⟩
    · rw [o2.int_inv]; rfl
    · rw [get_int kI_inj, hg]; rfl⟩
def rDIn (w : Option V → Bool) : R2 := fun y x H Q => ∃ a ov, x = .ref a ∧ DGet H a y ov ∧ Q (.bl (w ov)) H
theorem op_dIn (hu : X.A.units + 1 < cLine) : OpR X (compareOp .In) (rDIn fun ov => ov.isSome) := by
  intro pins s σ H x y v u Q I rx ry h
  obtain ⟨a, ov, rfl, g, q⟩ := h
  cases (show u = Value.ref a from ry)
  exact d_in hu I g rx fun s' I' => ⟨.bl ov.isSome, H, I', rfl, q⟩
theorem c_inL {s : List (Int × Int)} (hu : X.A.units + 64 < cLine) : CmpD X .In (.int i) (lkI s) (aGet s i).isSome := ⟨_, op_dIn (by omega), fun H x y B C o1 o2 Q q => by
  obtain ⟨a, ob, rfl, ha, rfl⟩ := o2.lkI_inv
  refine ⟨a, _, rfl, .inl ⟨_, kI i, .inr ⟨ob, ha⟩, (by rw [o1.int_inv]; rfl), rfl⟩, ?_⟩
  rw [get_int kI_inj]
  have : ((aGet s i).map V.int).isSome = (aGet s i).isSome := by cases aGet s i <;> rfl
  show Q (.bl ((aGet s i).map V.int).isSome) H
  rw [this]; exact q⟩
theorem ds_putT {s : List (List Int × β)} {v : β} (n : Nat) (hu : X.A.units + 64 < cLine) (ho : PE X o (tVar n)) (hn : ρ[n]? = some (.ow (dicT vf s)) := by rfl) (hx : PE X ix (tKy X.K (ρ.map pu) l)) (he : PE X e (tF X.K (ρ.map pu) (vf v))) (hz : s.length < sizeLine) (nd : (s.map (·.1)).Nodup)
    (ha : ∀ v, assign (.Subscript o ix tpos) X.env v = (do
      let ov ← holding [v] (eval o X.env)
      let iv ← holding [v, ov] (eval ix X.env)
      standAt tpos
      holding [v, ov, iv] (setItem ov iv v)
      release [v, ov, iv] []) := by intro _; rfl)
    (hs : swapsWithSole [.Subscript o ix tpos] e pos.line X.env = pure false := by rfl) (hw : swappedStores [.Subscript o ix tpos] e X.env = pure none := by rfl) (h1 : (assignEach [.Subscript o ix tpos] X.env).map (·.2) = [assign (.Subscript o ix tpos) X.env] := by rfl) :
    PS X (.Assign [.Subscript o ix tpos] e pos) (tS X.K m ρ (fun m1 ρ1 => m1 = m ∧ ρ1 = ρ.set n (.ow (dicT vf (aPut s l v)))) R) :=
  PS.imp (ps_asg he (pg_sub ho hx (set_dict (by omega)) ha) hs hw h1) fun D σ H ⟨Pt, He, A, e, k1, _⟩ => ⟨e.envP, fun y H2 B sm oy nB fB => by
    obtain ⟨x, C0, h1, o0, n0, f0, wr⟩ := e.write hn
    have hS := o0.isS
    obtain ⟨p, kvs, C, rfl, hp, r1, ol, rfl⟩ := o0.dicT_inv
    have hBC : ∀ c ∈ B, c ∉ p :: C := fun c hc z => hS c z (fB c hc)
    have hp2 := sm _ _ hp
    refine ⟨_, h1, e.envP.same sm, fun q H3 s3 hq => ⟨p, _, rfl, DPut.t (s3 _ _ hp2) (by rw [keyV]; exact hq) ?_, ?_⟩⟩
    · have : kvs.length = s.length := by have := congrArg List.length r1; simpa using this
      omega
    obtain ⟨k2, C', ol2, nC', sub⟩ := put_rows (k := l) (fun _ _ h => kT_inj h) (oy.same s3) nB r1 ((ol.same sm).same s3) (List.nodup_cons.mp n0).2 (fun c hc z => hBC c hc (List.mem_cons_of_mem _ z)) nd
    have kp2 : Kp [p] false H3 (upd H3 p (.dT (putK kvs (kT l) y))) := Kp.upd (by simp) (s3 _ _ hp2) trivial
    have kp : Kp [p] false H (upd H3 p (.dT (putK kvs (kT l) y))) := (Kp.of_same (sm.trans s3)).trans kp2
    have nC2 : ∀ c ∈ C', c ∉ [p] := fun c hc z => by
      have z : c = p := by simpa using z
      subst z
      rcases sub c hc with hc | hc
      · exact (List.nodup_cons.mp n0).1 hc
      · exact hBC c hc List.mem_cons_self
    have own2 : Own X.K (upd H3 p (.dT (putK kvs (kT l) y))) (.ref p) (dicT vf (aPut s l v)) (p :: C') := by
      have := Own.dT (a := p) (kvs := putK kvs (kT l) y) (ds := (aPut s l v).map fun e => vf e.2) upd_same (ol2.kp kp2 nC2)
      have e4 : ((putK kvs (kT l) y).map fun p => tD p.1).zip ((aPut s l v).map fun e => vf e.2) = (aPut s l v).map fun e => (.tuple (e.1.map .int), vf e.2) := by
        have e5 : (putK kvs (kT l) y).map (fun p => tD p.1) = (aPut s l v).map fun e => .tuple (e.1.map .int) := by
          have := congrArg (List.map tD) k2
          rw [List.map_map, List.map_map] at this
          rw [show (putK kvs (kT l) y).map (fun p => tD p.1) = (putK kvs (kT l) y).map (tD ∘ (·.1)) from rfl, this]
          exact List.map_congr_left fun e _ => tD_kT e.1
        rw [e5]
        generalize aPut s l v = t
        induction t with
        | nil => rfl
        | cons e t ih => rw [List.map_cons, List.map_cons, List.zip_cons_cons, ih, List.map_cons]
      rw [e4] at this
      exact this
    obtain ⟨A', e'⟩ := wr [p] (p :: C') _ (dicT vf (aPut s l v)) kp (by simp) own2 (List.nodup_cons.mpr ⟨fun z => nC2 p z (by simp), nC'⟩) fun c hc => by
      rcases List.mem_cons.mp hc with rfl | hc
      · exact .inl List.mem_cons_self
      · rcases sub c hc with hc | hc
        · exact .inl (List.mem_cons_of_mem _ hc)
        · exact .inr (fB c hc)
    exact k1 He σ _ m _ A' (.refl _) e' ⟨rfl, rfl⟩⟩
end
end DL
end
section
set_option Elab.async false
set_option linter.all false
set_option maxRecDepth 100000
set_option maxHeartbeats 4000000
namespace DL
open PySem PySem.Spec L2
section
variable {X : Cx} {m : Nat} {ρ : Rh} {r : Ro} {N : Nat → Rh → Prop} {R : Nat → PyData → Prop} {a b c e o ix f tg iter kx vx : Expr} {es elts : List Expr} {rest : List Stmt} {pos cpos apos tpos p : Pos} {d d0 : PyData} {i j : Int} {l : List Int} {β : Type} {vf : β → PyData}
theorem pss_lock {t : TS} (h : PSs X rest t) : PSs X rest (fun D σ H => ∃ d u, H d = some u ∧ Mut (some u) ∧ ∀ od, t D σ (upd H d (.frz od u))) :=
  ⟨fun pins s σ H D I ⟨d, u, hd, mu, hw⟩ => by
    obtain ⟨od, I1⟩ := I.lock hd mu
    exact h.run pins s σ _ D I1 (hw od)⟩
theorem OwnL.intsV {K : PySem.W.Frag} {H : Hp} {κ τ : Type} {tk : τ → κ} : ∀ {kvs : List (κ × V)} {s : List (τ × Int)} {C : List Addr}, kvs.map (·.1) = s.map (fun e => tk e.1) → OwnL K H (kvs.map (·.2)) (s.map fun e => .int e.2) C → kvs = s.map fun e => (tk e.1, V.int e.2)
  | [], [], _, _, _ => rfl
  | [], _ :: _, _, h, _ => by simp at h
  | _ :: _, [], _, h, _ => by simp at h
  | p :: kvs, e :: s, _, h, ol => by
    rw [List.map_cons, List.map_cons] at h
    injection h with h1 h2
    rw [List.map_cons, List.map_cons] at ol
    cases ol with
    | cons o l =>
      have hp : p = (tk e.1, V.int e.2) := Prod.ext h1 o.int_inv
      rw [List.map_cons, OwnL.intsV h2 l, hp]
theorem dss_lockI {s : List (Int × Int)} (n : Nat) (h : PSs X rest (tS X.K m (ρ.set n (.ow (lkI s))) N R)) (hn : ρ[n]? = some (.ow (dicI .int s)) := by rfl) : PSs X rest (tS X.K m ρ N R) :=
  PSs.imp (pss_lock h) fun D σ H ⟨Pt, He, A, e, k1, k2⟩ => by
    obtain ⟨x, C0, h1, o0, n0, f0, wr⟩ := e.write hn
    obtain ⟨a, kvs, C, rfl, ha, r1, ol, rfl⟩ := o0.dicI_inv
    have hk := OwnL.intsV r1 ol
    subst hk
    refine ⟨a, _, ha, trivial, fun od => ?_⟩
    obtain ⟨A', e'⟩ := wr [a] [] (upd H a (.frz od _)) (lkI s) (Kp.upd (by simp) ha trivial) (by simp) (by
      have := Own.lk (K := X.K) (H := upd H a (.frz od (.dK (s.map fun e => (kI e.1, V.int e.2))))) (a := a) (o := od) (kvs := s.map fun e => (kI e.1, e.2)) (by rw [List.map_map]; exact upd_same)
      rw [List.map_map] at this
      exact this) List.nodup_nil fun _ z => by cases z
    exact ⟨Pt, He, A', e', k1, k2⟩
theorem dss_lockT {s : List (List Int × Int)} (n : Nat) (h : PSs X rest (tS X.K m (ρ.set n (.ow (lkT s))) N R)) (hn : ρ[n]? = some (.ow (dicT .int s)) := by rfl) : PSs X rest (tS X.K m ρ N R) :=
  PSs.imp (pss_lock h) fun D σ H ⟨Pt, He, A, e, k1, k2⟩ => by
    obtain ⟨x, C0, h1, o0, n0, f0, wr⟩ := e.write hn
    obtain ⟨a, kvs, C, rfl, ha, r1, ol, rfl⟩ := o0.dicT_inv
    have hk := OwnL.intsV r1 ol
    subst hk
    refine ⟨a, _, ha, trivial, fun od => ?_⟩
    obtain ⟨A', e'⟩ := wr [a] [] (upd H a (.frz od _)) (lkT s) (Kp.upd (by simp) ha trivial) (by simp) (by
      have := Own.lt (K := X.K) (H := upd H a (.frz od (.dT (s.map fun e => (kT e.1, V.int e.2))))) (a := a) (o := od) (kvs := s.map fun e => (kT e.1, e.2)) (by rw [List.map_map]; exact upd_same)
      rw [List.map_map] at this
      have e6 : s.map ((fun e : List Key × Int => (tD e.1, PyData.int e.2)) ∘ fun e => (kT e.1, e.2)) = s.map fun e => (.tuple (e.1.map .int), .int e.2) := List.map_congr_left fun e _ => by show (tD (kT e.1), _) = _; rw [tD_kT]
      rw [e6] at this
      exact this) List.nodup_nil fun _ z => by cases z
    exact ⟨Pt, He, A', e', k1, k2⟩
def itI (s : List (Int × Int)) : List PyData := s.map fun e => .tuple [.int e.1, .int e.2]
def itT (s : List (List Int × Int)) : List PyData := s.map fun e => .tuple [.tuple (e.1.map .int), .int e.2]
theorem pi_itemsI {s : List (Int × Int)} {kk : Nat} (h : PE X e (tP X.K r (lkI s))) (hz : s.length ≤ sizeLine) (hbase : attributeBase e "items" X.env (eval e X.env) = eval e X.env := by rfl) (hline : (apos.endLine == cpos.line) = true := by rfl) :
    PI X (.Tuple elts kk tpos) (.Call (.Attribute e "items" apos) [] [] cpos) (tIF X.K r (itI s)) :=
  PI.imp (pi_items h hbase hline) fun σ H R ⟨he, k⟩ => ⟨he, fun x H1 B s1 o1 => by
    obtain ⟨a, ob, rfl, ha, rfl⟩ := o1.lkI_inv
    refine ⟨a, ob, _, rfl, ha, k _ H1 [] s1 ⟨fun i H2 d2 kq hd => ?_, fun H2 kq => ⟨kq _ _ ha (fun z => z.elim) (fun z => z), by unfold itI; simp⟩, by unfold itI; simpa using hz⟩ (fun _ z => by cases z) fun _ z => by cases z⟩
    have ha2 := kq _ _ ha (fun z => z.elim) (fun z => z)
    unfold itI at hd
    rw [List.getElem?_map] at hd
    obtain ⟨q, hq, hd⟩ := Option.map_eq_some_iff.mp hd
    subst hd
    have hi : i < s.length := (List.getElem?_eq_some_iff.mp hq).1
    refine ⟨⟨ha2, by simpa using hi⟩, fun x H3 ⟨T, k0, v0, h1, h2, h3, h4⟩ => ?_⟩
    rw [List.getElem?_map, hq] at h1
    cases h1
    subst h2 h4
    exact ⟨same_new h3, [], .tup (.of upd_same) (by show 2 ≤ sizeLine; rw [PySem.sizeLine_eq]; decide) (.cons (.int _) (.cons (.int _) .nil)), fun _ z => by cases z⟩⟩
theorem pi_itemsTD {s : List (List Int × Int)} {kk : Nat} (h : PE X e (tP X.K r (lkT s))) (hz : s.length ≤ sizeLine) (hw : ∀ e ∈ s, e.1.length ≤ sizeLine) (hbase : attributeBase e "items" X.env (eval e X.env) = eval e X.env := by rfl) (hline : (apos.endLine == cpos.line) = true := by rfl) :
    PI X (.Tuple elts kk tpos) (.Call (.Attribute e "items" apos) [] [] cpos) (tIF X.K r (itT s)) :=
  PI.imp (pi_itemsT h hbase hline) fun σ H R ⟨he, k⟩ => ⟨he, fun x H1 B s1 o1 => by
    obtain ⟨a, ob, rfl, ha, rfl⟩ := o1.lkT_inv
    refine ⟨a, ob, _, rfl, ha, k _ H1 [] s1 ⟨fun i H2 d2 kq hd => ?_, fun H2 kq => ⟨kq _ _ ha (fun z => z.elim) (fun z => z), by unfold itT; simp⟩, by unfold itT; simpa using hz⟩ (fun _ z => by cases z) fun _ z => by cases z⟩
    have ha2 := kq _ _ ha (fun z => z.elim) (fun z => z)
    unfold itT at hd
    rw [List.getElem?_map] at hd
    obtain ⟨q, hq, hd⟩ := Option.map_eq_some_iff.mp hd
    subst hd
    have hi : i < s.length := (List.getElem?_eq_some_iff.mp hq).1
    refine ⟨⟨ha2, by simpa using hi⟩, fun x H3 ⟨T, k0, v0, t, h1, h2, h3, h5, h4⟩ => ?_⟩
    rw [List.getElem?_map, hq] at h1
    cases h1
    subst h2 h4
    have ht : t ≠ T := ne_of_none h5 h3
    rw [keyV] at h5
    refine ⟨same_new h3, [], .tup (.of upd_same) (by show 2 ≤ sizeLine; rw [PySem.sizeLine_eq]; decide) (.cons (.tup (.of (by rw [upd_ne ht]; exact h5)) ?_ (OwnL.ints q.1)) (.cons (.int _) .nil)), fun _ z => by cases z⟩
    rw [List.length_map]
    exact hw q (List.mem_of_getElem? hq)⟩
theorem pf_dcI {α : Type} {l : List α} {f : α → PyData} {kf gf : α → Int} {r' : α → Ro} {own : List (Str × Nat)} {scope : Scope}
    (hc : X.calm = true) (hN : X.N.Nodup) (hi : PI X tg iter (tI X.K r (l.map f))) (ok : BlkOk X.N X.env.scope scope own)
    (hg : ∀ (s : Shared) (H : Hp) (C : Addr) (cl : List (Str × Addr)) (fp : List Addr), ∀ a ∈ l, PG (X.blk s H scope (compEnvC scope cl C X.env) fp) tg (gD X.K (f a) (wipeR r (own.map (·.2))) (r' a) (own.map (·.2))))
    (hk : ∀ (s : Shared) (H : Hp) (C : Addr) (cl : List (Str × Addr)) (fp : List Addr), ∀ a ∈ l, PE (X.blk s H scope (compEnvC scope cl C X.env) fp) kx (tP X.K (r' a) (.int (kf a))))
    (hv : ∀ (s : Shared) (H : Hp) (C : Addr) (cl : List (Str × Addr)) (fp : List Addr), ∀ a ∈ l, PE (X.blk s H scope (compEnvC scope cl C X.env) fp) vx (tP X.K (r' a) (.int (gf a))))
    (nd : (l.map kf).Nodup) (hs : ∀ x, foldedSetIterable iter X.env x = pure x := by intro _; rfl) :
    PE X (.DictComp kx vx [⟨tg, iter, [], 0⟩] scope pos) (tF X.K r (dicI .int (l.map fun a => (kf a, gf a)))) := by
  have hg' : ∀ (s : Shared) (H : Hp) (C : Addr) (cl : List (Str × Addr)) (fp : List Addr), PG (X.blk s H scope (compEnvC scope cl C X.env) fp) tg (fun v σ H Q => ∃ a, a ∈ l ∧ gD X.K (f a) (wipeR r (own.map (·.2))) (r' a) (own.map (·.2)) v σ H Q) :=
    fun s H C cl fp => ⟨fun pins s' σ H' v u Q I rv ⟨a, ha, h⟩ => (hg s H C cl fp a ha).run pins s' σ H' v u Q I rv h⟩
  have hk' : ∀ (s : Shared) (H : Hp) (C : Addr) (cl : List (Str × Addr)) (fp : List Addr), PE (X.blk s H scope (compEnvC scope cl C X.env) fp) kx (fun σ H Q => ∃ a, a ∈ l ∧ tP X.K (r' a) (.int (kf a)) σ H Q) :=
    fun s H C cl fp => ⟨fun pins s' σ H' Q I ⟨a, ha, h⟩ => (hk s H C cl fp a ha).run pins s' σ H' Q I h⟩
  have hv' : ∀ (s : Shared) (H : Hp) (C : Addr) (cl : List (Str × Addr)) (fp : List Addr), PE (X.blk s H scope (compEnvC scope cl C X.env) fp) vx (fun σ H Q => ∃ a, a ∈ l ∧ tP X.K (r' a) (.int (gf a)) σ H Q) :=
    fun s H C cl fp => ⟨fun pins s' σ H' Q I ⟨a, ha, h⟩ => (hv s H C cl fp a ha).run pins s' σ H' Q I h⟩
  refine PE.imp (pe_dc hc hN hi ok hg' (fun _ _ _ _ _ => pts_nil) hk' hv' hs) fun σ H Q ⟨hE, k⟩ => ⟨hE, fun J H1 F s1 sq D hD => ?_⟩
  have hlen : (l.map f).length = l.length := List.length_map _
  have hsz : l.length ≤ sizeLine := by rw [← hlen]; exact sq.size
  refine ⟨fun i m H2 => m = l.length - i ∧ i ≤ l.length ∧ Same H1 H2 ∧ H2 D = some (.dK ((l.take i).map fun a => (kI (kf a), V.int (gf a)))),
    ⟨l.length, by simp, Nat.zero_le _, same_new hD, by rw [List.take_zero]; exact upd_same⟩, ?_⟩
  rintro i m H2 ⟨rfl, hile, s2, hacc⟩
  by_cases hlt : i < l.length
  · refine .inr ?_
    have hia : l[i]? = some l[i] := by simp [hlt]
    have hid : (l.map f)[i]? = some (f l[i]) := by rw [List.getElem?_map, hia]; rfl
    obtain ⟨go, yl⟩ := sq.go i H2 _ (Kq.of_same s2) hid
    refine ⟨go, fun H' => i + 1 ≤ l.length ∧ Same H1 H' ∧ H' D = some (.dK ((l.take (i + 1)).map fun a => (kI (kf a), V.int (gf a)))), fun H' h' => ⟨l.length - (i + 1), by omega, rfl, h'⟩, fun x H3 y3 => ?_⟩
    obtain ⟨s3, Bx, ox, _⟩ := yl x H3 y3
    have hal : l[i] ∈ l := List.getElem_mem hlt
    have htk : l.take (i + 1) = l.take i ++ [l[i]] := by rw [List.take_succ, hia]; rfl
    have sH3 : Same H H3 := (s1.trans s2).trans s3
    refine ⟨l[i], hal, (hE.same sH3).wiped _, ⟨Bx, ox⟩, fun σ4 e4 w4 => ⟨w4.trans (wipe_wipe _ _), ?_⟩⟩
    refine iteT (B := i + 1 ≤ l.length ∧ Same H1 H3 ∧ H3 D = some (.dK ((l.take (i + 1)).map fun a => (kI (kf a), V.int (gf a))))) ?_
    refine ⟨l[i], hal, e4, fun y H4 C s4 oy => ⟨l[i], hal, e4.same s4, fun z H5 C5 s5 oz => ?_⟩⟩
    have hD5 := s5 _ _ (s4 _ _ (s3 _ _ hacc))
    have hnew : valV ((l.take i).map fun a => (kI (kf a), V.int (gf a))) (kI (kf l[i])) = none := by
      unfold valV
      rw [List.find?_eq_none.mpr]; · rfl
      intro q hq
      obtain ⟨a, ha, rfl⟩ := List.mem_map.mp hq
      simp only [decide_eq_true_eq]
      intro z
      have z := kI_inj _ _ z
      obtain ⟨t, ht, rfl⟩ := List.getElem_of_mem ha
      rw [List.getElem_take] at z
      rw [List.length_take] at ht
      have hp := List.pairwise_iff_getElem.mp (List.nodup_iff_pairwise_ne.mp nd) t i (by simp; omega) (by simpa using hlt) (by omega)
      rw [List.getElem_map, List.getElem_map] at hp
      exact hp z
    refine ⟨_, kI (kf l[i]), by rw [oy.int_inv]; rfl, hD5, by rw [List.length_map, List.length_take]; omega, hlt, fun b ob hb => ?_, ?_⟩
    · rw [upd_ne (ne_of_none hb hD)]
      exact s5 _ _ (s4 _ _ (s3 _ _ (s2 _ _ hb)))
    · rw [upd_same, putK_new _ hnew, htk, List.map_append, oz.int_inv]; rfl
  · have e : i = l.length := by omega
    subst e
    refine .inl ⟨by rw [← hlen]; exact sq.stop H2 (Kq.of_same s2), ?_⟩
    rw [List.take_length] at hacc
    refine k (.ref D) H2 [D] (s1.trans s2) ?_ (by simp) fun b hb => by rw [List.mem_singleton.mp hb]; exact s1.free hD
    have := Own.dK (K := X.K) (a := D) (kvs := l.map fun a => (kI (kf a), V.int (gf a))) (ds := l.map fun a => .int (gf a)) (B := []) hacc (by
      rw [List.map_map]
      exact OwnL.leafs (f := fun a => V.int (gf a)) (fun _ => .int _) l)
    have e7 : ((l.map fun a => (kI (kf a), V.int (gf a))).map fun p => kD p.1).zip (l.map fun a => PyData.int (gf a)) = (l.map fun a => (kf a, gf a)).map fun e => (.int e.1, .int e.2) := by
      rw [List.map_map, List.map_map]
      generalize l = t
      induction t with
      | nil => rfl
      | cons e t ih => rw [List.map_cons, List.map_cons, List.zip_cons_cons, ih, List.map_cons]; rfl
    rw [e7] at this
    exact this
def rSortD (K : PySem.W.Frag) {α : Type} (enc : α → PyData) (bs : List α) : List V → Hp → VK → Prop := fun vs H Q => ∃ (a : Addr) (xs : List V), vs = [V.ref a] ∧ H a = some (.lst xs) ∧ OwnL K H xs (bs.map enc) [] ∧
  ∀ ys p, OwnL K H ys ((bs.mergeSort (PySem.W.dataLe false enc)).map enc) [] → H p = none → Q (.ref p) (upd H p (.lst ys))
end
end DL
end
section
set_option Elab.async false
set_option linter.all false
set_option maxRecDepth 100000
set_option maxHeartbeats 4000000
namespace DL
open PySem PySem.Spec L2
section
variable {X : Cx} {pins : List (Addr × Obj)} {σ : St} {H : Hp} {s : Shared} {α : Type} {enc : α → PyData}
def VD (K : PySem.W.Frag) (H : Hp) (enc : α → PyData) (u : Value) (b : α) : Prop := ∃ x, RelV x u ∧ Own K H x (enc b) []
theorem vd_all {K : PySem.W.Frag} : ∀ {xs : List V} {us : List Value} {bs : List α} {B : List Addr}, Vals xs us → OwnL K H xs (bs.map enc) B → B = [] → PySem.W.EachIs (VD K H enc) us bs
  | _, _, [], _, r, ol, _ => by
    cases ol
    cases r
    exact .nil
  | _, _, b :: bs, _, r, ol, hB => by
    rw [List.map_cons] at ol
    cases ol with
    | cons o l =>
      obtain ⟨rfl, rfl⟩ := List.append_eq_nil_iff.mp hB
      cases r with
      | cons r1 r2 => exact .cons ⟨_, r1, o⟩ (vd_all r2 l rfl)
theorem vd_back {K : PySem.W.Frag} : ∀ {us : List Value} {bs : List α}, PySem.W.EachIs (VD K H enc) us bs → ∃ xs, Vals xs us ∧ OwnL K H xs (bs.map enc) []
  | _, _, .nil => ⟨[], .nil, .nil⟩
  | _, _, .cons ⟨x, r, o⟩ t => by
    obtain ⟨xs, r2, ol⟩ := vd_back t
    exact ⟨x :: xs, .cons r r2, .cons o ol⟩
theorem cr_sortD (bs : List α) (hcan : ∀ b ∈ bs, (enc b).canLay0 = true) (hal : PySem.W.AllAlike (bs.map enc)) (hk : PySem.W.Sortable (bs.map enc)) (hu : ∀ b ∈ bs, X.A.units + 2 + (enc b).depth < cLine) : CallR X (.builtin "sorted") (rSortD X.K enc bs) := by
  intro pins s σ H vs us Q I r h
  obtain ⟨a, xs, rfl, ha, ol, q⟩ := h
  obtain rfl := Vals.ref1 r
  obtain ⟨its, rv, pl, hz⟩ := I.list (.of ha)
  have e := vd_all rv ol rfl
  have hl : bs.length = xs.length := by rw [ol.length, List.length_map]
  have er : PySem.W.EachIs (fun v b => ∃ as, Reads s.heap v (enc b) as) its bs := by
    refine (PySem.W.each_mem e).mono fun v b ⟨⟨x, rx, o⟩, hb⟩ => ?_
    exact Dp.reads I _ x v (o.dp (hcan b hb)) rx
  refine PySem.W.sorted_data pl.isList e er hal hk (by rw [hl]; exact hz) hu fun out ho eo => ?_
  obtain ⟨ys, ry, oy⟩ := vd_back eo
  obtain ⟨ep, he'⟩ := PyProof.Rows.sortedAll_at s.heap its out.toArray
  have hy : ys.length ≤ sizeLine := by rw [ry.length, ho, hl]; exact hz
  exact ⟨.ref _, upd H (s.heap.objs.size + 1) (.lst ys), I.laid (t' := s.toks) (fun _ _ => PyProof.Rows.sortedAll_old) (Nat.le_succ _) ⟨hy, out, ep, ry, he'⟩, rfl, q _ _ oy (I.hok.fresh (Nat.le_succ _))⟩
def rReprD (K : PySem.W.Frag) : List V → Hp → VK → Prop := fun vs H Q => ∃ (a : Addr) (d : PyData), vs = [V.ref a] ∧ Dp K H (.ref a) d ∧ d.canLay0 = true ∧ d.showable = true ∧ d.depth ≤ 60 ∧ d.shown.length ≤ sizeLine ∧ Q (.str d.shown) H
theorem cr_repr (hg : X.A.guards = some []) (hu : X.A.units + 64 < cLine) : CallR X (.builtin "repr") (rReprD X.K) := by
  intro pins s σ H vs us Q I r h
  obtain ⟨a, d, rfl, hd, hc, hs, hdp, hsz, q⟩ := h
  obtain rfl := Vals.ref1 r
  obtain ⟨as, hr⟩ := Dp.reads I d (.ref a) (.ref a) hd rfl
  exact repr_of_reads' hr hs (PyData.noDict_hsm (PyData.hasDict_of_canLay d hc)) hg (by omega) (fun _ _ e => e) (fun h' u tk hk => ⟨.str d.shown, H, I.kept (t' := tk) hk, ⟨u, rfl⟩, q⟩) hsz
end
mutual
def szD : PyData → Nat
  | .none => 4
  | .bool _ => 5
  | .int _ => 24
  | .str x => (reprText x).length
  | .list l => szAll l + 3
  | .tuple l => szAll l + 3
  | .dict _ => 0
def szAll : List PyData → Nat
  | [] => 0
  | d :: l => szD d + 2 + szAll l
end
mutual
def okD : PyData → Bool
  | .none => true
  | .bool _ => true
  | .int i => decide (i.natAbs < 10 ^ 20)
  | .str x => PyData.strOk x
  | .list l => okAll l
  | .tuple l => okAll l
  | .dict _ => false
def okAll : List PyData → Bool
  | [] => true
  | d :: l => okD d && okAll l
end
theorem int_text {i : Int} (h : i.natAbs < 10 ^ 20) : (PySem.Str.ofString (toString i)).length ≤ 24 := by
  have e : ∀ m : Nat, m < 10 ^ 20 → (Nat.repr m).toList.length ≤ 20 := fun m hm => by
    have := (Nat.length_repr_le_iff (n := m) (by decide : 0 < 20)).mpr hm
    rwa [← String.length_toList] at this
  have l : ∀ t : String, (PySem.Str.ofString t).length = t.toList.length := fun t => by
    have := congrArg List.length (PyProof.Rows.signs_ofString t)
    rw [List.length_map] at this
    rw [← this]; rfl
  rw [l]
  cases i with
  | ofNat m =>
    have := e m (by simpa using h)
    show (Nat.repr m).toList.length ≤ 24
    omega
  | negSucc m =>
    have := e (m + 1) (by simpa using h)
    show ("-" ++ Nat.repr (m + 1)).toList.length ≤ 24
    rw [String.toList_append, List.length_append]
    have : "-".toList.length = 1 := by decide
    omega
theorem log_small {n : Nat} (h : n < 10 ^ 20) : n.log2 < 1920 := by
  rcases Nat.eq_zero_or_pos n with z | z
  · subst z; decide
  · refine (Nat.log2_lt (by omega)).mpr (Nat.lt_of_lt_of_le h ?_)
    have h1 : (10 : Nat) ^ 20 ≤ 2 ^ 67 := by decide
    exact Nat.le_trans h1 (Nat.pow_le_pow_right (by decide) (by decide))
theorem fromLen : ∀ (ts : List Str) (k : Nat) (acc : Str) (n : Nat), (∀ t ∈ ts, t.length ≤ n → True) → (textFrom k acc ts).length ≤ acc.length + (ts.map fun t => t.length + 2).sum
  | [], _, _, _, _ => by show _ ≤ _ + 0; exact Nat.le_refl _
  | t :: ts, k, acc, n, h => by
    have := fromLen ts (k + 1) (acc ++ (if k > 0 then ", " else "" : String) ++ t) n fun _ _ _ => trivial
    have e : (acc ++ (if k > 0 then ", " else "" : String) ++ t).length ≤ acc.length + 2 + t.length := by
      rw [strLen_append, strLen_append]
      split
      · exact Nat.le_refl _
      · show acc.length + 0 + t.length ≤ _; omega
    rw [List.map_cons, List.sum_cons]
    show (textFrom (k + 1) _ ts).length ≤ _
    omega
theorem joinLen : ∀ ts : List Str, (PySem.Str.join ", " ts).length ≤ (ts.map fun t => t.length + 2).sum
  | [] => Nat.zero_le _
  | [x] => by rw [PyProof.Rows.join_one, List.map_cons, List.sum_cons]; omega
  | x :: y :: r => by
    have := joinLen (y :: r)
    have e2 : ((", " : String) : Str).length = 2 := rfl
    rw [PyProof.Rows.join_cons_cons, strLen_append, strLen_append, e2, List.map_cons, List.sum_cons]
    omega
mutual
theorem shown_le : ∀ d : PyData, okD d = true → d.shown.length ≤ szD d ∧ d.showable = true ∧ d.canLay0 = true
  | .none, _ => ⟨by show ("None" : Str).length ≤ 4; decide, by simp [PyData.showable], by simp [PyData.canLay0]⟩
  | .bool b, _ => ⟨by cases b <;> (simp only [PyData.shown]; decide), by simp [PyData.showable], by simp [PyData.canLay0]⟩
  | .int i, h => by
    have h' : i.natAbs < 10 ^ 20 := by simpa [okD] using h
    refine ⟨?_, by simpa [PyData.showable] using log_small h', by simp [PyData.canLay0]⟩
    simp only [PyData.shown, szD]
    exact int_text h'
  | .str x, h => ⟨by simp only [PyData.shown, szD]; exact Nat.le_refl _, by simp [PyData.showable], by simpa [PyData.canLay0, okD] using h⟩
  | .list l, h => by
    obtain ⟨h1, h2, h3⟩ := shownAll_le l (by simpa only [okD] using h)
    refine ⟨?_, by simpa only [PyData.showable] using h2, by simpa only [PyData.canLay0] using h3⟩
    simp only [PyData.shown, szD]
    unfold listText
    rw [strLen_append]
    have := fromLen (PyData.shownAll l) 0 "[" 0 fun _ _ _ => trivial
    have e1 : (("[" : String) : Str).length = 1 := rfl
    have e2 : (("]" : String) : Str).length = 1 := rfl
    omega
  | .tuple l, h => by
    obtain ⟨h1, h2, h3⟩ := shownAll_le l (by simpa only [okD] using h)
    refine ⟨?_, by simpa only [PyData.showable] using h2, by simpa only [PyData.canLay0] using h3⟩
    simp only [PyData.shown, szD]
    unfold tupleText
    rw [strLen_append, strLen_append]
    have := joinLen (PyData.shownAll l)
    have e1 : (("(" : String) : Str).length = 1 := rfl
    have e3 : (((if (PyData.shownAll l).length == 1 then ",)" else ")" : String) : Str)).length ≤ 2 := by split <;> decide
    omega
  | .dict _, h => by simp [okD] at h
theorem shownAll_le : ∀ l : List PyData, okAll l = true → ((PyData.shownAll l).map fun t => t.length + 2).sum ≤ szAll l ∧ PyData.showableAll l = true ∧ PyData.canLayAll0 l = true
  | [], _ => ⟨by simp [PyData.shownAll, szAll], by simp [PyData.showableAll], by simp [PyData.canLayAll0]⟩
  | d :: l, h => by
    simp only [okAll, Bool.and_eq_true] at h
    obtain ⟨a1, a2, a3⟩ := shown_le d h.1
    obtain ⟨b1, b2, b3⟩ := shownAll_le l h.2
    refine ⟨?_, by simp [PyData.showableAll, a2, b2], by simp [PyData.canLayAll0, a3, b3]⟩
    simp only [PyData.shownAll, szAll, List.map_cons, List.sum_cons]
    omega
end
theorem szAll_map {α : Type} {f : α → PyData} {c : Nat} : ∀ l : List α, (∀ a ∈ l, szD (f a) ≤ c) → szAll (l.map f) ≤ l.length * (c + 2)
  | [], _ => by simp [szAll]
  | a :: l, h => by
    have h1 := szAll_map l fun x hx => h x (List.mem_cons_of_mem _ hx)
    have h2 := h a List.mem_cons_self
    rw [List.map_cons, szAll, List.length_cons, Nat.add_mul]
    omega
theorem okAll_map {α : Type} {f : α → PyData} : ∀ l : List α, (∀ a ∈ l, okD (f a) = true) → okAll (l.map f) = true
  | [], _ => by simp [okAll]
  | a :: l, h => by rw [List.map_cons, okAll, h a List.mem_cons_self, okAll_map l fun x hx => h x (List.mem_cons_of_mem _ hx)]; rfl
theorem depth_map {α : Type} {f : α → PyData} {c : Nat} : ∀ l : List α, (∀ a ∈ l, (f a).depth ≤ c) → PyData.depthAll (l.map f) ≤ c
  | [], _ => by simp [PyData.depthAll]
  | a :: l, h => by
    rw [List.map_cons, PyData.depthAll]
    exact Nat.max_le.mpr ⟨h a List.mem_cons_self, depth_map l fun x hx => h x (List.mem_cons_of_mem _ hx)⟩
section
variable {X : Cx} {r : Ro} {e : Expr} {pos p : Pos} {d d1 : PyData}
theorem pf_repr (hg : X.A.guards = some []) (hu : X.A.units + 64 < cLine) (h : PE X e (tP X.K r d)) (hd : nm d = d1) (ho : okD d1 = true) (hz : szD d1 ≤ sizeLine) (hdp : d1.depth ≤ 60) (hr : ∀ (K : PySem.W.Frag) (H : Hp) (x : V) (B : List Addr), Own K H x d B → ∃ a, x = .ref a)
    (hgl : Gl X "repr") (hm : X.mg "repr" = none) (hs : starEach [e] X.env = (false, eval e X.env) :: starEach [] X.env := by rfl) (hpl : (backTo pos (starEach [] X.env)).any (·.1) = false := by rfl) :
    PE X (.Call (.Name "repr" p) [e] [] pos) (tF X.K r (.str d1.shown)) := by
  subst hd
  obtain ⟨z1, z2, z3⟩ := shown_le (nm d) ho
  exact PE.imp (pe_callB (cr_repr hg hu) hgl hm (by decide +kernel) (pa_cons h pa_nil hs) (he := hs) (hpl := hpl)) fun _ H _ ⟨he, k⟩ => ⟨he, fun x H1 B s o => by
    obtain ⟨a, rfl⟩ := hr _ _ _ _ o
    exact ⟨a, nm d, rfl, o.dpN z3, z3, z2, hdp, Nat.le_trans z1 hz, k _ H1 [] s (.str _) List.nodup_nil fun _ q => by cases q⟩⟩
theorem ref_lst {ds : List PyData} (K : PySem.W.Frag) (H : Hp) (x : V) (B : List Addr) (o : Own K H x (.list ds) B) : ∃ a, x = .ref a := by
  obtain ⟨p, _, _, rfl, _⟩ := o.lst_inv
  exact ⟨p, rfl⟩
theorem pf_sorted {α : Type} {enc : α → PyData} {bs : List α} (h : PE X e (tP X.K r (.list (bs.map enc)))) (hi : immAll (bs.map enc) = true) (hcan : ∀ b ∈ bs, (enc b).canLay0 = true) (hal : PySem.W.AllAlike (bs.map enc)) (hk : PySem.W.Sortable (bs.map enc)) (hu : ∀ b ∈ bs, X.A.units + 2 + (enc b).depth < cLine)
    (hgl : Gl X "sorted") (hm : X.mg "sorted" = none) (hs : starEach [e] X.env = (false, eval e X.env) :: starEach [] X.env := by rfl) (hpl : (backTo pos (starEach [] X.env)).any (·.1) = false := by rfl) :
    PE X (.Call (.Name "sorted" p) [e] [] pos) (tF X.K r (.list ((bs.mergeSort (PySem.W.dataLe false enc)).map enc))) :=
  PE.imp (pe_callB (cr_sortD bs hcan hal hk hu) hgl hm (by decide +kernel) (pa_cons h pa_nil hs) (he := hs) (hpl := hpl)) fun _ H _ ⟨he, k⟩ => ⟨he, fun x H1 B s o => by
    obtain ⟨a, xs, C, rfl, ha, ol, hz, rfl⟩ := o.lst_inv
    have hC := ol.imm hi
    subst hC
    refine ⟨a, xs, rfl, ha, ol, fun ys p oy hp => k _ _ [p] (s.trans (same_new hp)) (.lst upd_same ?_ (oy.same (same_new hp))) (by simp) fun b hb => by rw [List.mem_singleton.mp hb]; exact s.free hp⟩
    rw [oy.length, List.length_map, List.length_mergeSort]
    have := ol.length
    rw [List.length_map] at this
    omega⟩
end
end DL
end
section
set_option Elab.async false
set_option linter.all false
set_option maxRecDepth 100000
set_option maxHeartbeats 4000000
namespace DL
open PySem PySem.Spec L2
section
variable {X : Cx} {m : Nat} {ρ : Rh} {N : Nat → Rh → Prop} {R : Nat → PyData → Prop} {c : Expr} {body rest : List Stmt} {pos : Pos} {w : Bool}
theorem dss_ifS (n : Nat) (d1 : PyData) (hc : PT X c (tT X.K (ρ.map pu) w)) (hT : w = true → PSs X body (tS X.K m ρ (fun m1 ρ1 => m1 = m ∧ ρ1 = ρ.set n (.ow d1)) R)) (hF : w = false → ρ[n]? = some (.ow d1)) (hr : PSs X rest (tS X.K m (ρ.set n (.ow d1)) N R)) :
    PSs X (.If c body [] pos :: rest) (tS X.K m ρ N R) :=
  dss_seq (N1 := fun m1 ρ1 => m1 = m ∧ ρ1 = ρ.set n (.ow d1)) (ds_if hc hT fun hw => dss_nil (Le.refl ρ) ⟨rfl, (set_here (hF hw)).symm⟩) (by rintro _ _ ⟨rfl, rfl⟩; exact hr)
end
end DL
end
section
set_option Elab.async false
set_option linter.all false
set_option maxRecDepth 100000
set_option maxHeartbeats 4000000
namespace DL
open PySem PySem.Spec L2
open PyProof.Rows (envOfC)
structure SupC (P : Program) (K : PySem.W.Frag) (mg : Str → Option Value) (C cda cc : Addr) : Prop where
  oex : OexC K C
  code : ∃ ccl cdd vs ccs file tf, K.lookup cda = some ⟨ccl, cdd, .fields vs, ccs⟩ ∧ vs[2]? = some (.str file tf) ∧ ((P.main.file : Str) == file) = true
  cell : ∃ cl cld csl, K.lookup cc = some ⟨cl, cld, .cell (some (.ref C)), csl⟩
  tp : PySem.W.nsIn K cStatics "thirdparty.any" = some none
  meth : PySem.W.ks_superIn K C C "__init__" = some (some (.builtin "ValueError.__init__"))
  subB : PySem.W.subIn K (.ref C) (.type "ValueError") = some true
  subC : PySem.W.mroIn K C (.ref C) = some true
  top : (P.main.scope.names.lookup ("super" : Str)).isSome = false
  sup : mg "super" = none
section
variable {X : Cx} {pins : List (Addr × Obj)} {σ : L2.St} {H : Hp} {s : Shared} {F : NdefX.NF} {f L a C cc : Addr}
theorem wrap_call {A : Around} {E : Value → Shared → Prop} {hh : Heap} {g : Array GenState} {d : Drawn} {tk : Nat} {os : OsState} {u t0 : Addr} {rest : List Value} {Q : Value → Shared → Prop} {P : Program} {w : World} {nm q : Str} {N : Addr} {bs bm : List Value} {hdct : Bool} {sn : List Str} {sub : List Value} {ab : Bool} {col : Option Bool} {dd : Option Addr} {k0 k1 k2 k3 k5 : Option Value}
    (hC : hh.get? C = some (excClassObj nm q C N bs bm hdct sn sub ab col dd k0 k1 k2 k3 k5 "ValueError.__new__")) (he : hh.get? a = some ({ cls := .ref C, dict := none, data := .fields #[.ref t0, .none, .none, .none, .bool false, .none] } : Obj)) (hu : hh.get? u = some (PySem.W.kxs_mw "ValueError.__init__" a)) (hz : rest.length ≤ sizeLine)
    (hq : ∀ h' t1, (∀ b o, b ≠ a → hh.get? b = some o → h'.get? b = some o) → h'.get? a = some ({ cls := .ref C, dict := none, data := .fields #[.ref t1, .none, .none, .none, .bool false, .none] } : Obj) → Q .none ⟨h', g, d, tk, os⟩) :
    wpAny (model P w) A (call (.ref u) rest) Q E ⟨hh, g, d, tk, os⟩ := by
  refine wpAny_call (codeAny_of_tree ?_); show wpAny _ A.in1 (callAny (.ref u) ⟨rest, []⟩) _ _ _
  simp only [callAny]; refine wpAny_bind (wpAny_load hu ?_)
  simp only [PySem.W.kxs_mw, show (Value.type "method-wrapper" == Value.type "method" || Value.type "method-wrapper" == Value.type "builtin_function_or_method" || Value.type "method-wrapper" == Value.type "method-wrapper") = true by decide, if_true]
  refine PySem.W.KFB.if_so (by decide) ?_; refine wpAny_bind (PySem.W.check_bound_init F.excBase_ValueError.toExcCallFacts hC he rfl ?_)
  refine wpAny_bind (wpAny_pure (wpAny_pure ?_)); refine ⟨plainId_quiet F.excBase_ValueError.init.plain _, codeAny_builtin F.excBase_ValueError.initEntry ?_⟩
  exact PySem.W.exc_init_tree (cls := .ref C) (t0 := t0) (dv := none) (c2 := .none) (c3 := .none) (b4 := .bool false) he hz fun h' k e' _ => hq h' _ k e'
theorem Inv.locIs (I : Inv X pins σ H s) {i : Nat} {x : Str} {v : V} (h1 : X.N[i]? = some x) (h2 : σ[i]? = some (some v)) (hk : X.env.kindOf x = some .local) : ∃ m u, s.heap.Ns X.env.locals m ∧ m x = some u ∧ RelV v u := by
  obtain ⟨m, hns, hl⟩ := I.loc
  obtain ⟨u, ru, lk⟩ := hl i x v h1 h2 (.inl hk)
  rcases lk with ⟨_, e⟩ | ⟨e, _⟩
  · exact ⟨m, u, hns, e, ru⟩
  · rw [hk] at e
    rcases e with e | e <;> cases e
theorem super_init {body : List Stmt} {es : List Expr} {p0 p1 apos pos pos2 : Pos} {fd : FuncData} {oc : Value} {od : Option Addr} {osl : Array (Option Value)} {ar : Arg} {pl : Sem Bool} (I : Inv X pins σ H s) (henv : X.env = NdefX.envF F f L) (S : SupC X.prog X.K X.mg C F.c cc) (hcl : F.cl = [(("__class__" : Str), cc)])
    (hf : X.K.lookup f = some ⟨oc, od, .func fd, osl⟩) (hp : (fd.params.posonlyargs ++ fd.params.args).head? = some ar) (har : ar.arg = "self") (hk : F.scope.kind = .function) (k1 : F.scope.names.lookup ("super" : Str) = some NameKind.globalImplicit) (k2 : F.scope.names.lookup ("__class__" : Str) = some NameKind.free) (k3 : F.scope.names.lookup ("self" : Str) = some NameKind.local)
    (hN0 : X.N[0]? = some ("self" : Str)) (h0 : σ[0]? = some (some (.ref a))) (ha : H a = some (exo a C none))
    (he : ∀ (u : Addr) (s1 : Shared), Inv X pins σ H s1 → wpAny (model X.prog X.w) X.A (evalArgs (.ref u) true (backTo pos (starEach es X.env)) []) (fun ar s2 => s2 = s1 ∧ ar.kw = [] ∧ ar.pos.length ≤ sizeLine) X.xe s1) (hpl : (backTo pos (starEach es X.env)).any (·.1) = false)
    (hev : eval (.Call (.Attribute (.Call (.Name "super" p0) [] [] p1) "__init__" apos) es [] pos) X.env = (do
      let ov ← attributeBase (.Call (.Name "super" p0) [] [] p1) "__init__" X.env (eval (.Call (.Name "super" p0) [] [] p1) X.env)
      standAt apos.atName
      let (f, first) ← holding [ov] (getMethod ov "__init__" pl)
      callWith pos f first (backTo pos (starEach es X.env)) []) := by rfl)
    (hsw : swapsWith (.Call (.Attribute (.Call (.Name "super" p0) [] [] p1) "__init__" apos) es [] pos) none pos2.line X.env = pure false := by rfl) (hi : interactive X.env = false := by rfl) :
    _root_.PySem.wpAt (model X.prog X.w) X.A (.func body X.env) (exec (.Expr (.Call (.Attribute (.Call (.Name "super" p0) [] [] p1) "__init__" apos) es [] pos) pos2) X.env) (fun fl s' => fl = .next ∧ Inv X pins σ H s') X.xe s := by
  obtain ⟨nm, q, N, bs, bm, sn, sub, ab, col, dd, kk0, kk1, kk2, kk3, kk5, hCl, hbm⟩ := S.oex.cls
  obtain ⟨ccl, cdd, vs, ccs, file, tf, hcode, hvs, hfile⟩ := S.code
  obtain ⟨cl, cld, csl, hcell⟩ := S.cell
  have hcd : PySem.W.clsIn X.K C = some { name := nm, bases := bs, mro := .ref C :: bm, ns := N, qualname := q, hasDict := true, slotNames := sn, subclasses := sub, abstract := ab, collection := col, hasDel := false } := by unfold PySem.W.clsIn; rw [hCl] <;> rfl
  have kO : ∀ x, X.env.kindOf x = F.scope.names.lookup x := fun x => by rw [henv]; rfl
  refine ks_wpAt_Expr_any ?_ hi hsw
  refine ks_wpAt_MethodCall (pl := pl) ?_ hev
  have KX := I.kIn
  obtain ⟨m, us, hns, hms, rself⟩ := Inv.locIs I hN0 h0 (by rw [kO]; exact k3)
  obtain rfl : us = Value.ref a := rself
  obtain ⟨t1, hae⟩ := exo_at I.hok ha
  have hkind : X.env.scope.kind = .function := I.ok.kind
  refine ks_wpAt_super_base (f := f) (cc := F.c) (by rw [kO]; exact k1) (by rw [kO]; exact k2) (by decide) (by rw [henv]) (KX _ _ hf) rfl hp (by rw [henv]) (KX _ _ hcode) rfl hvs hfile S.top ?_
  obtain ⟨mb, hb, hbb⟩ := I.ok.mod.blt
  refine PySem.W.ks_loadName_global hkind (by rw [kO]; exact k1) (PySem.Calls.loadGlobal_builtin (by rw [I.ok.glob]; exact I.ok.mod.glob.keeps I.bk) S.sup (by rw [I.ok.blt]; exact hb.keeps I.bk) ((hbb _ (by decide)).trans (by decide +kernel)) ⟨rfl, ?_⟩)
  refine wpAny_loadName_free hkind (by rw [kO]; exact k2) (c := cc) (by rw [henv]; show F.cl.lookup ("__class__" : Str) = some cc; rw [hcl]; rfl) ⟨_, KX _ _ hcell, rfl⟩ ?_
  rw [har]
  refine wpAny_loadName_local hkind (by rw [kO]; exact k3) hns hms ?_
  refine ks_wpAny_isType_cls (KX _ _ hCl) rfl ⟨rfl, ?_⟩
  obtain ⟨hh, g, d, tk, os⟩ := s
  refine ks_wpAny_call_super (KX _ _ hCl) rfl hae rfl (fun c e => by cases e) (PySem.W.looks_mroIn KX S.subC) (fun h1 eso kp => ?_)
  have I1 : Inv X pins σ H ⟨h1, g, d, tk, os⟩ := I.kept (t' := tk) kp
  have KX1 := I1.kIn
  have hae1 := kp _ _ hae
  have hne : a ≠ C := fun z => by
    rw [z] at hae1
    rw [KX1 _ _ hCl] at hae1
    cases hae1
  have inst : PySem.W.InstAt h1 a { cls := .ref C, dict := none, data := .fields #[.ref t1, .none, .none, .none, .bool false, .none] } C none := ⟨hae1, rfl, rfl, trivial⟩
  have hmeth : PySem.W.alongIn X.K "__init__" (((Value.ref C :: bm).dropWhile (· != .ref C)).drop 1) = some (some (.builtin "ValueError.__init__")) := by
    have := S.meth
    unfold PySem.W.ks_superIn at this
    rw [hcd] at this
    exact this
  refine PySem.W.kxs_getMethod PySem.W.kxs_ValueError (l₀ := .ref C :: bm) eso (PySem.W.looks_opaque KX1 S.tp) (fun A Q E s k q => wpAny_bind ((PySem.W.looks_clsIn KX1 hcd) A _ E s k (wpAny_pure q))) rfl KX1 hmeth (inst.type.andThen (PySem.W.looks_subIn KX1 S.subB)) hne (by decide) ?_
  have I2 : Inv X pins σ H ⟨h1.push (PySem.W.kxs_mw "ValueError.__init__" a), g, d, tk + 1, os⟩ := I1.kept (t' := tk + 1) fun b o e => Heap.get?_push_of_some _ e
  refine PySem.W.kxs_callWith (i := "ValueError.__init__") (x := a) hpl (wpAny_mono (he _ _ I2) (fun vs2 s2 hv => ?_) fun _ _ z => z)
  obtain ⟨rfl, hkw, hz⟩ := hv
  have hu : (h1.push (PySem.W.kxs_mw "ValueError.__init__" a)).get? h1.objs.size = some (PySem.W.kxs_mw "ValueError.__init__" a) := Heap.get?_push_at rfl rfl
  refine ⟨hu, ?_⟩
  rw [hkw]
  refine wrap_call (I2.kIn _ _ hCl) (Heap.get?_push_of_some _ hae1) hu hz fun h' t2 k hx => ⟨rfl, ?_⟩
  have J := I2.write (t' := tk + 1) (x := a) (e := a) (o := exo a C none) (by rw [ha]; exact True.intro) (.inl rfl) k ⟨_, hx⟩ (exo_ok hx)
  have eu : upd H a (exo a C none) = H := funext fun b => by
    by_cases hb : b = a
    · rw [hb, upd_same, ha]
    · rw [upd_ne hb]
  rw [eu] at J
  exact J
end
section
variable {P : Program} {w : World} {K : PySem.W.Frag} {mg : Str → Option Value} {base : Heap} {N ps : List Str} {F : NdefX.NF} {f C cc : Addr} {k : Nat} {sp : Sp}
theorem fn_cell {doc pm ctv oc : Value} {od : Option Addr} {osl : Array (Option Value)} (lk : K.lookup f = some ⟨oc, od, .func (F.fd doc pm ctv), osl⟩) (hcd : PySem.W.codeIn K (.ref F.c) F.qual = true) (S : NdefX.NScope N ps [("__class__" : Str)] F.scope) (hcl : F.cl = [(("__class__" : Str), cc)])
    (hcell : ∃ cl cld csl v, K.lookup cc = some ⟨cl, cld, .cell v, csl⟩) (len : ∀ vs H Q E, sp vs H Q E → vs.length = ps.length)
    (hbody : ∀ (A : Around) (outer : List PySem.Env) (s : Shared) (H : Hp) (vs : List V) (Q : VK) (E : XK), Room k (A.deeper (NdefX.envF F f s.heap.objs.size)) → sp vs H Q E →
      ∀ s1, Inv (NdefX.ncx CX0 P w K mg base N F f A outer s H E) [] (NdefX.startF N vs [none]) H s1 → _root_.PySem.wpAt (model P w) (A.deeper (NdefX.envF F f s.heap.objs.size)) (.func F.body (NdefX.envF F f s.heap.objs.size)) (execs F.body (NdefX.envF F f s.heap.objs.size))
        (fun fl s' => fl = .next ∧ ∃ σ' H', Inv (NdefX.ncx CX0 P w K mg base N F f A outer s H E) [] σ' H' s' ∧ Q .non H') (NdefX.ncx CX0 P w K mg base N F f A outer s H E).xe s1) :
    FnOk P w K mg base CX0 (k + 1) f (F.fd doc pm ctv) ps sp := by
  refine ⟨len, fun A outer s H args us vs Q E hr e0 hb r hsp => ?_⟩
  have kh : K.In s.heap := e0.mod.kin.keeps fun b o e => (e0.bs b o e).1
  have lim : s.heap.NoLimit := e0.mod.nolimit.keeps fun b o e => (e0.bs b o e).1
  obtain ⟨cl, cld, csl, v0, hce⟩ := hcell
  have hcb := e0.bs _ _ (e0.mod.kin _ _ hce)
  have CA : NdefX.CellsAt F.cl [("__class__" : Str)] [none] s.heap H := by
    have one : ∀ y c, F.cl.lookup y = some c → y = ("__class__" : Str) ∧ c = cc := fun y c h => by
      rw [hcl] at h
      by_cases hy : y = ("__class__" : Str)
      · subst hy; simp [List.lookup] at h; exact ⟨rfl, h.symm⟩
      · have : (y == ("__class__" : Str)) = false := by simpa using hy
        simp [List.lookup, this] at h
    refine ⟨rfl, fun y c h => ?_, fun x y c h1 h2 => (one x c h1).1.trans (one y c h2).1.symm, fun i y h => ?_⟩
    · rw [(one y c h).2]
      exact ⟨hcb.2, v0, _, hcb.1, rfl⟩
    · cases i with
      | zero => cases h; exact ⟨cc, by rw [hcl]; rfl, fun v h => by cases h⟩
      | succ i => simp at h
  refine codeAny_call_function hr.depth (kh _ _ lk) rfl S.co S.gen rfl (PySem.W.codeRec_of kh hcd) (hb _ _ _ _ ?_)
  refine wpAny_newFunctionEnv S.nocell (fun ⟨n, _⟩ hy => S.par n (List.of_mem_zip hy).1) (fun h₁ hns hsb => ⟨lim.fresh _ hsb, ?_⟩) S.kind
  refine ks_codeAny_funcAt ?_
  have kp : ∀ b o, s.heap.get? b = some o → h₁.get? b = some o := fun b o e => hsb.extBut b o (Nat.ne_of_lt (Heap.lt_size e)) (Heap.get?_push_of_some _ e)
  have I : Inv (NdefX.ncx CX0 P w K mg base N F f A outer s H E) [] (NdefX.startF N vs [none]) H { s with heap := h₁, toks := s.toks + (ps.zip us).length } := NdefX.inv_startN S hr.hd e0 (len _ _ _ _ hsp) r CA hns kp
  refine ks_wpAt_mono (hbody A outer s H vs Q E (hr.deeper _) hsp _ I) (fun fl s' hs => ?_) fun e s' hs => hs
  obtain ⟨rfl, σ', H', J, q⟩ := hs
  exact ⟨.non, H', J.os, J.bare, J.base, J.hok, rfl, q⟩
end
end DL
end
section
set_option Elab.async false
set_option linter.all false
set_option maxRecDepth 100000
set_option maxHeartbeats 4000000
namespace DL
open PySem PySem.Spec L2 PyProof.Rows
def EndG (i : Nat) (D : Ends) : Ends := { nx := fun σ' H' => D.nx (σ'.set i none) H', rt := D.rt, bk := fun σ' H' => D.bk (σ'.set i none) H', ct := fun σ' H' => D.ct (σ'.set i none) H' }
def wNamed (K : PySem.W.Frag) (n i : Nat) (Wout : WX) (D : Ends) : List (Value × (Addr → Value → Option Addr → TS)) → WX
  | [] => Wout
  | (c, ts) :: r => fun cls d σ H => ∃ b, PySem.W.exmOne K cls c = some b ∧ (b = true → ∀ a, H a = none → σ.length = n → ts a cls d (EndG i D) (σ.set i (some (.ref a))) H) ∧ (b = false → wNamed K n i Wout D r cls d σ H)
inductive NamedOk (X : Cx) (n : Str) : List ExceptHandler → List (Value × (Addr → Value → Option Addr → TS)) → Prop
  | nil : NamedOk X n [] []
  | cons {x : Str} {c : Value} {ts : Addr → Value → Option Addr → TS} {st : Stmt} {su : List Stmt} {np hp : Pos} {hds : List ExceptHandler} {l : List (Value × (Addr → Value → Option Addr → TS))} (hc : Names X x c)
      (hsu : ∀ (a : Addr) (oe : Obj) (cls : Value) (d : Option Addr) (pn : List (Addr × Obj)), Zc cls d oe → (∃ vs, oe.data = .fields vs) → PSs (X.suite a ((a, oe) :: pn)) (st :: su) (ts a cls d)) (r : NamedOk X n hds l) :
      NamedOk X n (.ExceptHandler (some (.Name x np)) (some n) (st :: su) hp :: hds) ((c, ts) :: l)
section
variable {X : Cx} {n : Str} {i : Nat} {body : List Stmt} {h₀ : ExceptHandler} {hds : List ExceptHandler} {l : List (Value × (Addr → Value → Option Addr → TS))} {pos : Pos} {tb : WX → TS} {Wout : WX}
theorem named_meets (hs : X.stack = X.env :: X.outer) (hf : X.env.frame = some X.env.locals) (hN : X.N.Nodup) (hi : X.N[i]? = some n) (hln : X.env.kindOf n = some .local) (tk : Takes X Wout) (ok : X.Ok) {pins : List (Addr × Obj)} {σ' : L2.St} {H' : Hp} {D : Ends} {a : Addr} {B : Heap} {cls : Value} {d : Option Addr} {sI s' : Shared} {h3 : Heap}
    (J : Inv X pins σ' H' sI) (nb : ∀ b o, sI.heap.get? b = some o → b ∉ frs X.stack → B.get? b = some o) (up3 : sI.heap.UpToSlots h3) (os : s'.os = sI.os) (ag : AllBare s'.gens) (na : H' a = none)
    (fl3 : HandSPX.FlyingZ B (X.env :: X.outer) a (Zc cls d) h3) (nL : a ≠ X.env.locals) (nF : a ∉ X.fs) :
    NamedOk X n hds l → wNamed X.K X.N.length i Wout D l cls d σ' H' → wpAny (model X.prog X.w) X.A (handleBy (.ref a) X.env hds) (SP X pins D) X.xe { s' with heap := h3 } := by
  have J3 : Inv X pins σ' H' { s' with heap := h3 } := J.landed nb fl3.1 up3 os ag
  obtain ⟨o3, v3, g3, z3, d3⟩ := fl3.there
  have S3 := J3.suite g3 d3 na nL nF
  intro hk
  induction hk with
  | nil =>
    intro w
    refine wpAny_handleBy_nil ?_
    obtain ⟨_, _, _, oq, vq, T, _, _, gq, _, dq, hq1, _⟩ := id fl3
    unfold PySem.passOn
    refine wpAny_bind (wpAny_field gq dq hq1 ?_); rw [if_neg (show ¬ ((Value.ref T == Value.none) = true) by simp)]
    have last : wpAny (model X.prog X.w) X.A (setFlight (.ref a) X.env.frame) (fun _ s4 => wpAny (model X.prog X.w) X.A (throw (.ref a) : Sem Flow) (SP X pins D) X.xe s4) X.xe { s' with heap := h3 } := by
      rw [hf]
      exact HandSPX.setFlight_upZ fl3 fun h4 hh4 up4 => wpAny_throw (tk _ _ ⟨a, B, sI, pins, σ', H', cls, d, rfl, J, nb, up3.trans up4, .inr (.inr (by rw [hs]; exact hh4)), na, os, ag, w⟩)
    first | exact wpAny_bind (wpAny_pure (wpAny_bind last)) | exact wpAny_bind last
  | @cons x c ts st su np hp hds2 l2 hc hsu r ih =>
    intro ⟨b, hb1, hyes, hno⟩
    refine wpAny_handleBy_cons (codeAny_handlers_test ?_) (fun q => by cases q)
    have LT : PySem.W.Looks (model X.prog X.w) h3 (typeOf (.ref a)) cls := fun A Q E s k q => wpAny_typeOf_ref (k _ _ g3) (by rw [z3.1]; exact q)
    have LM := PySem.W.exm_one (M := model X.prog X.w) J3.kIn LT hb1
    have ask : ∀ {Q : Value → Shared → Prop} {E : Value → Shared → Prop}, Q c { s' with heap := h3 } → wpAny (model X.prog X.w) (X.A.mark (some (.ref a))) (eval (.Name x np) X.env) Q E { s' with heap := h3 } := fun {Q E} q => by
      obtain ⟨hg, hdbg, hm | ⟨hm, hv, hnn⟩⟩ := hc
      · exact ld_glob (X := X.suite a ((a, o3) :: (X.pn ++ pins))) S3 hg hm q hdbg
      · exact ld_blt (X := X.suite a ((a, o3) :: (X.pn ++ pins))) S3 hg hm hv q hnn hdbg
    refine ask (LM.here ?_)
    cases b with
    | false => exact ih (hno rfl)
    | true =>
      refine codeAny_handlers_suite_as (HandSPX.lands_againZ fl3 fun h4 fl4 up4 => ?_)
      have J4 : Inv X pins σ' H' { s' with heap := h4 } := J.landed nb fl4.1 (up3.trans up4) os ag
      obtain ⟨o4, v4, g4, z4, d4⟩ := fl4.there
      refine store_ok (X := X.suite a ((a, o4) :: (X.pn ++ pins))) (v := .ref a) (J4.suite g4 d4 na nL nF) hN hi (.inl hln) rfl (fun s5 S5 => ?_) (.inr hln)
      refine wpAny_mono ((hsu a o4 cls d (X.pn ++ pins) z4 ⟨_, d4⟩).run [] s5 _ H' _ S5 (hyes rfl a na J4.len)) (fun f s6 hsp => ?_) (fun _ _ z => False.elim z)
      have gone : ∀ {σ6 : L2.St} {H6 : Hp} {Q : Shared → Prop}, Inv (X.suite a ((a, o4) :: (X.pn ++ pins))) [] σ6 H6 s6 → (∀ s7, Inv X pins (σ6.set i none) H6 s7 → Q s7) → wpAny (model X.prog X.w) X.A (do bindName X.env n .none; unbindBehindTheSuite X.env n hp) (fun _ s7 => Q s7) X.xe s6 :=
        fun {σ6 H6 Q} S6 hq => gone_ok (S6.unsuite ok) hN hi hln hq
      cases f with
      | next => obtain ⟨_, _, S6, q6⟩ := hsp; exact gone S6 fun s7 J7 => ⟨_, _, J7, q6⟩
      | brk => obtain ⟨_, _, S6, q6⟩ := hsp; exact gone S6 fun s7 J7 => ⟨_, _, J7, q6⟩
      | cont => obtain ⟨_, _, S6, q6⟩ := hsp; exact gone S6 fun s7 J7 => ⟨_, _, J7, q6⟩
      | ret u => obtain ⟨_, _, _, S6, r6, q6⟩ := hsp; exact gone S6 fun s7 J7 => ⟨_, _, _, J7, r6, q6⟩
theorem ps_try_named (hs : X.stack = X.env :: X.outer) (hf : X.env.frame = some X.env.locals) (hN : X.N.Nodup) (hi : X.N[i]? = some n) (hln : X.env.kindOf n = some .local) (tk : Takes X Wout)
    (hb : ∀ (W : WX) (pn : List (Addr × Obj)) (xe : Value → Shared → Prop), Takes (X.tr pn xe) W → PassesOwn (model X.prog X.w) X.A X.env xe → PSs (X.tr pn xe) body (tb W))
    (hh : NamedOk X n (h₀ :: hds) l) : PS X (.Try body (h₀ :: hds) [] [] pos) (fun D σ H => tb (wNamed X.K X.N.length i Wout D l) D σ H) := by
  refine ⟨fun pins s σ H D I h => ?_⟩
  have ok := I.ok
  have hfr : X.A.frames = some (X.env :: X.outer) := by rw [ok.frames, hs]
  refine wpAny_Try_except (wpAny_mono ((hb (wNamed X.K X.N.length i Wout D l) (X.pn ++ pins) (fun e s₁ => wpAny (model X.prog X.w) X.A (noteFrame e X.env) (fun _ s₂ => wpAny (model X.prog X.w) X.A (setFlight e none) (fun _ s₃ =>
    wpAny (model X.prog X.w) X.A (handleBy e X.env (h₀ :: hds)) (SP X pins D) X.xe s₃) X.xe s₂) X.xe s₁) (fun u s' xx => ?_) PassesOwn.looking).run [] s σ H D (I.toTry _) h) (fun f s1 hsp => ?_) fun e s1 he => he)
  · obtain ⟨a, B, sI, pins', σ', H', cls, d, rfl, J', nb, up, sky, na, os, ag, w⟩ := xx
    have J : Inv X pins σ' H' sI := J'.ofTry ok
    show wpAny (model X.prog X.w) X.A (noteFrame (.ref a) X.env) _ _ _
    refine Sky.land Zc.steady hfr hf (B := B) (Z := Zc cls d) (by rw [← hs]; exact sky) fun h3 fl3 up3 => ?_
    obtain ⟨o3, v3, g3, z3, d3⟩ := fl3.there
    have far : a ∉ frs (X.env :: X.outer) := fun hm => by
      obtain ⟨_, o', e', hnf⟩ := fl3.2.2.1.mem hm
      rw [g3] at e'; cases e'
      exact hnf _ d3
    refine named_meets hs hf hN hi hln tk ok J nb (up.trans up3) os ag na fl3 (fun z => far (List.mem_filterMap.mpr ⟨X.env, List.mem_cons_self, by rw [hf, z]⟩)) (fun hm => ?_) hh w
    obtain ⟨e, he, q⟩ := List.mem_filterMap.mp hm
    exact far (List.mem_filterMap.mpr ⟨e, List.mem_cons_of_mem _ he, q⟩)
  · cases f with
    | next => obtain ⟨σ', H', J', q⟩ := hsp; exact wpAny_execs_nil ⟨σ', H', J'.ofTry ok, q⟩
    | brk => obtain ⟨σ', H', J', q⟩ := hsp; exact ⟨σ', H', J'.ofTry ok, q⟩
    | cont => obtain ⟨σ', H', J', q⟩ := hsp; exact ⟨σ', H', J'.ofTry ok, q⟩
    | ret u => obtain ⟨v, σ', H', J', r, q⟩ := hsp; exact ⟨v, σ', H', J'.ofTry ok, r, q⟩
end
end DL
end
section
set_option Elab.async false
set_option linter.all false
set_option maxRecDepth 100000
set_option maxHeartbeats 4000000
namespace DL
open PySem PySem.Spec L2 PyProof.Rows
structure IsaC (K : PySem.W.Frag) (D : Addr) : Prop where
  cl : (PySem.W.clsIn K D).isSome = true
  ga : PySem.W.findIn K (.ref D) "__getattribute__" = some (some (.builtin "BaseException.__getattribute__"))
  gt : PySem.W.findIn K (.ref D) "__getattr__" = some none
  sb : PySem.W.subIn K (.ref D) (.type "BaseException") = some true
  at_ : PySem.W.findIn K (.ref D) "__class__" = some (some (.builtin "object.__class__"))
  gn : PySem.W.specialIn K (.builtin "object.__class__") "__get__" = some (some (.builtin "getset_descriptor.__get__"))
  tk : PySem.W.takesIn K (.builtin "object.__class__") = some true
  mo : PySem.W.mroIn K D (.type "object") = some true
def rIsD (K : PySem.W.Frag) (D a d : Addr) : List V → Hp → VK → Prop := fun xs H Q => ∃ (c : V) (cv : Value) (b : Bool) (fs : List (Str × V)), xs = [.ref a, c] ∧ (∀ u, RelV c u → u = cv) ∧ PySem.W.kitOne K (.ref D) cv = some b ∧ H d = some (.xd fs) ∧ Q (.bl b) H
theorem call_isD {X : Cx} {a D d : Addr} {oe : Obj} {pn : List (Addr × Obj)} (C : IsaC X.K D) (hz : Zc (.ref D) (some d) oe) (hf : ∃ vs, oe.data = .fields vs) : CallR (X.suite a ((a, oe) :: pn)) (.builtin "isinstance") (rIsD X.K D a d) := by
  intro pins s σ H xs us Q I r ⟨c, cv, b, fs, e0, hcv, e, ed, q⟩
  subst e0
  cases r with
  | cons rx rr =>
    cases rr with
    | cons rt rr =>
      cases rr
      cases rx
      have ec := hcv _ rt
      subst ec
      obtain ⟨hget, _⟩ := I.pin (a, oe) (List.mem_append.mpr (.inl List.mem_cons_self))
      obtain ⟨vs, hv⟩ := hf
      have hx : ObjOk X.prog X.w H s.heap d (.xd fs) := I.hok d _ ed
      obtain ⟨mA, hns, _⟩ := hx
      obtain ⟨od, ho, _⟩ := lookIn_ns hns
      have J : PySem.W.InstAt s.heap a oe D (some od) := ⟨hget, hz.1, by unfold PySem.W.notCls; rw [hv] <;> rfl, by rw [hz.2]; exact ho⟩
      exact PySem.W.kia_one (PySem.W.kitx_exc C.cl C.ga C.gt C.sb C.at_ C.gn C.tk C.mo) I.kIn J e (fun z => nomatch z) fun tk => ⟨.bl b, H, I.kept (t' := tk) fun _ _ z => z, rfl, q⟩
end DL
end
section
set_option Elab.async false
set_option linter.all false
set_option maxRecDepth 100000
set_option maxHeartbeats 4000000
namespace K87
open PySem PySem.Spec L2 DL
def top (i : Nat) : Stmt := PySem.Challenge.pw_eachsaysonce_k87_whole_words_as_programs.main.body.getD i (.Pass ⟨0, 0, 0, 0⟩)
structure Txt (mg : Str → Option Value) : Prop where
  tuple : mg "tuple" = none
  list : mg "list" = none
  len : mg "len" = none
  range : mg "range" = none
  sum : mg "sum" = none
  all : mg "all" = none
  int : mg "int" = none
  isinstance : mg "isinstance" = none
  bool : mg "bool" = none
  sorted : mg "sorted" = none
  set : mg "set" = none
  zip : mg "zip" = none
  enumerate : mg "enumerate" = none
  repr : mg "repr" = none
  abs : mg "abs" = none
  MAX_HOLDERS : ∃ t, mg "MAX_HOLDERS" = some (.int 6 t)
  MAX_LENGTH : ∃ t, mg "MAX_LENGTH" = some (.int 40 t)
  MAX_STEP : ∃ t, mg "MAX_STEP" = some (.int 8 t)
  MAX_TURNS : ∃ t, mg "MAX_TURNS" = some (.int 1024 t)
def dI (l : List Int) : PyData := .tuple (l.map .int)
def dM (m : List (List Int)) : PyData := .tuple (m.map dI)
structure Tn where
  k : Int
  z : List Int
  o : List Int
instance : Inhabited Tn := ⟨⟨0, [], []⟩⟩
def dT (t : Tn) : PyData := .tuple [.int t.k, dI t.z, dI t.o]
def dW (d : Int) (w : List Tn) : PyData := .tuple [.int d, .tuple (w.map dT)]
structure Ar where
  i : Int
  j : Int
  k : Int
  c : Int
instance : Inhabited Ar := ⟨⟨0, 0, 0, 0⟩⟩
def dA (a : Ar) : PyData := .tuple [.int a.i, .int a.j, .int a.k, .int a.c]
def dP (p n l : Int) (as : List Ar) : PyData := .tuple [.int p, .int n, .int l, .tuple (as.map dA)]
end K87
local macro_rules | `(tactic| walk_at "imm") => `(tactic| first
  | rfl
  | assumption
  | (refine DL.immT ?_; walk_at "imm")
  | (refine DL.immAll_map ?_; intro _; walk_at "imm")
  | (refine DL.immAll_cons ?_ ?_ <;> walk_at "imm")
  | (refine DL.immAll_append ?_ ?_ <;> walk_at "imm")
  | (refine DL.immAll_rep ?_; walk_at "imm")
  | (refine DL.immAll_mem ?_; walk_at "imm")
  | (refine ⟨?_, ?_⟩ <;> walk_at "imm"))
local macro_rules | `(tactic| walk_at "hu") => `(tactic| exact L2.Room.units (by assumption))
local macro_rules | `(tactic| walk_at "room") => `(tactic| first | assumption | exact L2.Room.mono (by assumption) (by decide))
local macro_rules | `(tactic| walk_at "side") => `(tactic| first | assumption | rfl | omega | (unfold L2.CMul; omega) | (unfold L2.CDiv; omega) | (simp; done))
namespace K87
open PySem PySem.Spec L2 DL
section
variable {P : Program} {w : World} {K : PySem.W.Frag} {mg : Str → Option Value} {base : Heap}
abbrev s_wp : Stmt := top 11
abbrev N_wp : List Str := ["word", "many"]
theorem sc_wp : FnScope N_wp ["word"] (defScope s_wp) := ⟨rfl, rfl, rfl, by decide +kernel, rfl, by decide +kernel, by decide +kernel⟩
def places (d : Int) (w : List Tn) : Int := if (w.length : Int) ≤ 1 then 1 else 1 + d * ((w.length : Int) - 1)
def S_wp (ds : List PyData) (d : PyData) : Prop := ∃ (q : Int) (w : List Tn), ds = [dW q w] ∧ 0 ≤ q ∧ q < 1000 ∧ d = .int (places q w)
theorem ok_wp (T : Txt mg) {f : Addr} {fd : FuncData} (F : Fun K "word_places" "word_places" s_wp f fd) : FnOk P w K mg base CX0 1 f fd ["word"] (spD K S_wp) := by
  refine fn_pure F sc_wp (fun ds d ⟨_, _, h, _⟩ => by rw [h]; rfl) fun cdv A outer s H E hr ds d ⟨q, tw, h1, h2, h3, h4⟩ => ?_
  subst h1 h4
  refine dss_seq (ds_set 1 sc_wp.nd rfl (.inl rfl) (pf_lenT (pp_fix1 (pp_var 0 (pv 0))) rfl T.len)) ?_
  rintro _ _ ⟨rfl, rfl⟩
  refine ds_one (ds_ret (pf_if (pt_c c_le (pp_var 1 (pv 1)) ((toP pf_int))) (fun hw => pf_int) (fun hw => pf_add ((toP pf_int)) ((toP (pf_mul (pp_fix0 (pp_var 0 (pv 0))) ((toP (pf_sub (pp_var 1 (pv 1)) ((toP pf_int))))) (by walk_at "side")))))) ?_)
  by_cases h : (tw.length : Int) ≤ 1 <;> simp [places, h]
end
end K87
end
section
set_option Elab.async false
set_option linter.all false
set_option maxRecDepth 100000
set_option maxHeartbeats 4000000
local macro_rules | `(tactic| walk_at "imm") => `(tactic| first
  | exact DL.imm_int
  | exact DL.imm_str
  | exact DL.imm_non
  | exact DL.imm_bl
  | exact DL.imm_nt
  | exact DL.immAll_nil
  | assumption
  | (refine DL.immAll_map ?_; intro _; walk_at "imm")
  | (refine DL.immAll_cons ?_ ?_ <;> walk_at "imm")
  | (refine DL.immAll_append ?_ ?_ <;> walk_at "imm")
  | (refine DL.immAll_rep ?_; walk_at "imm")
  | (refine DL.immAll_mem ?_; walk_at "imm")
  | (intro _ _; walk_at "imm")
  | (refine ⟨?_, ?_⟩ <;> walk_at "imm")
  | (refine DL.immT ?_; assumption))
local macro_rules | `(tactic| walk_at "hu") => `(tactic| exact L2.Room.units (by assumption))
local macro_rules | `(tactic| walk_at "loc") => `(tactic| first | exact Or.inl rfl | exact Or.inr rfl)
local macro_rules | `(tactic| walk_at "room") => `(tactic| first | assumption | exact L2.Room.mono (by assumption) (by decide))
local macro_rules | `(tactic| walk_at "side") => `(tactic| first | assumption | omega | (unfold L2.CMul; omega) | (unfold L2.CDiv; omega) | (have sizeLine_eq1 := PySem.sizeLine_eq; simp only [List.length_map]; omega) | (have sizeLine_eq' := PySem.sizeLine_eq; omega) | (simp; done) | rfl)
local macro_rules | `(tactic| walk_at "size") => `(tactic| ((show _ ≤ 16777216); exact Nat.le_of_ble_eq_true rfl))
local macro_rules | `(tactic| walk_at "sh") => `(tactic| first
  | exact DL.sh_int
  | exact DL.sh_bl
  | exact DL.sh_non
  | exact DL.sh_str (by decide +kernel)
  | exact DL.shA_nil
  | assumption
  | (refine DL.sh_of ?_; walk_at "sh")
  | (refine DL.shA_map ?_; intro _; walk_at "sh")
  | (refine DL.shA_cons ?_ ?_ <;> walk_at "sh")
  | (refine DL.shA_app ?_ ?_ <;> walk_at "sh")
  | (refine DL.sh_tup ?_; walk_at "sh")
  | (refine DL.sh_lst ?_; walk_at "sh"))
namespace K87
open PySem PySem.Spec L2 DL
section
variable {P : Program} {w : World} {K : PySem.W.Frag} {mg : Str → Option Value} {base : Heap}
def dMn (m : List (List Int)) : PyData := .tuple (m.map nt)
def rowsProd (p : Int) (a b : List Int) : Int := ((a.zip b).map fun q => q.1 * q.2).sum % p
def plain (q : Int) : List Int := (List.range q.toNat).map fun (i : Nat) => (i : Int)
def wgt (p : Int) (a : Ar) (it : List Int) : Int := if a.k = -1 then a.c else a.c * at0 it a.k % p
def lwgt (p : Int) (a : Ar) (it : List Int) : Int := if a.k < 0 then a.c else a.c * at0 it a.k % p
def unitM (q : Int) : List (List Int) := (List.range q.toNat).map fun (i : Nat) => (List.range q.toNat).map fun (j : Nat) => if (i : Int) = j then 1 else 0
def turned (m : List (List Int)) : List (List Int) := (List.range m.length).map fun (j : Nat) => m.map fun r => at0 r j
def matProd (p : Int) (a b : List (List Int)) : List (List Int) := a.map fun r => (turned b).map fun c => rowsProd p r c
def ordMat (o : List Int) : List (List Int) := o.map fun own => (List.range o.length).map fun (x : Nat) => if own = (x : Int) then 1 else 0
def lMat (o : List Int) : List (List Int) := o.map fun own => (List.range o.length).map fun (x : Nat) => if (x : Int) = own then 1 else 0
def behindT (t : Tn) (o : List Int) : Tn := ⟨t.k, t.z.map (at0 o), t.o.map (at0 o)⟩
def lplaces (d : Int) (w : List Tn) : Int := if (w.length : Int) < 2 then 1 else 1 + d * ((w.length : Int) - 1)
abbrev s_rp : Stmt := top 19
abbrev N_rp : List Str := ["p", "one", "other", "a", "b"]
theorem sc_rp : FnScope N_rp ["p", "one", "other"] (defScope s_rp) := ⟨rfl, rfl, rfl, by decide +kernel, rfl, by decide +kernel, by decide +kernel⟩
def S_rp (ds : List PyData) (d : PyData) : Prop := ∃ (p : Int) (a b : List Int), ds = [.int p, dI a, dI b] ∧ 0 < p ∧ (∀ x ∈ a, 0 ≤ x ∧ x < 1000) ∧ d = .int (rowsProd p a b)
theorem ok_rp (T : Txt mg) {f : Addr} {fd : FuncData} (F : Fun K "rows_product" "rows_product" s_rp f fd) : FnOk P w K mg base CX0 1 f fd ["p", "one", "other"] (spD K S_rp) := by
  refine fn_pure F sc_rp (fun ds d h => ?_) fun cdv A outer s H E hr ds d h => ?_
  · obtain ⟨p, a, b, rfl, hp, ha, rfl⟩ := h
    rfl
  obtain ⟨p, a, b, rfl, hp, ha, rfl⟩ := h
  refine ds_one (ds_ret (pf_mod ((toP (pf_sumM rfl ((toP (pf_lc (own := [("a", 3), ("b", 4)]) rfl sc_rp.nd (toI (pi_zipTTM (f := PyData.int) (g := PyData.int) (pp_var 1 (pv 1)) (pp_var 2 (pv 2)) (by walk_at "imm") rfl T.zip)) (blkOk_by (own := [("a", 3), ("b", 4)]) (N := N_rp) (sc := defScope s_rp) (by decide +kernel)) (fun _ _ _ _ _ a1 ha1 => gd_tup rfl (gds_cons (gd_name (pg_name (i := 3) sc_rp.nd rfl (by walk_at "loc"))) (gds_cons (gd_name (pg_name (i := 4) sc_rp.nd rfl (by walk_at "loc"))) gds_nil))) (fun _ _ _ _ _ a1 ha1 => pf_mul (pp_var 3 (pv 3)) (pp_var 4 (pv 4)) (by (have := ha _ (List.of_mem_zip ha1).1; unfold CMul; omega)))))) rfl T.sum))) (pp_var 0 (pv 0)) (by walk_at "side")) ?_)
  rfl
abbrev s_ui : Stmt := top 22
abbrev N_ui : List Str := ["upper", "i", "j"]
theorem sc_ui : FnScope N_ui ["upper", "i", "j"] (defScope s_ui) := ⟨rfl, rfl, rfl, by decide +kernel, rfl, by decide +kernel, by decide +kernel⟩
def S_ui (ds : List PyData) (d : PyData) : Prop := ∃ (u : List (List Int)) (i j : Int), ds = [dM u, .int i, .int j] ∧ (0 ≤ i ∧ i < u.length) ∧ (0 ≤ j - i ∧ j - i < (at0 u i).length) ∧ d = .int (at0 (at0 u i) (j - i))
theorem ok_ui (T : Txt mg) {f : Addr} {fd : FuncData} (F : Fun K "upper_item" "upper_item" s_ui f fd) : FnOk P w K mg base CX0 1 f fd ["upper", "i", "j"] (spD K S_ui) := by
  refine fn_pure F sc_ui (fun ds d h => ?_) fun cdv A outer s H E hr ds d h => ?_
  · obtain ⟨u, i, j, rfl, hi, hj, rfl⟩ := h
    rfl
  obtain ⟨u, i, j, rfl, hi, hj, rfl⟩ := h
  refine ds_one (ds_ret ((toF (pp_ixM (f := PyData.int) (pp_ixM (f := dI) (pp_var 0 (pv 0)) (pp_var 1 (pv 1)) (by walk_at "side")) ((toP (pf_sub (pp_var 2 (pv 2)) (pp_var 1 (pv 1))))) (by walk_at "side")) (by walk_at "imm"))) ?_)
  rfl
abbrev s_po : Stmt := top 27
abbrev N_po : List Str := ["d"]
theorem sc_po : FnScope N_po ["d"] (defScope s_po) := ⟨rfl, rfl, rfl, by decide +kernel, rfl, by decide +kernel, by decide +kernel⟩
def S_po (ds : List PyData) (d : PyData) : Prop := ∃ (q : Int), ds = [.int q] ∧ 0 ≤ q ∧ q ≤ 1000 ∧ d = dI (plain q)
theorem ok_po (T : Txt mg) {f : Addr} {fd : FuncData} (F : Fun K "plain_order" "plain_order" s_po f fd) : FnOk P w K mg base CX0 1 f fd ["d"] (spD K S_po) := by
  refine fn_pure F sc_po (fun ds d h => ?_) fun cdv A outer s H E hr ds d h => ?_
  · obtain ⟨q, rfl, h0, h1, rfl⟩ := h
    rfl
  obtain ⟨q, rfl, h0, h1, rfl⟩ := h
  refine ds_one (ds_ret (pf_tupRg rfl (pp_var 0 (pv 0)) (by walk_at "side") (by walk_at "side") rfl T.tuple rfl T.range) ?_)
  simp [dI, plain, Function.comp_def]
abbrev s_oj : Stmt := top 28
abbrev N_oj : List Str := ["one", "other", "thing"]
theorem sc_oj : FnScope N_oj ["one", "other"] (defScope s_oj) := ⟨rfl, rfl, rfl, by decide +kernel, rfl, by decide +kernel, by decide +kernel⟩
def S_oj (ds : List PyData) (d : PyData) : Prop := ∃ one other : List Int, ds = [dI one, dI other] ∧ (∀ i ∈ one, 0 ≤ i ∧ i < other.length) ∧ d = dI (one.map (at0 other))
theorem ok_oj (T : Txt mg) {f : Addr} {fd : FuncData} (F : Fun K "orders_joined" "orders_joined" s_oj f fd) : FnOk P w K mg base CX0 1 f fd ["one", "other"] (spD K S_oj) := by
  refine fn_pure F sc_oj (fun ds d h => ?_) fun cdv A outer s H E hr ds d h => ?_
  · obtain ⟨one, other, rfl, h1, rfl⟩ := h
    rfl
  obtain ⟨one, other, rfl, h1, rfl⟩ := h
  refine ds_one (ds_ret (pf_tuple (pf_lc (own := [("thing", 2)]) rfl sc_oj.nd (toI (pi_tupD (pp_var 0 (pv 0)) (by walk_at "imm"))) (blkOk_by (own := [("thing", 2)]) (N := N_oj) (sc := defScope s_oj) (by decide +kernel)) (fun _ _ _ _ _ a1 ha1 => gd_name (pg_name (i := 2) sc_oj.nd rfl (by walk_at "loc"))) (fun _ _ _ _ _ a1 ha1 => (toF (pp_ixM (f := PyData.int) (pp_var 1 (pv 1)) (pp_var 2 (pv 2)) (by exact h1 _ ha1)) (by walk_at "imm")))) rfl T.tuple) ?_)
  simp [dI, Function.comp_def]
abbrev s_aw : Stmt := top 42
abbrev N_aw : List Str := ["p", "arrow", "items", "i", "j", "k", "c"]
theorem sc_aw : FnScope N_aw ["p", "arrow", "items"] (defScope s_aw) := ⟨rfl, rfl, rfl, by decide +kernel, rfl, by decide +kernel, by decide +kernel⟩
def S_aw (ds : List PyData) (d : PyData) : Prop := ∃ (p : Int) (a : Ar) (it : List Int), ds = [.int p, dA a, dI it] ∧ 0 < p ∧ (0 ≤ a.c ∧ a.c < 1000) ∧ (a.k ≠ -1 → 0 ≤ a.k ∧ a.k < it.length) ∧ d = .int (wgt p a it)
theorem ok_aw (T : Txt mg) {f : Addr} {fd : FuncData} (F : Fun K "arrow_weight" "arrow_weight" s_aw f fd) : FnOk P w K mg base CX0 1 f fd ["p", "arrow", "items"] (spD K S_aw) := by
  refine fn_pure F sc_aw (fun ds d h => ?_) fun cdv A outer s H E hr ds d h => ?_
  · obtain ⟨p, a, it, rfl, hp, hc, hk, rfl⟩ := h
    rfl
  obtain ⟨p, a, it, rfl, hp, hc, hk, rfl⟩ := h
  refine dss_seq (ds_asg (pp_var 1 (pv 1)) (by walk_at "imm") (gst_tup rfl (gsts_cons (gst_name (pg_name (i := 3) sc_aw.nd rfl (by walk_at "loc"))) (gsts_cons (gst_name (pg_name (i := 4) sc_aw.nd rfl (by walk_at "loc"))) (gsts_cons (gst_name (pg_name (i := 5) sc_aw.nd rfl (by walk_at "loc"))) (gsts_cons (gst_name (pg_name (i := 6) sc_aw.nd rfl (by walk_at "loc"))) gsts_nil)))))) ?_
  rintro _ _ ⟨rfl, rfl⟩
  refine ds_one (ds_ret ((toF (pp_ifI (pt_c c_eqI ((pp_var 5 (pv 5))) (((toP (pf_neg ((toP pf_int))))))) (fun hw => pp_var 6 (pv 6)) (fun hw => (toP (pf_mod ((toP (pf_mul (pp_var 6 (pv 6)) (pp_ixM (f := PyData.int) (pp_var 2 (pv 2)) (pp_var 5 (pv 5)) (by exact hk (by simpa using hw))) (by walk_at "side")))) (pp_var 0 (pv 0)) (by walk_at "side"))))) (by walk_at "imm"))) ?_)
  simp [wgt]
abbrev s_um : Stmt := top 51
abbrev N_um : List Str := ["n", "i", "j"]
theorem sc_um : FnScope N_um ["n"] (defScope s_um) := ⟨rfl, rfl, rfl, by decide +kernel, rfl, by decide +kernel, by decide +kernel⟩
def S_um (ds : List PyData) (d : PyData) : Prop := ∃ (q : Int), ds = [.int q] ∧ 0 ≤ q ∧ q ≤ 1000 ∧ d = dMn (unitM q)
theorem ok_um (T : Txt mg) {f : Addr} {fd : FuncData} (F : Fun K "unit_matrix" "unit_matrix" s_um f fd) : FnOk P w K mg base CX0 1 f fd ["n"] (spD K S_um) := by
  refine fn_pure F sc_um (fun ds d h => ?_) fun cdv A outer s H E hr ds d h => ?_
  · obtain ⟨q, rfl, h0, h1, rfl⟩ := h
    rfl
  obtain ⟨q, rfl, h0, h1, rfl⟩ := h
  refine ds_one (ds_ret (pf_tuple (pf_lc (own := [("i", 1)]) rfl sc_um.nd (toI (pi_rng1 rfl T.range (pp_var 0 (pv 0)) (by walk_at "side") (by walk_at "side"))) (blkOk_by (own := [("i", 1)]) (N := N_um) (sc := defScope s_um) (by decide +kernel)) (fun _ _ _ _ _ a1 ha1 => gd_name (pg_name (i := 1) sc_um.nd rfl (by walk_at "loc"))) (fun _ _ _ _ _ a1 ha1 => pf_tupleNM (toP (pf_lc (own := [("j", 2)]) rfl sc_um.nd (toI (pi_rng1 rfl T.range (pp_var 0 (pv 0)) (by walk_at "side") (by walk_at "side"))) (blkOk_in (own := [("j", 2)]) (N := N_um) (by decide +kernel)) (fun _ _ _ _ _ a2 ha2 => gd_name (pg_name (i := 2) sc_um.nd rfl (by walk_at "loc"))) (fun _ _ _ _ _ a2 ha2 => pf_intB ((toP (pf_c c_eqI ((pp_var 1 (pv 1))) ((pp_var 2 (pv 2)))))) rfl T.int))) rfl T.tuple)) rfl T.tuple) ?_)
  simp [dMn, unitM, Function.comp_def]
abbrev s_mt : Stmt := top 52
abbrev N_mt : List Str := ["matrix", "j", "row"]
theorem sc_mt : FnScope N_mt ["matrix"] (defScope s_mt) := ⟨rfl, rfl, rfl, by decide +kernel, rfl, by decide +kernel, by decide +kernel⟩
def S_mt (ds : List PyData) (d : PyData) : Prop := ∃ m : List (List Int), ds = [dM m] ∧ (∀ r ∈ m, m.length ≤ r.length) ∧ m.length ≤ 1000 ∧ d = dM (turned m)
theorem ok_mt (T : Txt mg) {f : Addr} {fd : FuncData} (F : Fun K "matrix_turned" "matrix_turned" s_mt f fd) : FnOk P w K mg base CX0 1 f fd ["matrix"] (spD K S_mt) := by
  refine fn_pure F sc_mt (fun ds d h => ?_) fun cdv A outer s H E hr ds d h => ?_
  · obtain ⟨m, rfl, hm, hl, rfl⟩ := h
    rfl
  obtain ⟨m, rfl, hm, hl, rfl⟩ := h
  refine ds_one (ds_ret (pf_tuple (pf_lc (own := [("j", 1)]) rfl sc_mt.nd (toI (pi_rng1 rfl T.range ((toP (pf_lenT (pp_var 0 (pv 0)) rfl T.len))) (by walk_at "side") (by walk_at "side"))) (blkOk_by (own := [("j", 1)]) (N := N_mt) (sc := defScope s_mt) (by decide +kernel)) (fun _ _ _ _ _ a1 ha1 => gd_name (pg_name (i := 1) sc_mt.nd rfl (by walk_at "loc"))) (fun _ _ _ _ _ a1 ha1 => pf_tuple (pf_lc (own := [("row", 2)]) rfl sc_mt.nd (toI (pi_tupD (pp_var 0 (pv 0)) (by walk_at "imm"))) (blkOk_in (own := [("row", 2)]) (N := N_mt) (by decide +kernel)) (fun _ _ _ _ _ a2 ha2 => gd_name (pg_name (i := 2) sc_mt.nd rfl (by walk_at "loc"))) (fun _ _ _ _ _ a2 ha2 => (toF (pp_ixM (f := PyData.int) (pp_var 2 (pv 2)) (pp_var 1 (pv 1)) (by (have h1 := List.mem_range.mp ha1; have h2 := hm _ ha2; simp only [List.length_map] at h1; omega))) (by walk_at "imm")))) rfl T.tuple)) rfl T.tuple) ?_)
  simp [dM, dI, turned, Function.comp_def]
abbrev s_mp : Stmt := top 53
abbrev N_mp : List Str := ["p", "first", "second", "columns", "row", "column"]
theorem sc_mp : FnScope N_mp ["p", "first", "second"] (defScope s_mp) := ⟨rfl, rfl, rfl, by decide +kernel, rfl, by decide +kernel, by decide +kernel⟩
def S_mp (ds : List PyData) (d : PyData) : Prop := ∃ (p : Int) (a b : List (List Int)), ds = [.int p, dM a, dM b] ∧ 0 < p ∧ (∀ r ∈ a, ∀ x ∈ r, 0 ≤ x ∧ x < 1000) ∧ (∀ r ∈ b, b.length ≤ r.length) ∧ b.length ≤ 1000 ∧ d = dMn (matProd p a b)
theorem ok_mp (T : Txt mg) (G_rp : Fu P w K mg base "rows_product" ["p", "one", "other"] 1 S_rp) (G_mt : Fu P w K mg base "matrix_turned" ["matrix"] 1 S_mt) {f : Addr} {fd : FuncData} (F : Fun K "matrix_product" "matrix_product" s_mp f fd) : FnOk P w K mg base CX0 2 f fd ["p", "first", "second"] (spD K S_mp) := by
  refine fn_pure F sc_mp (fun ds d h => ?_) fun cdv A outer s H E hr ds d h => ?_
  · obtain ⟨p, a, b, rfl, hp, ha, hb, hl, rfl⟩ := h
    rfl
  obtain ⟨p, a, b, rfl, hp, ha, hb, hl, rfl⟩ := h
  refine dss_seq (ds_set 3 sc_mp.nd rfl (by walk_at "loc") (pf_call G_mt (by walk_at "room") (pas_cons (pp_var 2 (pv 2)) pas_nil) (by exact ⟨b, rfl, hb, hl, rfl⟩))) ?_
  rintro _ _ ⟨rfl, rfl⟩
  refine ds_one (ds_ret (pf_tuple (pf_lc (own := [("row", 4)]) rfl sc_mp.nd (toI (pi_tupD (pp_var 1 (pv 1)) (by walk_at "imm"))) (blkOk_by (own := [("row", 4)]) (N := N_mp) (sc := defScope s_mp) (by decide +kernel)) (fun _ _ _ _ _ a1 ha1 => gd_name (pg_name (i := 4) sc_mp.nd rfl (by walk_at "loc"))) (fun _ _ _ _ _ a1 ha1 => pf_tupleNM (toP (pf_lc (own := [("column", 5)]) rfl sc_mp.nd (toI (pi_tupD (pp_var 3 (pv 3)) (by walk_at "imm"))) (blkOk_in (own := [("column", 5)]) (N := N_mp) (by decide +kernel)) (fun _ _ _ _ _ a2 ha2 => gd_name (pg_name (i := 5) sc_mp.nd rfl (by walk_at "loc"))) (fun _ _ _ _ _ a2 ha2 => pf_call G_rp (by walk_at "room") (pas_cons (pp_var 0 (pv 0)) (pas_cons (pp_var 4 (pv 4)) (pas_cons (pp_var 5 (pv 5)) pas_nil))) (by exact ⟨p, _, _, rfl, hp, ha _ ha1, rfl⟩)))) rfl T.tuple)) rfl T.tuple) ?_)
  simp [dMn, matProd, Function.comp_def]
abbrev s_om : Stmt := top 55
abbrev N_om : List Str := ["order", "own", "x"]
theorem sc_om : FnScope N_om ["order"] (defScope s_om) := ⟨rfl, rfl, rfl, by decide +kernel, rfl, by decide +kernel, by decide +kernel⟩
def S_om (ds : List PyData) (d : PyData) : Prop := ∃ o : List Int, ds = [dI o] ∧ o.length ≤ 1000 ∧ d = dM (ordMat o)
theorem ok_om (T : Txt mg) {f : Addr} {fd : FuncData} (F : Fun K "order_matrix" "order_matrix" s_om f fd) : FnOk P w K mg base CX0 1 f fd ["order"] (spD K S_om) := by
  refine fn_pure F sc_om (fun ds d h => ?_) fun cdv A outer s H E hr ds d h => ?_
  · obtain ⟨o, rfl, hl, rfl⟩ := h
    rfl
  obtain ⟨o, rfl, hl, rfl⟩ := h
  refine ds_one (ds_ret (pf_tuple (pf_lc (own := [("own", 1)]) rfl sc_om.nd (toI (pi_tupD (pp_var 0 (pv 0)) (by walk_at "imm"))) (blkOk_by (own := [("own", 1)]) (N := N_om) (sc := defScope s_om) (by decide +kernel)) (fun _ _ _ _ _ a1 ha1 => gd_name (pg_name (i := 1) sc_om.nd rfl (by walk_at "loc"))) (fun _ _ _ _ _ a1 ha1 => pf_tuple (pf_lc (own := [("x", 2)]) rfl sc_om.nd (toI (pi_rng1 rfl T.range ((toP (pf_lenT (pp_var 0 (pv 0)) rfl T.len))) (by walk_at "side") (by walk_at "side"))) (blkOk_in (own := [("x", 2)]) (N := N_om) (by decide +kernel)) (fun _ _ _ _ _ a2 ha2 => gd_name (pg_name (i := 2) sc_om.nd rfl (by walk_at "loc"))) (fun _ _ _ _ _ a2 ha2 => pf_intB ((toP (pf_c c_eqI ((pp_var 1 (pv 1))) ((pp_var 2 (pv 2)))))) rfl T.int)) rfl T.tuple)) rfl T.tuple) ?_)
  simp [dM, dI, ordMat, Function.comp_def]
abbrev s_tb : Stmt := top 35
abbrev N_tb : List Str := ["turn", "order", "k", "zero", "one"]
theorem sc_tb : FnScope N_tb ["turn", "order"] (defScope s_tb) := ⟨rfl, rfl, rfl, by decide +kernel, rfl, by decide +kernel, by decide +kernel⟩
def S_tb (ds : List PyData) (d : PyData) : Prop := ∃ (t : Tn) (o : List Int), ds = [dT t, dI o] ∧ (∀ i ∈ t.z, 0 ≤ i ∧ i < o.length) ∧ (∀ i ∈ t.o, 0 ≤ i ∧ i < o.length) ∧ d = dT (behindT t o)
theorem ok_tb (T : Txt mg) (G_oj : Fu P w K mg base "orders_joined" ["one", "other"] 1 S_oj) {f : Addr} {fd : FuncData} (F : Fun K "turn_behind" "turn_behind" s_tb f fd) : FnOk P w K mg base CX0 2 f fd ["turn", "order"] (spD K S_tb) := by
  refine fn_pure F sc_tb (fun ds d h => ?_) fun cdv A outer s H E hr ds d h => ?_
  · obtain ⟨t, o, rfl, hz, ho, rfl⟩ := h
    rfl
  obtain ⟨t, o, rfl, hz, ho, rfl⟩ := h
  refine dss_seq (ds_asg (pp_var 0 (pv 0)) (by walk_at "imm") (gst_tup rfl (gsts_cons (gst_name (pg_name (i := 2) sc_tb.nd rfl (by walk_at "loc"))) (gsts_cons (gst_name (pg_name (i := 3) sc_tb.nd rfl (by walk_at "loc"))) (gsts_cons (gst_name (pg_name (i := 4) sc_tb.nd rfl (by walk_at "loc"))) gsts_nil))))) ?_
  rintro _ _ ⟨rfl, rfl⟩
  refine ds_one (ds_ret (pf_tup (fas_cons ((toF (pp_var 2 (pv 2)) (by walk_at "imm"))) (fas_cons (pf_call G_oj (by walk_at "room") (pas_cons (pp_var 3 (pv 3)) (pas_cons (pp_var 1 (pv 1)) pas_nil)) (by exact ⟨_, _, rfl, hz, rfl⟩)) (fas_cons (pf_call G_oj (by walk_at "room") (pas_cons (pp_var 4 (pv 4)) (pas_cons (pp_var 1 (pv 1)) pas_nil)) (by exact ⟨_, _, rfl, ho, rfl⟩)) fas_nil))) (by walk_at "size")) ?_)
  rfl
abbrev s_lth : Stmt := top 73
abbrev N_lth : List Str := ["one", "other", "x"]
theorem sc_lth : FnScope N_lth ["one", "other"] (defScope s_lth) := ⟨rfl, rfl, rfl, by decide +kernel, rfl, by decide +kernel, by decide +kernel⟩
def S_lth (ds : List PyData) (d : PyData) : Prop := ∃ one other : List Int, ds = [dI one, dI other] ∧ (∀ i ∈ one, 0 ≤ i ∧ i < other.length) ∧ d = nt (one.map (at0 other))
theorem ok_lth (T : Txt mg) {f : Addr} {fd : FuncData} (F : Fun K "_law_then" "_law_then" s_lth f fd) : FnOk P w K mg base CX0 1 f fd ["one", "other"] (spD K S_lth) := by
  refine fn_pure F sc_lth (fun ds d h => ?_) fun cdv A outer s H E hr ds d h => ?_
  · obtain ⟨one, other, rfl, h1, rfl⟩ := h
    rfl
  obtain ⟨one, other, rfl, h1, rfl⟩ := h
  refine ds_one (ds_ret (pf_tupleNM (toP (pf_lc (own := [("x", 2)]) rfl sc_lth.nd (toI (pi_tupD (pp_var 0 (pv 0)) (by walk_at "imm"))) (blkOk_by (own := [("x", 2)]) (N := N_lth) (sc := defScope s_lth) (by decide +kernel)) (fun _ _ _ _ _ a1 ha1 => gd_name (pg_name (i := 2) sc_lth.nd rfl (by walk_at "loc"))) (fun _ _ _ _ _ a1 ha1 => (toF (pp_ixM (f := PyData.int) (pp_var 1 (pv 1)) (pp_var 2 (pv 2)) (by exact h1 _ ha1)) (by walk_at "imm"))))) rfl T.tuple) ?_)
  rfl
abbrev s_lw : Stmt := top 79
abbrev N_lw : List Str := ["p", "arrow", "items"]
theorem sc_lw : FnScope N_lw ["p", "arrow", "items"] (defScope s_lw) := ⟨rfl, rfl, rfl, by decide +kernel, rfl, by decide +kernel, by decide +kernel⟩
def S_lw (ds : List PyData) (d : PyData) : Prop := ∃ (p : Int) (a : Ar) (it : List Int), ds = [.int p, dA a, dI it] ∧ 0 < p ∧ (0 ≤ a.c ∧ a.c < 1000) ∧ (¬ a.k < 0 → 0 ≤ a.k ∧ a.k < it.length) ∧ d = .int (lwgt p a it)
theorem ok_lw (T : Txt mg) {f : Addr} {fd : FuncData} (F : Fun K "_law_weight" "_law_weight" s_lw f fd) : FnOk P w K mg base CX0 1 f fd ["p", "arrow", "items"] (spD K S_lw) := by
  refine fn_pure F sc_lw (fun ds d h => ?_) fun cdv A outer s H E hr ds d h => ?_
  · obtain ⟨p, a, it, rfl, hp, hc, hk, rfl⟩ := h
    rfl
  obtain ⟨p, a, it, rfl, hp, hc, hk, rfl⟩ := h
  refine ds_one (ds_ret ((toF (pp_ifI (pt_c c_lt ((pp_fix2 (pp_var 1 (pv 1)))) (((toP pf_int)))) (fun hw => pp_fix3 (pp_var 1 (pv 1))) (fun hw => (toP (pf_mod ((toP (pf_intI ((toP (pf_mul (pp_fix3 (pp_var 1 (pv 1))) (pp_ixM (f := PyData.int) (pp_var 2 (pv 2)) (pp_fix2 (pp_var 1 (pv 1))) (by exact hk (by simpa using hw))) (by walk_at "side")))) rfl T.int))) (pp_var 0 (pv 0)) (by walk_at "side"))))) (by walk_at "imm"))) ?_)
  simp [lwgt]
abbrev s_lm : Stmt := top 81
abbrev N_lm : List Str := ["order", "own", "y"]
theorem sc_lm : FnScope N_lm ["order"] (defScope s_lm) := ⟨rfl, rfl, rfl, by decide +kernel, rfl, by decide +kernel, by decide +kernel⟩
def S_lm (ds : List PyData) (d : PyData) : Prop := ∃ o : List Int, ds = [dI o] ∧ o.length ≤ 1000 ∧ d = dMn (lMat o)
theorem ok_lm (T : Txt mg) {f : Addr} {fd : FuncData} (F : Fun K "_law_matrix" "_law_matrix" s_lm f fd) : FnOk P w K mg base CX0 1 f fd ["order"] (spD K S_lm) := by
  refine fn_pure F sc_lm (fun ds d h => ?_) fun cdv A outer s H E hr ds d h => ?_
  · obtain ⟨o, rfl, hl, rfl⟩ := h
    rfl
  obtain ⟨o, rfl, hl, rfl⟩ := h
  refine ds_one (ds_ret (pf_tuple (pf_lc (own := [("own", 1)]) rfl sc_lm.nd (toI (pi_tupD (pp_var 0 (pv 0)) (by walk_at "imm"))) (blkOk_by (own := [("own", 1)]) (N := N_lm) (sc := defScope s_lm) (by decide +kernel)) (fun _ _ _ _ _ a1 ha1 => gd_name (pg_name (i := 1) sc_lm.nd rfl (by walk_at "loc"))) (fun _ _ _ _ _ a1 ha1 => pf_tupleNM (toP (pf_lc (own := [("y", 2)]) rfl sc_lm.nd (toI (pi_rng1 rfl T.range ((toP (pf_lenT (pp_var 0 (pv 0)) rfl T.len))) (by walk_at "side") (by walk_at "side"))) (blkOk_in (own := [("y", 2)]) (N := N_lm) (by decide +kernel)) (fun _ _ _ _ _ a2 ha2 => gd_name (pg_name (i := 2) sc_lm.nd rfl (by walk_at "loc"))) (fun _ _ _ _ _ a2 ha2 => pf_intB ((toP (pf_c c_eqI ((pp_var 2 (pv 2))) ((pp_var 1 (pv 1)))))) rfl T.int))) rfl T.tuple)) rfl T.tuple) ?_)
  simp [dMn, lMat, Function.comp_def]
abbrev s_lp : Stmt := top 82
abbrev N_lp : List Str := ["word"]
theorem sc_lp : FnScope N_lp ["word"] (defScope s_lp) := ⟨rfl, rfl, rfl, by decide +kernel, rfl, by decide +kernel, by decide +kernel⟩
def S_lp (ds : List PyData) (d : PyData) : Prop := ∃ (q : Int) (w : List Tn), ds = [dW q w] ∧ (0 ≤ q ∧ q < 1000) ∧ d = .int (lplaces q w)
theorem ok_lp (T : Txt mg) {f : Addr} {fd : FuncData} (F : Fun K "_law_places" "_law_places" s_lp f fd) : FnOk P w K mg base CX0 1 f fd ["word"] (spD K S_lp) := by
  refine fn_pure F sc_lp (fun ds d h => ?_) fun cdv A outer s H E hr ds d h => ?_
  · obtain ⟨q, tw, rfl, hq, rfl⟩ := h
    rfl
  obtain ⟨q, tw, rfl, hq, rfl⟩ := h
  refine ds_one (ds_ret ((toF (pp_ifI (pt_c c_lt (((toP (pf_lenT (pp_fix1 (pp_var 0 (pv 0))) rfl T.len)))) (((toP pf_int)))) (fun hw => (toP pf_int)) (fun hw => (toP (pf_add ((toP pf_int)) ((toP (pf_mul (pp_fix0 (pp_var 0 (pv 0))) ((toP (pf_sub ((toP (pf_lenT (pp_fix1 (pp_var 0 (pv 0))) rfl T.len))) ((toP pf_int))))) (by walk_at "side")))))))) (by walk_at "imm"))) ?_)
  by_cases h : (tw.length : Int) < 2 <;> simp [lplaces, h]
end
end K87
end
section
set_option Elab.async false
set_option linter.all false
set_option maxRecDepth 100000
set_option maxHeartbeats 4000000
local macro_rules | `(tactic| walk_at "imm") => `(tactic| first
  | exact DL.imm_int
  | exact DL.imm_str
  | exact DL.imm_non
  | exact DL.imm_bl
  | exact DL.imm_nt
  | exact DL.immAll_nil
  | assumption
  | (refine DL.immAll_map ?_; intro _; walk_at "imm")
  | (refine DL.immAll_cons ?_ ?_ <;> walk_at "imm")
  | (refine DL.immAll_append ?_ ?_ <;> walk_at "imm")
  | (refine DL.immAll_rep ?_; walk_at "imm")
  | (refine DL.immAll_mem ?_; walk_at "imm")
  | (intro _ _; walk_at "imm")
  | (refine ⟨?_, ?_⟩ <;> walk_at "imm")
  | (refine DL.immT ?_; assumption))
local macro_rules | `(tactic| walk_at "hu") => `(tactic| exact L2.Room.units (by assumption))
local macro_rules | `(tactic| walk_at "loc") => `(tactic| first | exact Or.inl rfl | exact Or.inr rfl)
local macro_rules | `(tactic| walk_at "room") => `(tactic| first | assumption | exact L2.Room.mono (by assumption) (by decide))
local macro_rules | `(tactic| walk_at "side") => `(tactic| first | assumption | omega | (unfold L2.CMul; omega) | (unfold L2.CDiv; omega) | (have sizeLine_eq1 := PySem.sizeLine_eq; simp only [List.length_map]; omega) | (have sizeLine_eq' := PySem.sizeLine_eq; omega) | (simp; done) | rfl)
local macro_rules | `(tactic| walk_at "size") => `(tactic| ((show _ ≤ 16777216); exact Nat.le_of_ble_eq_true rfl))
local macro_rules | `(tactic| walk_at "sh") => `(tactic| first
  | exact DL.sh_int
  | exact DL.sh_bl
  | exact DL.sh_non
  | exact DL.sh_str (by decide +kernel)
  | exact DL.shA_nil
  | assumption
  | (refine DL.sh_of ?_; walk_at "sh")
  | (refine DL.shA_map ?_; intro _; walk_at "sh")
  | (refine DL.shA_cons ?_ ?_ <;> walk_at "sh")
  | (refine DL.shA_app ?_ ?_ <;> walk_at "sh")
  | (refine DL.sh_tup ?_; walk_at "sh")
  | (refine DL.sh_lst ?_; walk_at "sh"))
namespace K87
open PySem PySem.Spec L2 DL
section
variable {P : Program} {w : World} {K : PySem.W.Frag} {mg : Str → Option Value} {base : Heap}
def bStep (s : List Int) (q : Int × Nat) : List Int := s.set q.1.toNat (q.2 : Int)
theorem backLen : ∀ (l : List (Int × Nat)) (s : List Int), (l.foldl bStep s).length = s.length
  | [], s => rfl
  | a :: as, s => by rw [List.foldl_cons, backLen as]; exact List.length_set
def back (o : List Int) : List Int := o.zipIdx.foldl bStep (List.replicate o.length 0)
structure PrOk (p l : Int) (n : Nat) (as : List Ar) : Prop where
  p0 : 0 < p
  p1 : p < 1000
  l0 : 0 ≤ l
  l1 : l ≤ 1000
  c : ∀ a ∈ as, 0 ≤ a.c ∧ a.c < 1000
  i : ∀ a ∈ as, 0 ≤ a.i ∧ a.i ≤ l
  j : ∀ a ∈ as, 0 ≤ a.j ∧ a.j ≤ l
  k : ∀ a ∈ as, a.k = -1 ∨ 0 ≤ a.k ∧ a.k < n
def vStep (p : Int) (it : List Int) (s : List Int) (a : Ar) : List Int := s.set a.j.toNat ((at0 s a.j + at0 s a.i * wgt p a it) % p)
def valsTo (p l : Int) (as : List Ar) (it : List Int) : List Int := as.foldl (vStep p it) (1 :: List.replicate l.toNat 0)
def lStep (p : Int) (it : List Int) (s : List Int) (a : Ar) : List Int := s.set a.j.toNat ((at0 s a.j + at0 s a.i * lwgt p a it) % p)
def lvals (p l : Int) (as : List Ar) (it : List Int) : List Int := as.foldl (lStep p it) (1 :: List.replicate l.toNat 0)
theorem vlen (p : Int) (it : List Int) : ∀ (as : List Ar) (s : List Int), (as.foldl (vStep p it) s).length = s.length
  | [], s => rfl
  | a :: as, s => by rw [List.foldl_cons, vlen p it as]; exact List.length_set
theorem llen (p : Int) (it : List Int) : ∀ (as : List Ar) (s : List Int), (as.foldl (lStep p it) s).length = s.length
  | [], s => rfl
  | a :: as, s => by rw [List.foldl_cons, llen p it as]; exact List.length_set
theorem wgt_lt {p : Int} {a : Ar} {it : List Int} (h : 0 < p) (h2 : p < 1000) (hc : 0 ≤ a.c ∧ a.c < 1000) : 0 ≤ wgt p a it ∧ wgt p a it < 1000 := by
  unfold wgt
  have := Int.emod_nonneg (a.c * at0 it a.k) (Int.ne_of_gt h)
  have := Int.emod_lt_of_pos (a.c * at0 it a.k) h
  split <;> omega
theorem lwgt_lt {p : Int} {a : Ar} {it : List Int} (h : 0 < p) (h2 : p < 1000) (hc : 0 ≤ a.c ∧ a.c < 1000) : 0 ≤ lwgt p a it ∧ lwgt p a it < 1000 := by
  unfold lwgt
  have := Int.emod_nonneg (a.c * at0 it a.k) (Int.ne_of_gt h)
  have := Int.emod_lt_of_pos (a.c * at0 it a.k) h
  split <;> omega
structure Tri (u : List (List Int)) : Prop where
  len : ∀ i : Nat, i < u.length → (at0 u i).length = u.length - i
  rng : ∀ r ∈ u, ∀ x ∈ r, 0 ≤ x ∧ x < 1000
def detStep (p : Int) (u : List (List Int)) (s : List Int) (j : Nat) : List Int := s ++ [((List.range ((j : Int) + 1).toNat).map fun (i : Nat) => at0 s i * at0 (at0 u i) ((j : Int) - i)).sum % p]
def detRow (p : Int) (u : List (List Int)) : List Int := (List.range u.length).foldl (detStep p u) [1]
theorem detLen (p : Int) (u : List (List Int)) : ∀ (js : List Nat) (s : List Int), (js.foldl (detStep p u) s).length = s.length + js.length
  | [], s => rfl
  | a :: as, s => by rw [List.foldl_cons, detLen p u as]; unfold detStep; simp; omega
def turnMats (tw : List Tn) (b : List Int) : List (List (List Int)) := tw.map fun t => ordMat (if at0 b t.k = 1 then t.o else t.z)
def wordMat (p q : Int) (tw : List Tn) (b : List Int) : List (List Int) := (turnMats tw b).foldl (matProd p) (unitM q)
structure WOk (q : Int) (n : Nat) (tw : List Tn) : Prop where
  k : ∀ t ∈ tw, 0 ≤ t.k ∧ t.k < n
  z : ∀ t ∈ tw, (t.z.length : Int) = q ∧ ∀ x ∈ t.z, 0 ≤ x ∧ x < q
  o : ∀ t ∈ tw, (t.o.length : Int) = q ∧ ∀ x ∈ t.o, 0 ≤ x ∧ x < q
def own (b : List Int) (t : Tn) : List Int := if at0 b t.k = 1 then t.o else t.z
def oStep (b : List Int) (s : List (List Int)) (t : Tn) : List (List Int) := s ++ [(lst0 s).map (at0 (if at0 b t.k = 1 then t.o else t.z))]
def wordOrds (q : Int) (tw : List Tn) (b : List Int) : List (List Int) := tw.foldl (oStep b) [plain q]
def sStep (b : List Int) (s : List Int) (t : Tn) : List Int := s ++ [at0 (if at0 b t.k = 1 then t.o else t.z) (lst0 s)]
def states (tw : List Tn) (b : List Int) (x : Int) : List Int := tw.foldl (sStep b) [x]
theorem WOk.sub {q : Int} {n : Nat} {tw tw2 : List Tn} (h : WOk q n tw) (s : ∀ t ∈ tw2, t ∈ tw) : WOk q n tw2 := ⟨fun t m => h.k t (s t m), fun t m => h.z t (s t m), fun t m => h.o t (s t m)⟩
theorem plain_rng {q : Int} {o : List Int} (h : o = plain q) : ∀ x ∈ o, 0 ≤ x ∧ x < q := by
  subst h
  intro x hx
  obtain ⟨i, hi, rfl⟩ := List.mem_map.mp hx
  have := List.mem_range.mp hi
  omega
theorem own_rng {q : Int} {n : Nat} {tw : List Tn} {t : Tn} {b : List Int} (h : WOk q n tw) (m : t ∈ tw) : ((if at0 b t.k = 1 then t.o else t.z).length : Int) = q ∧ ∀ x ∈ (if at0 b t.k = 1 then t.o else t.z), 0 ≤ x ∧ x < q := by
  split
  · exact h.o t m
  · exact h.z t m
theorem oInv {q : Int} {n : Nat} {b : List Int} : ∀ {tw : List Tn} {s : List (List Int)}, WOk q n tw → (0 < s.length ∧ ∀ o ∈ s, ∀ x ∈ o, 0 ≤ x ∧ x < q) → (0 < (tw.foldl (oStep b) s).length ∧ ∀ o ∈ tw.foldl (oStep b) s, ∀ x ∈ o, 0 ≤ x ∧ x < q) ∧ (tw.foldl (oStep b) s).length = s.length + tw.length
  | [], s, _, h => ⟨h, rfl⟩
  | t :: tw, s, w, h => by
    rw [List.foldl_cons]
    have hs : 0 < (oStep b s t).length ∧ ∀ o ∈ oStep b s t, ∀ x ∈ o, 0 ≤ x ∧ x < q := by
      refine ⟨by unfold oStep; simp, fun o ho => ?_⟩
      rcases List.mem_append.mp ho with ho | ho
      · exact h.2 o ho
      · rw [List.mem_singleton.mp ho]
        intro x hx
        obtain ⟨y, hy, rfl⟩ := List.mem_map.mp hx
        have h1 := h.2 _ (lst0_mem h.1) y hy
        obtain ⟨h2, h3⟩ := own_rng (b := b) w (List.mem_cons_self (a := t) (l := tw))
        exact h3 _ (at0_mem ⟨h1.1, by rw [h2]; exact h1.2⟩)
    obtain ⟨h1, h2⟩ := oInv (w.sub fun x m => List.mem_cons_of_mem _ m) hs
    refine ⟨h1, ?_⟩
    rw [h2]
    unfold oStep
    simp
    omega
theorem sInv {q : Int} {n : Nat} {b : List Int} : ∀ {tw : List Tn} {s : List Int}, WOk q n tw → (0 < s.length ∧ ∀ x ∈ s, 0 ≤ x ∧ x < q) → (0 < (tw.foldl (sStep b) s).length ∧ ∀ x ∈ tw.foldl (sStep b) s, 0 ≤ x ∧ x < q) ∧ (tw.foldl (sStep b) s).length = s.length + tw.length
  | [], s, _, h => ⟨h, rfl⟩
  | t :: tw, s, w, h => by
    rw [List.foldl_cons]
    have hs : 0 < (sStep b s t).length ∧ ∀ x ∈ sStep b s t, 0 ≤ x ∧ x < q := by
      refine ⟨by unfold sStep; simp, fun o ho => ?_⟩
      rcases List.mem_append.mp ho with ho | ho
      · exact h.2 o ho
      · rw [List.mem_singleton.mp ho]
        have h1 := h.2 _ (lst0_mem h.1)
        obtain ⟨h2, h3⟩ := own_rng (b := b) w (List.mem_cons_self (a := t) (l := tw))
        exact h3 _ (at0_mem ⟨h1.1, by rw [h2]; exact h1.2⟩)
    obtain ⟨h1, h2⟩ := sInv (w.sub fun x m => List.mem_cons_of_mem _ m) hs
    refine ⟨h1, ?_⟩
    rw [h2]
    unfold sStep
    simp
    omega
theorem unit_rng (q : Int) : ∀ r ∈ unitM q, ∀ x ∈ r, 0 ≤ x ∧ x < 1000 := by
  intro r hr x hx
  obtain ⟨i, _, rfl⟩ := List.mem_map.mp hr
  obtain ⟨j, _, rfl⟩ := List.mem_map.mp hx
  split <;> omega
theorem wmInv {p : Int} (hp : 0 < p ∧ p < 1000) : ∀ (ms : List (List (List Int))) (s : List (List Int)), (∀ r ∈ s, ∀ x ∈ r, 0 ≤ x ∧ x < 1000) → ∀ r ∈ ms.foldl (matProd p) s, ∀ x ∈ r, 0 ≤ x ∧ x < 1000
  | [], s, h => h
  | m :: ms, s, h => wmInv hp ms (matProd p s m) fun r hr x hx => by
    obtain ⟨i, _, rfl⟩ := List.mem_map.mp hr
    obtain ⟨j, _, rfl⟩ := List.mem_map.mp hx
    unfold rowsProd
    have h1 := Int.emod_nonneg ((i.zip j).map fun q => q.1 * q.2).sum (Int.ne_of_gt hp.1)
    have h2 := Int.emod_lt_of_pos ((i.zip j).map fun q => q.1 * q.2).sum hp.1
    omega
theorem tm_mem {q : Int} {tw : List Tn} {b : List Int} {m : List (List Int)} (ht : ∀ t ∈ tw, (0 ≤ t.k ∧ t.k < b.length) ∧ t.z.length = q ∧ t.o.length = q) (hq : 0 ≤ q ∧ q ≤ 1000) (h : m ∈ turnMats tw b) : ∃ u : Unit, (∀ r ∈ m, m.length ≤ r.length) ∧ m.length ≤ 1000 := by
  obtain ⟨t, ht', rfl⟩ := List.mem_map.mp h
  have h1 := ht t ht'
  refine ⟨(), fun r hr => ?_, ?_⟩
  · obtain ⟨i, _, rfl⟩ := List.mem_map.mp hr
    simp [ordMat]
  · unfold ordMat
    rw [List.length_map]
    split <;> omega
abbrev s_ob : Stmt := top 29
abbrev N_ob : List Str := ["order", "found", "thing", "goal"]
theorem sc_ob : FnScope N_ob ["order"] (defScope s_ob) := ⟨rfl, rfl, rfl, by decide +kernel, rfl, by decide +kernel, by decide +kernel⟩
def S_ob (ds : List PyData) (d : PyData) : Prop := ∃ o : List Int, ds = [dI o] ∧ (∀ i ∈ o, 0 ≤ i ∧ i < o.length) ∧ o.length ≤ 1000 ∧ d = dI (back o)
theorem ok_ob (T : Txt mg) {f : Addr} {fd : FuncData} (F : Fun K "order_back" "order_back" s_ob f fd) : FnOk P w K mg base CX0 1 f fd ["order"] (spD K S_ob) := by
  refine fn_pure F sc_ob (fun ds d h => ?_) fun cdv A outer s H E hr ds d h => ?_
  · obtain ⟨o, rfl, ho, hl, rfl⟩ := h
    rfl
  obtain ⟨o, rfl, ho, hl, rfl⟩ := h
  refine dss_seq (ds_set 1 sc_ob.nd rfl (by walk_at "loc") (pf_rep1 ((toP (pf_lst (fas_cons pf_int fas_nil) (by walk_at "size")))) (by walk_at "imm") ((toP (pf_lenT (pp_var 0 (pv 0)) rfl T.len))) (by walk_at "side"))) ?_
  rintro _ _ ⟨rfl, rfl⟩
  refine dss_seq (ds_fold1 [2, 3] 1 (fun s => .list (s.map .int)) bStep (List.replicate o.length 0) PassesOwn.never rfl (pi_enumTM (f := PyData.int) (pp_var 0 (pv 0)) rfl T.enumerate (by walk_at "imm")) (by walk_at "imm") rfl (by simp) ?_) ?_
  · rintro pre1 b1 post1 hl1
    have hm1 := mem_at hl1
    have hl2 := backLen pre1 (List.replicate o.length 0)
    rw [List.length_replicate] at hl2
    generalize pre1.foldl _ _ = s1 at hl2 ⊢
    have hb1 := ho _ (List.fst_mem_of_mem_zipIdx hm1)
    refine ⟨_, gst_tup rfl (gsts_cons (gst_name (pg_name (i := 2) sc_ob.nd rfl (by walk_at "loc"))) (gsts_cons (gst_name (pg_name (i := 3) sc_ob.nd rfl (by walk_at "loc"))) gsts_nil)), ?_⟩
    refine dss_seq (ds_setItem 1 (pv 1) rfl (pp_var 3 (pv 3)) ((toF (pp_var 2 (pv 2)) (by walk_at "imm"))) (by walk_at "imm") (by exact ixN_ok (by simp only [List.length_map]; omega))) ?_
    rintro _ _ ⟨rfl, rfl⟩
    refine dss_nil (.keep (.keep (.drop (.drop .nil)))) ⟨rfl, _, rfl, ?_⟩
    · simp [bStep, List.map_set]
  rintro _ _ ⟨rfl, rfl⟩
  refine ds_one (ds_ret (pf_tupleI (pp_var 1 (pv 1)) (by walk_at "imm") rfl T.tuple) ?_)
  rfl
abbrev s_vt : Stmt := top 44
abbrev N_vt : List Str := ["program", "items", "p", "n", "l", "arrows", "found", "arrow", "i", "j"]
theorem sc_vt : FnScope N_vt ["program", "items"] (defScope s_vt) := ⟨rfl, rfl, rfl, by decide +kernel, rfl, by decide +kernel, by decide +kernel⟩
def S_vt (ds : List PyData) (d : PyData) : Prop := ∃ (p n l : Int) (as : List Ar) (it : List Int), ds = [dP p n l as, dI it] ∧ PrOk p l it.length as ∧ d = dI (valsTo p l as it)
theorem ok_vt (T : Txt mg) (G_aw : Fu P w K mg base "arrow_weight" ["p", "arrow", "items"] 1 S_aw) {f : Addr} {fd : FuncData} (F : Fun K "values_to" "values_to" s_vt f fd) : FnOk P w K mg base CX0 2 f fd ["program", "items"] (spD K S_vt) := by
  refine fn_pure F sc_vt (fun ds d h => ?_) fun cdv A outer s H E hr ds d h => ?_
  · obtain ⟨p, n, l, as, it, rfl, hok, rfl⟩ := h
    rfl
  obtain ⟨p, n, l, as, it, rfl, hok, rfl⟩ := h
  have hl0 := hok.l0
  have hl9 := hok.l1
  refine dss_seq (ds_asg (pp_var 0 (pv 0)) (by walk_at "imm") (gst_tup rfl (gsts_cons (gst_name (pg_name (i := 2) sc_vt.nd rfl (by walk_at "loc"))) (gsts_cons (gst_name (pg_name (i := 3) sc_vt.nd rfl (by walk_at "loc"))) (gsts_cons (gst_name (pg_name (i := 4) sc_vt.nd rfl (by walk_at "loc"))) (gsts_cons (gst_name (pg_name (i := 5) sc_vt.nd rfl (by walk_at "loc"))) gsts_nil)))))) ?_
  rintro _ _ ⟨rfl, rfl⟩
  refine dss_seq (ds_set 6 sc_vt.nd rfl (by walk_at "loc") (pf_catL (pf_lst (fas_cons pf_int fas_nil) (by walk_at "size")) (pf_rep1 ((toP (pf_lst (fas_cons pf_int fas_nil) (by walk_at "size")))) (by walk_at "imm") (pp_var 4 (pv 4)) (by walk_at "side")) (by (simp; have := PySem.sizeLine_eq; omega)))) ?_
  rintro _ _ ⟨rfl, rfl⟩
  refine dss_seq (ds_fold1 [8, 9, 7] 6 (fun s => .list (s.map .int)) (vStep p it) (1 :: List.replicate l.toNat 0) PassesOwn.never rfl (pi_tupD (pp_var 5 (pv 5)) (by walk_at "imm")) (by walk_at "imm") rfl (by simp) ?_) ?_
  · rintro pre1 b1 post1 hl1
    have hm1 := mem_at hl1
    have hl2 := vlen p it pre1 (1 :: List.replicate l.toNat 0)
    simp only [List.length_cons, List.length_replicate] at hl2
    generalize pre1.foldl _ _ = s1 at hl2 ⊢
    have hi := hok.i _ hm1
    have hj := hok.j _ hm1
    refine ⟨_, gst_name (pg_name (i := 7) sc_vt.nd rfl (by walk_at "loc")), ?_⟩
    refine dss_seq (ds_asg (pp_sl2 (pp_var 7 (pv 7))) (by walk_at "imm") (gst_tup rfl (gsts_cons (gst_name (pg_name (i := 8) sc_vt.nd rfl (by walk_at "loc"))) (gsts_cons (gst_name (pg_name (i := 9) sc_vt.nd rfl (by walk_at "loc"))) gsts_nil)))) ?_
    rintro _ _ ⟨rfl, rfl⟩
    refine dss_seq (ds_setItem 6 (pv 6) rfl (pp_var 9 (pv 9)) (pf_mod ((toP (pf_add (pp_ixLM (f := PyData.int) (pp_var 6 (pv 6)) (pp_var 9 (pv 9)) (by walk_at "side")) ((toP (pf_mul (pp_ixLM (f := PyData.int) (pp_var 6 (pv 6)) (pp_var 8 (pv 8)) (by walk_at "side")) ((toP (pf_call G_aw (by walk_at "room") (pas_cons (pp_var 2 (pv 2)) (pas_cons (pp_var 7 (pv 7)) (pas_cons (pp_var 1 (pv 1)) pas_nil))) (by exact ⟨p, b1, it, rfl, hok.p0, hok.c _ hm1, fun h => (hok.k _ hm1).resolve_left h, rfl⟩)))) (by (have := wgt_lt (it := it) hok.p0 hok.p1 (hok.c _ hm1); exact Or.inr ⟨by omega, by omega⟩)))))))) (pp_var 2 (pv 2)) (by exact hok.p0)) (by walk_at "imm") (by exact ixN_ok (by simp only [List.length_map]; omega))) ?_
    rintro _ _ ⟨rfl, rfl⟩
    refine dss_nil (.keep (.keep (.keep (.keep (.keep (.keep (.keep (.drop (.drop (.drop .nil)))))))))) ⟨rfl, _, rfl, ?_⟩
    · simp [vStep, List.map_set]
  rintro _ _ ⟨rfl, rfl⟩
  refine ds_one (ds_ret (pf_tupleI (pp_var 6 (pv 6)) (by walk_at "imm") rfl T.tuple) ?_)
  rfl
abbrev s_pv : Stmt := top 45
abbrev N_pv : List Str := ["program", "items"]
theorem sc_pv : FnScope N_pv ["program", "items"] (defScope s_pv) := ⟨rfl, rfl, rfl, by decide +kernel, rfl, by decide +kernel, by decide +kernel⟩
def S_pv (ds : List PyData) (d : PyData) : Prop := ∃ (p n l : Int) (as : List Ar) (it : List Int), ds = [dP p n l as, dI it] ∧ PrOk p l it.length as ∧ d = .int (lst0 (valsTo p l as it))
theorem ok_pv (T : Txt mg) (G_vt : Fu P w K mg base "values_to" ["program", "items"] 2 S_vt) {f : Addr} {fd : FuncData} (F : Fun K "program_value" "program_value" s_pv f fd) : FnOk P w K mg base CX0 3 f fd ["program", "items"] (spD K S_pv) := by
  refine fn_pure F sc_pv (fun ds d h => ?_) fun cdv A outer s H E hr ds d h => ?_
  · obtain ⟨p, n, l, as, it, rfl, hok, rfl⟩ := h
    rfl
  obtain ⟨p, n, l, as, it, rfl, hok, rfl⟩ := h
  refine ds_one (ds_ret ((toF (pp_lastT (f := PyData.int) ((toP (pf_call G_vt (by walk_at "room") (pas_cons (pp_var 0 (pv 0)) (pas_cons (pp_var 1 (pv 1)) pas_nil)) (by exact ⟨p, n, l, as, it, rfl, hok, rfl⟩)))) (by (have := vlen p it as (1 :: List.replicate l.toNat 0); simp only [List.length_cons] at this; unfold valsTo; omega))) (by walk_at "imm"))) ?_)
  rfl
abbrev s_dr : Stmt := top 24
abbrev N_dr : List Str := ["p", "upper", "found", "j", "i"]
theorem sc_dr : FnScope N_dr ["p", "upper"] (defScope s_dr) := ⟨rfl, rfl, rfl, by decide +kernel, rfl, by decide +kernel, by decide +kernel⟩
def S_dr (ds : List PyData) (d : PyData) : Prop := ∃ (p : Int) (u : List (List Int)), ds = [.int p, dM u] ∧ (0 < p ∧ p < 1000) ∧ Tri u ∧ u.length ≤ 1000 ∧ d = dI (detRow p u)
theorem ok_dr (T : Txt mg) (G_ui : Fu P w K mg base "upper_item" ["upper", "i", "j"] 1 S_ui) {f : Addr} {fd : FuncData} (F : Fun K "determinant_row" "determinant_row" s_dr f fd) : FnOk P w K mg base CX0 2 f fd ["p", "upper"] (spD K S_dr) := by
  refine fn_pure F sc_dr (fun ds d h => ?_) fun cdv A outer s H E hr ds d h => ?_
  · obtain ⟨p, u, rfl, hp, hu, hl, rfl⟩ := h
    rfl
  obtain ⟨p, u, rfl, hp, hu, hl, rfl⟩ := h
  refine dss_seq (ds_set 2 sc_dr.nd rfl (by walk_at "loc") (pf_lst (fas_cons pf_int fas_nil) (by walk_at "size"))) ?_
  rintro _ _ ⟨rfl, rfl⟩
  refine dss_seq (ds_fold1 [3] 2 (fun s => .list (s.map .int)) (detStep p u) ([1]) PassesOwn.never rfl (pi_rng1 rfl T.range ((toP (pf_lenT (pp_var 1 (pv 1)) rfl T.len))) (by walk_at "side") (by walk_at "side")) (by walk_at "imm") rfl (by simp) ?_) ?_
  · rintro pre1 b1 post1 hl1
    have hm1 := mem_at hl1
    have hl2 := detLen p u pre1 [1]
    simp only [List.length_cons, List.length_nil] at hl2
    generalize pre1.foldl _ _ = s1 at hl2 ⊢
    have hb1 := range_at (by rw [List.length_map] at hl1; exact hl1)
    refine ⟨_, gst_name (pg_name (i := 3) sc_dr.nd rfl (by walk_at "loc")), ?_⟩
    refine dss_seq (ds_app 2 (pv 2) rfl (pf_mod ((toP (pf_sumM rfl ((toP (pf_lc (own := [("i", 4)]) rfl sc_dr.nd (toI (pi_rng1 rfl T.range ((toP (pf_add (pp_var 3 (pv 3)) ((toP pf_int))))) (by walk_at "side") (by walk_at "side"))) (blkOk_by (own := [("i", 4)]) (N := N_dr) (sc := defScope s_dr) (by decide +kernel)) (fun _ _ _ _ _ a1 ha1 => gd_name (pg_name (i := 4) sc_dr.nd rfl (by walk_at "loc"))) (fun _ _ _ _ _ a1 ha1 => pf_mul (pp_ixLM (f := PyData.int) (pp_var 2 (pv 2)) (pp_var 4 (pv 4)) (by (have h1 := List.mem_range.mp ha1; omega))) ((toP (pf_call G_ui (by walk_at "room") (pas_cons (pp_var 1 (pv 1)) (pas_cons (pp_var 4 (pv 4)) (pas_cons (pp_var 3 (pv 3)) pas_nil))) (by (have h1 := List.mem_range.mp ha1; have h2 := hu.len a1 (by omega); exact ⟨u, a1, b1, rfl, ⟨by omega, by omega⟩, ⟨by omega, by omega⟩, rfl⟩))))) (by (have h1 := List.mem_range.mp ha1; have h2 := hu.len a1 (by omega); have h3 := hu.rng _ (at0_mem (l := u) (i := (a1 : Int)) ⟨by omega, by omega⟩) _ (at0_mem (i := (b1 : Int) - a1) ⟨by omega, by omega⟩); exact Or.inr ⟨by omega, by omega⟩)))))) rfl T.sum))) (pp_var 0 (pv 0)) (by exact hp.1)) (by walk_at "side")) ?_
    rintro _ _ ⟨rfl, rfl⟩
    refine dss_nil (.keep (.keep (.keep (.drop (.keep .nil))))) ⟨rfl, _, rfl, ?_⟩
    · simp [detStep]
  rintro _ _ ⟨rfl, rfl⟩
  refine ds_one (ds_ret (pf_tupleI (pp_var 2 (pv 2)) (by walk_at "imm") rfl T.tuple) ?_)
  simp [detRow, dI]
abbrev s_de : Stmt := top 25
abbrev N_de : List Str := ["p", "upper"]
theorem sc_de : FnScope N_de ["p", "upper"] (defScope s_de) := ⟨rfl, rfl, rfl, by decide +kernel, rfl, by decide +kernel, by decide +kernel⟩
def S_de (ds : List PyData) (d : PyData) : Prop := ∃ (p : Int) (u : List (List Int)), ds = [.int p, dM u] ∧ (0 < p ∧ p < 1000) ∧ Tri u ∧ u.length ≤ 1000 ∧ d = .int (lst0 (detRow p u))
theorem ok_de (T : Txt mg) (G_dr : Fu P w K mg base "determinant_row" ["p", "upper"] 2 S_dr) {f : Addr} {fd : FuncData} (F : Fun K "determinant" "determinant" s_de f fd) : FnOk P w K mg base CX0 3 f fd ["p", "upper"] (spD K S_de) := by
  refine fn_pure F sc_de (fun ds d h => ?_) fun cdv A outer s H E hr ds d h => ?_
  · obtain ⟨p, u, rfl, hp, hu, hl, rfl⟩ := h
    rfl
  obtain ⟨p, u, rfl, hp, hu, hl, rfl⟩ := h
  refine ds_one (ds_ret ((toF (pp_lastT (f := PyData.int) ((toP (pf_call G_dr (by walk_at "room") (pas_cons (pp_var 0 (pv 0)) (pas_cons (pp_var 1 (pv 1)) pas_nil)) (by exact ⟨p, u, rfl, hp, hu, hl, rfl⟩)))) (by (have := detLen p u (List.range u.length) [1]; simp only [List.length_cons] at this; unfold detRow; omega))) (by walk_at "imm"))) ?_)
  rfl
abbrev s_tm : Stmt := top 57
abbrev N_tm : List Str := ["p", "word", "bits", "k", "zero", "one"]
theorem sc_tm : FnScope N_tm ["p", "word", "bits"] (defScope s_tm) := ⟨rfl, rfl, rfl, by decide +kernel, rfl, by decide +kernel, by decide +kernel⟩
def S_tm (ds : List PyData) (d : PyData) : Prop := ∃ (p q : Int) (tw : List Tn) (b : List Int), ds = [.int p, dW q tw, dI b] ∧ (∀ t ∈ tw, (0 ≤ t.k ∧ t.k < b.length) ∧ t.z.length ≤ 1000 ∧ t.o.length ≤ 1000) ∧ d = .tuple ((turnMats tw b).map dM)
theorem ok_tm (T : Txt mg) (G_om : Fu P w K mg base "order_matrix" ["order"] 1 S_om) {f : Addr} {fd : FuncData} (F : Fun K "turn_matrices" "turn_matrices" s_tm f fd) : FnOk P w K mg base CX0 2 f fd ["p", "word", "bits"] (spD K S_tm) := by
  refine fn_pure F sc_tm (fun ds d h => ?_) fun cdv A outer s H E hr ds d h => ?_
  · obtain ⟨p, q, tw, b, rfl, ht, rfl⟩ := h
    rfl
  obtain ⟨p, q, tw, b, rfl, ht, rfl⟩ := h
  refine ds_one (ds_ret (pf_tuple (pf_lc (own := [("k", 3), ("zero", 4), ("one", 5)]) rfl sc_tm.nd (toI (pi_tupD (pp_fix1 (pp_var 1 (pv 1))) (by walk_at "imm"))) (blkOk_by (own := [("k", 3), ("zero", 4), ("one", 5)]) (N := N_tm) (sc := defScope s_tm) (by decide +kernel)) (fun _ _ _ _ _ a1 ha1 => gd_tup rfl (gds_cons (gd_name (pg_name (i := 3) sc_tm.nd rfl (by walk_at "loc"))) (gds_cons (gd_name (pg_name (i := 4) sc_tm.nd rfl (by walk_at "loc"))) (gds_cons (gd_name (pg_name (i := 5) sc_tm.nd rfl (by walk_at "loc"))) gds_nil)))) (fun _ _ _ _ _ a1 ha1 => pf_call G_om (by walk_at "room") (pas_cons (pp_ifT (f := PyData.int) (pt_c c_eqI ((pp_ixM (f := PyData.int) (pp_var 2 (pv 2)) (pp_var 3 (pv 3)) (by exact (ht _ ha1).1))) (((toP pf_int)))) (fun hw => pp_var 5 (pv 5)) (fun hw => pp_var 4 (pv 4))) pas_nil) (by exact ⟨_, rfl, (by split <;> first | exact (ht _ ha1).2.2 | exact (ht _ ha1).2.1), rfl⟩))) rfl T.tuple) ?_)
  simp [turnMats, Function.comp_def]
abbrev s_wm : Stmt := top 58
abbrev N_wm : List Str := ["p", "word", "bits", "found", "matrix"]
theorem sc_wm : FnScope N_wm ["p", "word", "bits"] (defScope s_wm) := ⟨rfl, rfl, rfl, by decide +kernel, rfl, by decide +kernel, by decide +kernel⟩
def S_wm (ds : List PyData) (d : PyData) : Prop := ∃ (p q : Int) (tw : List Tn) (b : List Int), ds = [.int p, dW q tw, dI b] ∧ (0 < p ∧ p < 1000) ∧ (0 ≤ q ∧ q ≤ 1000) ∧ (∀ t ∈ tw, (0 ≤ t.k ∧ t.k < b.length) ∧ t.z.length = q ∧ t.o.length = q) ∧ d = dMn (wordMat p q tw b)
theorem ok_wm (T : Txt mg) (G_um : Fu P w K mg base "unit_matrix" ["n"] 1 S_um) (G_mp : Fu P w K mg base "matrix_product" ["p", "first", "second"] 2 S_mp) (G_tm : Fu P w K mg base "turn_matrices" ["p", "word", "bits"] 2 S_tm) {f : Addr} {fd : FuncData} (F : Fun K "word_matrix" "word_matrix" s_wm f fd) : FnOk P w K mg base CX0 3 f fd ["p", "word", "bits"] (spD K S_wm) := by
  refine fn_pure F sc_wm (fun ds d h => ?_) fun cdv A outer s H E hr ds d h => ?_
  · obtain ⟨p, q, tw, b, rfl, hp, hq, ht, rfl⟩ := h
    rfl
  obtain ⟨p, q, tw, b, rfl, hp, hq, ht, rfl⟩ := h
  refine dss_seq (ds_set 3 sc_wm.nd rfl (by walk_at "loc") (pf_call G_um (by walk_at "room") (pas_cons (pp_fix0 (pp_var 1 (pv 1))) pas_nil) (by exact ⟨q, rfl, hq.1, hq.2, rfl⟩))) ?_
  rintro _ _ ⟨rfl, rfl⟩
  refine dss_seq (ds_fold1 [4] 3 dMn (matProd p) (unitM q) PassesOwn.never rfl (pi_tupD ((toP (pf_call G_tm (by walk_at "room") (pas_cons (pp_var 0 (pv 0)) (pas_cons (pp_var 1 (pv 1)) (pas_cons (pp_var 2 (pv 2)) pas_nil))) (by exact ⟨p, q, tw, b, rfl, (fun t h => ⟨(ht t h).1, by have := (ht t h).2; omega, by have := (ht t h).2; omega⟩), rfl⟩)))) (by walk_at "imm")) (by walk_at "imm") rfl (by rfl) ?_) ?_
  · rintro pre1 b1 post1 hl1
    have hm1 := mem_at hl1
    have hl2 := wmInv hp pre1 (unitM q) (unit_rng q)
    generalize pre1.foldl _ _ = s1 at hl2 ⊢
    obtain ⟨o1, e1, z1⟩ := tm_mem ht hq hm1
    refine ⟨_, gst_name (pg_name (i := 4) sc_wm.nd rfl (by walk_at "loc")), ?_⟩
    refine dss_seq (ds_set 3 sc_wm.nd rfl (by walk_at "loc") (pf_call G_mp (by walk_at "room") (pas_cons (pp_var 0 (pv 0)) (pas_cons ((pp_ntM (pp_var 3 (pv 3)))) (pas_cons (pp_var 4 (pv 4)) pas_nil))) (by exact ⟨p, s1, b1, rfl, hp.1, hl2, e1, z1, rfl⟩))) ?_
    rintro _ _ ⟨rfl, rfl⟩
    refine dss_nil (.keep (.keep (.keep (.keep (.drop .nil))))) ⟨rfl, _, rfl, ?_⟩
    · rfl
  rintro _ _ ⟨rfl, rfl⟩
  refine ds_one (ds_ret ((toF (pp_var 3 (pv 3)) (by walk_at "imm"))) ?_)
  rfl
abbrev s_wos : Stmt := top 31
abbrev N_wos : List Str := ["word", "items", "found", "k", "zero", "one"]
theorem sc_wos : FnScope N_wos ["word", "items"] (defScope s_wos) := ⟨rfl, rfl, rfl, by decide +kernel, rfl, by decide +kernel, by decide +kernel⟩
def S_wos (ds : List PyData) (d : PyData) : Prop := ∃ (q : Int) (tw : List Tn) (b : List Int), ds = [dW q tw, dI b] ∧ (0 ≤ q ∧ q ≤ 1000) ∧ tw.length ≤ 1000 ∧ WOk q b.length tw ∧ d = dM (wordOrds q tw b)
theorem ok_wos (T : Txt mg) (G_po : Fu P w K mg base "plain_order" ["d"] 1 S_po) (G_oj : Fu P w K mg base "orders_joined" ["one", "other"] 1 S_oj) {f : Addr} {fd : FuncData} (F : Fun K "word_orders" "word_orders" s_wos f fd) : FnOk P w K mg base CX0 2 f fd ["word", "items"] (spD K S_wos) := by
  refine fn_pure F sc_wos (fun ds d h => ?_) fun cdv A outer s H E hr ds d h => ?_
  · obtain ⟨q, tw, b, rfl, hq, hl, ht, rfl⟩ := h
    rfl
  obtain ⟨q, tw, b, rfl, hq, hl, ht, rfl⟩ := h
  refine dss_seq (ds_set 2 sc_wos.nd rfl (by walk_at "loc") (pf_lst (fas_cons (pf_call G_po (by walk_at "room") (pas_cons (pp_fix0 (pp_var 0 (pv 0))) pas_nil) (by exact ⟨q, rfl, hq.1, hq.2, rfl⟩)) fas_nil) (by walk_at "size"))) ?_
  rintro _ _ ⟨rfl, rfl⟩
  refine dss_seq (ds_fold1 [3, 4, 5] 2 (fun s => .list (s.map dI)) (oStep b) ([plain q]) PassesOwn.never rfl (pi_tupD (pp_fix1 (pp_var 0 (pv 0))) (by walk_at "imm")) (by walk_at "imm") rfl (by rfl) ?_) ?_
  · rintro pre1 b1 post1 hl1
    have hm1 := mem_at hl1
    obtain ⟨hl2, hl3⟩ := oInv (s := [plain q]) (ht.sub (sub_at hl1)) ⟨by simp, fun o ho => plain_rng (List.mem_singleton.mp ho)⟩
    have hl4 := len_at hl1
    generalize pre1.foldl _ _ = s1 at hl2 hl3 ⊢
    refine ⟨_, gst_tup rfl (gsts_cons (gst_name (pg_name (i := 3) sc_wos.nd rfl (by walk_at "loc"))) (gsts_cons (gst_name (pg_name (i := 4) sc_wos.nd rfl (by walk_at "loc"))) (gsts_cons (gst_name (pg_name (i := 5) sc_wos.nd rfl (by walk_at "loc"))) gsts_nil))), ?_⟩
    refine dss_seq (ds_app 2 (pv 2) rfl (pf_call G_oj (by walk_at "room") (pas_cons (pp_lastL (f := dI) (pp_var 2 (pv 2)) (by exact hl2.1)) (pas_cons (pp_ifT (f := PyData.int) (pt_c c_eqI ((pp_ixM (f := PyData.int) (pp_var 1 (pv 1)) (pp_var 3 (pv 3)) (by exact ht.k _ hm1))) (((toP pf_int)))) (fun hw => pp_var 5 (pv 5)) (fun hw => pp_var 4 (pv 4))) pas_nil)) (by exact ⟨_, _, rfl, (fun x hx => by have h1 := hl2.2 _ (lst0_mem hl2.1) x hx; have h2 := (ht.z _ hm1).1; have h3 := (ht.o _ hm1).1; split <;> omega), rfl⟩)) (by (simp only [List.length_map] at *; have := PySem.sizeLine_eq; simp at hl3; omega))) ?_
    rintro _ _ ⟨rfl, rfl⟩
    refine dss_nil (.keep (.keep (.keep (.drop (.drop (.drop .nil)))))) ⟨rfl, _, rfl, ?_⟩
    · simp [oStep]
  rintro _ _ ⟨rfl, rfl⟩
  refine ds_one (ds_ret (pf_tupleI (pp_var 2 (pv 2)) (by walk_at "imm") rfl T.tuple) ?_)
  rfl
abbrev s_wo : Stmt := top 32
abbrev N_wo : List Str := ["word", "items"]
theorem sc_wo : FnScope N_wo ["word", "items"] (defScope s_wo) := ⟨rfl, rfl, rfl, by decide +kernel, rfl, by decide +kernel, by decide +kernel⟩
def S_wo (ds : List PyData) (d : PyData) : Prop := ∃ (q : Int) (tw : List Tn) (b : List Int), ds = [dW q tw, dI b] ∧ (0 ≤ q ∧ q ≤ 1000) ∧ tw.length ≤ 1000 ∧ WOk q b.length tw ∧ d = dI (lst0 (wordOrds q tw b))
theorem ok_wo (T : Txt mg) (G_wos : Fu P w K mg base "word_orders" ["word", "items"] 2 S_wos) {f : Addr} {fd : FuncData} (F : Fun K "word_order" "word_order" s_wo f fd) : FnOk P w K mg base CX0 3 f fd ["word", "items"] (spD K S_wo) := by
  refine fn_pure F sc_wo (fun ds d h => ?_) fun cdv A outer s H E hr ds d h => ?_
  · obtain ⟨q, tw, b, rfl, hq, hl, ht, rfl⟩ := h
    rfl
  obtain ⟨q, tw, b, rfl, hq, hl, ht, rfl⟩ := h
  refine ds_one (ds_ret ((toF (pp_lastT (f := dI) ((toP (pf_call G_wos (by walk_at "room") (pas_cons (pp_var 0 (pv 0)) (pas_cons (pp_var 1 (pv 1)) pas_nil)) (by exact ⟨q, tw, b, rfl, hq, hl, ht, rfl⟩)))) (by exact (oInv (s := [plain q]) ht ⟨by simp, fun o ho => plain_rng (List.mem_singleton.mp ho)⟩).1.1)) (by walk_at "imm"))) ?_)
  rfl
abbrev s_sa : Stmt := top 60
abbrev N_sa : List Str := ["word", "bits", "first", "found", "k", "zero", "one"]
theorem sc_sa : FnScope N_sa ["word", "bits", "first"] (defScope s_sa) := ⟨rfl, rfl, rfl, by decide +kernel, rfl, by decide +kernel, by decide +kernel⟩
def S_sa (ds : List PyData) (d : PyData) : Prop := ∃ (q : Int) (tw : List Tn) (b : List Int) (x : Int), ds = [dW q tw, dI b, .int x] ∧ (0 ≤ x ∧ x < q) ∧ tw.length ≤ 1000 ∧ WOk q b.length tw ∧ d = dI (states tw b x)
theorem ok_sa (T : Txt mg) {f : Addr} {fd : FuncData} (F : Fun K "states_along" "states_along" s_sa f fd) : FnOk P w K mg base CX0 1 f fd ["word", "bits", "first"] (spD K S_sa) := by
  refine fn_pure F sc_sa (fun ds d h => ?_) fun cdv A outer s H E hr ds d h => ?_
  · obtain ⟨q, tw, b, x, rfl, hx, hl, ht, rfl⟩ := h
    rfl
  obtain ⟨q, tw, b, x, rfl, hx, hl, ht, rfl⟩ := h
  refine dss_seq (ds_set 3 sc_sa.nd rfl (by walk_at "loc") (pf_lst (fas_cons ((toF (pp_var 2 (pv 2)) (by walk_at "imm"))) fas_nil) (by walk_at "size"))) ?_
  rintro _ _ ⟨rfl, rfl⟩
  refine dss_seq (ds_fold1 [4, 5, 6] 3 (fun s => .list (s.map .int)) (sStep b) ([x]) PassesOwn.never rfl (pi_tupD (pp_fix1 (pp_var 0 (pv 0))) (by walk_at "imm")) (by walk_at "imm") rfl (by rfl) ?_) ?_
  · rintro pre1 b1 post1 hl1
    have hm1 := mem_at hl1
    obtain ⟨hl2, hl3⟩ := sInv (s := [x]) (ht.sub (sub_at hl1)) ⟨by simp, fun o ho => by rw [List.mem_singleton.mp ho]; exact hx⟩
    have hl4 := len_at hl1
    generalize pre1.foldl _ _ = s1 at hl2 hl3 ⊢
    refine ⟨_, gst_tup rfl (gsts_cons (gst_name (pg_name (i := 4) sc_sa.nd rfl (by walk_at "loc"))) (gsts_cons (gst_name (pg_name (i := 5) sc_sa.nd rfl (by walk_at "loc"))) (gsts_cons (gst_name (pg_name (i := 6) sc_sa.nd rfl (by walk_at "loc"))) gsts_nil))), ?_⟩
    refine dss_seq (ds_app 3 (pv 3) rfl ((toF (pp_ixM (f := PyData.int) (pp_ifT (f := PyData.int) (pt_c c_eqI ((pp_ixM (f := PyData.int) (pp_var 1 (pv 1)) (pp_var 4 (pv 4)) (by exact ht.k _ hm1))) (((toP pf_int)))) (fun hw => pp_var 6 (pv 6)) (fun hw => pp_var 5 (pv 5))) (pp_lastL (f := PyData.int) (pp_var 3 (pv 3)) (by exact hl2.1)) (by (have h1 := hl2.2 _ (lst0_mem hl2.1); have h2 := (ht.z _ hm1).1; have h3 := (ht.o _ hm1).1; split <;> omega))) (by walk_at "imm"))) (by (simp only [List.length_map] at *; have := PySem.sizeLine_eq; simp at hl3; omega))) ?_
    rintro _ _ ⟨rfl, rfl⟩
    refine dss_nil (.keep (.keep (.keep (.keep (.drop (.drop (.drop .nil))))))) ⟨rfl, _, rfl, ?_⟩
    · simp [sStep]
  rintro _ _ ⟨rfl, rfl⟩
  refine ds_one (ds_ret (pf_tupleI (pp_var 3 (pv 3)) (by walk_at "imm") rfl T.tuple) ?_)
  rfl
abbrev s_lpv : Stmt := top 80
abbrev N_lpv : List Str := ["program", "items", "p", "n", "l", "arrows", "found", "arrow"]
theorem sc_lpv : FnScope N_lpv ["program", "items"] (defScope s_lpv) := ⟨rfl, rfl, rfl, by decide +kernel, rfl, by decide +kernel, by decide +kernel⟩
def S_lpv (ds : List PyData) (d : PyData) : Prop := ∃ (p n l : Int) (as : List Ar) (it : List Int), ds = [dP p n l as, dI it] ∧ PrOk p l it.length as ∧ d = .int (at0 (lvals p l as it) l)
theorem ok_lpv (T : Txt mg) (G_lw : Fu P w K mg base "_law_weight" ["p", "arrow", "items"] 1 S_lw) {f : Addr} {fd : FuncData} (F : Fun K "_law_program_value" "_law_program_value" s_lpv f fd) : FnOk P w K mg base CX0 2 f fd ["program", "items"] (spD K S_lpv) := by
  refine fn_pure F sc_lpv (fun ds d h => ?_) fun cdv A outer s H E hr ds d h => ?_
  · obtain ⟨p, n, l, as, it, rfl, hok, rfl⟩ := h
    rfl
  obtain ⟨p, n, l, as, it, rfl, hok, rfl⟩ := h
  have hl0 := hok.l0
  have hl9 := hok.l1
  refine dss_seq (ds_asg (pp_var 0 (pv 0)) (by walk_at "imm") (gst_tup rfl (gsts_cons (gst_name (pg_name (i := 2) sc_lpv.nd rfl (by walk_at "loc"))) (gsts_cons (gst_name (pg_name (i := 3) sc_lpv.nd rfl (by walk_at "loc"))) (gsts_cons (gst_name (pg_name (i := 4) sc_lpv.nd rfl (by walk_at "loc"))) (gsts_cons (gst_name (pg_name (i := 5) sc_lpv.nd rfl (by walk_at "loc"))) gsts_nil)))))) ?_
  rintro _ _ ⟨rfl, rfl⟩
  refine dss_seq (ds_set 6 sc_lpv.nd rfl (by walk_at "loc") (pf_catL (pf_lst (fas_cons pf_int fas_nil) (by walk_at "size")) (pf_rep1 ((toP (pf_lst (fas_cons pf_int fas_nil) (by walk_at "size")))) (by walk_at "imm") (pp_var 4 (pv 4)) (by walk_at "side")) (by (simp; have := PySem.sizeLine_eq; omega)))) ?_
  rintro _ _ ⟨rfl, rfl⟩
  refine dss_seq (ds_fold1 [7] 6 (fun s => .list (s.map .int)) (lStep p it) (1 :: List.replicate l.toNat 0) PassesOwn.never rfl (pi_tupD (pp_var 5 (pv 5)) (by walk_at "imm")) (by walk_at "imm") rfl (by simp) ?_) ?_
  · rintro pre1 b1 post1 hl1
    have hm1 := mem_at hl1
    have hl2 := llen p it pre1 (1 :: List.replicate l.toNat 0)
    simp only [List.length_cons, List.length_replicate] at hl2
    generalize pre1.foldl _ _ = s1 at hl2 ⊢
    have hi := hok.i _ hm1
    have hj := hok.j _ hm1
    refine ⟨_, gst_name (pg_name (i := 7) sc_lpv.nd rfl (by walk_at "loc")), ?_⟩
    refine dss_seq (ds_setItem 6 (pv 6) rfl (pp_fix1 (pp_var 7 (pv 7))) (pf_mod ((toP (pf_intI ((toP (pf_add (pp_ixLM (f := PyData.int) (pp_var 6 (pv 6)) (pp_fix1 (pp_var 7 (pv 7))) (by walk_at "side")) ((toP (pf_mul (pp_ixLM (f := PyData.int) (pp_var 6 (pv 6)) (pp_fix0 (pp_var 7 (pv 7))) (by walk_at "side")) ((toP (pf_call G_lw (by walk_at "room") (pas_cons (pp_var 2 (pv 2)) (pas_cons (pp_var 7 (pv 7)) (pas_cons (pp_var 1 (pv 1)) pas_nil))) (by exact ⟨p, b1, it, rfl, hok.p0, hok.c _ hm1, fun h => (hok.k _ hm1).resolve_left (by omega), rfl⟩)))) (by (have := lwgt_lt (it := it) hok.p0 hok.p1 (hok.c _ hm1); exact Or.inr ⟨by omega, by omega⟩)))))))) rfl T.int))) (pp_var 2 (pv 2)) (by exact hok.p0)) (by walk_at "imm") (by exact ixN_ok (by simp only [List.length_map]; omega))) ?_
    rintro _ _ ⟨rfl, rfl⟩
    refine dss_nil (.keep (.keep (.keep (.keep (.keep (.keep (.keep (.drop .nil)))))))) ⟨rfl, _, rfl, ?_⟩
    · simp [lStep, List.map_set]
  rintro _ _ ⟨rfl, rfl⟩
  refine ds_one (ds_ret ((toF (pp_ixLM (f := PyData.int) (pp_var 6 (pv 6)) (pp_var 4 (pv 4)) (by (have := llen p it as (1 :: List.replicate l.toNat 0); simp only [List.length_cons, List.length_replicate] at this; omega))) (by walk_at "imm"))) ?_)
  rfl
end
end K87
end
section
set_option Elab.async false
set_option linter.all false
set_option maxRecDepth 100000
set_option maxHeartbeats 4000000
local macro_rules | `(tactic| walk_at "imm") => `(tactic| first
  | exact DL.imm_int
  | exact DL.imm_str
  | exact DL.imm_non
  | exact DL.imm_bl
  | exact DL.imm_nt
  | exact DL.immAll_nil
  | assumption
  | (refine DL.immAll_map ?_; intro _; walk_at "imm")
  | (refine DL.immAll_cons ?_ ?_ <;> walk_at "imm")
  | (refine DL.immAll_append ?_ ?_ <;> walk_at "imm")
  | (refine DL.immAll_rep ?_; walk_at "imm")
  | (refine DL.immAll_mem ?_; walk_at "imm")
  | (intro _ _; walk_at "imm")
  | (refine ⟨?_, ?_⟩ <;> walk_at "imm")
  | (refine DL.immT ?_; assumption))
local macro_rules | `(tactic| walk_at "hu") => `(tactic| exact L2.Room.units (by assumption))
local macro_rules | `(tactic| walk_at "loc") => `(tactic| first | exact Or.inl rfl | exact Or.inr rfl)
local macro_rules | `(tactic| walk_at "room") => `(tactic| first | assumption | exact L2.Room.mono (by assumption) (by decide))
local macro_rules | `(tactic| walk_at "side") => `(tactic| first | assumption | omega | (unfold L2.CMul; omega) | (unfold L2.CDiv; omega) | (have sizeLine_eq1 := PySem.sizeLine_eq; simp only [List.length_map]; omega) | (have sizeLine_eq' := PySem.sizeLine_eq; omega) | (simp; done) | rfl)
local macro_rules | `(tactic| walk_at "size") => `(tactic| ((show _ ≤ 16777216); exact Nat.le_of_ble_eq_true rfl))
local macro_rules | `(tactic| walk_at "sh") => `(tactic| first
  | exact DL.sh_int
  | exact DL.sh_bl
  | exact DL.sh_non
  | exact DL.sh_str (by decide +kernel)
  | exact DL.shA_nil
  | assumption
  | (refine DL.sh_of ?_; walk_at "sh")
  | (refine DL.shA_map ?_; intro _; walk_at "sh")
  | (refine DL.shA_cons ?_ ?_ <;> walk_at "sh")
  | (refine DL.shA_app ?_ ?_ <;> walk_at "sh")
  | (refine DL.sh_tup ?_; walk_at "sh")
  | (refine DL.sh_lst ?_; walk_at "sh"))
namespace K87
open PySem PySem.Spec L2 DL
section
variable {P : Program} {w : World} {K : PySem.W.Frag} {mg : Str → Option Value} {base : Heap}
def rIn (p : Nat) (acc : List (List Int)) (row : List Int) : List (List Int) := acc ++ (List.range p).map fun (x : Nat) => row ++ [(x : Int)]
def rStep (p : Nat) (s : List (List Int)) (_ : Nat) : List (List Int) := s.foldl (rIn p) []
def allRows (p n : Nat) : List (List Int) := (List.range n).foldl (rStep p) [[]]
theorem rInLen (p : Nat) : ∀ (l : List (List Int)) (s : List (List Int)), (l.foldl (rIn p) s).length = s.length + l.length * p
  | [], s => by simp
  | a :: l, s => by rw [List.foldl_cons, rInLen p l]; unfold rIn; simp; rw [Nat.add_mul]; omega
theorem rInRows {p k : Nat} : ∀ {l : List (List Int)} {s : List (List Int)}, (∀ r ∈ l, r.length = k) → (∀ r ∈ s, r.length = k + 1) → ∀ r ∈ l.foldl (rIn p) s, r.length = k + 1
  | [], s, _, h => h
  | a :: l, s, hl, h => by
    rw [List.foldl_cons]
    refine rInRows (l := l) (fun r m => hl r (List.mem_cons_of_mem _ m)) fun r m => ?_
    unfold rIn at m
    rcases List.mem_append.mp m with m | m
    · exact h r m
    · obtain ⟨x, _, rfl⟩ := List.mem_map.mp m
      rw [List.length_append, hl a List.mem_cons_self]; rfl
theorem rInv (p : Nat) : ∀ (js : List Nat) (s : List (List Int)) (k : Nat), (∀ r ∈ s, r.length = k) → (js.foldl (rStep p) s).length = s.length * p ^ js.length ∧ ∀ r ∈ js.foldl (rStep p) s, r.length = k + js.length
  | [], s, k, h => ⟨by simp, h⟩
  | j :: js, s, k, h => by
    obtain ⟨h1, h2⟩ := rInv p js (rStep p s j) (k + 1) (rInRows h fun r m => by cases m)
    refine ⟨?_, fun r m => ?_⟩
    · show (js.foldl (rStep p) (rStep p s j)).length = _
      rw [h1]
      unfold rStep
      rw [rInLen]
      simp only [List.length_nil, Nat.zero_add, List.length_cons, Nat.pow_succ]
      rw [Nat.mul_assoc, Nat.mul_comm p]
    · rw [h2 r m, List.length_cons]; omega
theorem pow_small {p k : Nat} (hp : p ≤ 10) (hk : k ≤ 6) : p ^ k ≤ 1000000 := by
  have h1 : p ^ k ≤ 10 ^ k := Nat.pow_le_pow_left hp k
  have h2 : (10 : Nat) ^ k ≤ 10 ^ 6 := Nat.pow_le_pow_right (by decide) hk
  omega
abbrev s_ar : Stmt := top 20
abbrev N_ar : List Str := ["p", "n", "found", "step", "longer", "row", "number"]
theorem sc_ar : FnScope N_ar ["p", "n"] (defScope s_ar) := ⟨rfl, rfl, rfl, by decide +kernel, rfl, by decide +kernel, by decide +kernel⟩
def S_ar (ds : List PyData) (d : PyData) : Prop := ∃ (p n : Int), ds = [.int p, .int n] ∧ (0 ≤ p ∧ p ≤ 10) ∧ (0 ≤ n ∧ n ≤ 6) ∧ d = dM (allRows p.toNat n.toNat)
theorem ok_ar (T : Txt mg) {f : Addr} {fd : FuncData} (F : Fun K "all_rows" "all_rows" s_ar f fd) : FnOk P w K mg base CX0 1 f fd ["p", "n"] (spD K S_ar) := by
  refine fn_pure F sc_ar (fun ds d h => ?_) fun cdv A outer s H E hr ds d h => ?_
  · obtain ⟨p, n, rfl, hp, hn, rfl⟩ := h
    rfl
  obtain ⟨p, n, rfl, hp, hn, rfl⟩ := h
  refine dss_seq (ds_set 2 sc_ar.nd rfl (by walk_at "loc") (pf_lst (fas_cons (pf_tup fas_nil (by walk_at "size")) fas_nil) (by walk_at "size"))) ?_
  rintro _ _ ⟨rfl, rfl⟩
  refine dss_seq (ds_fold1 [4, 5, 3] 2 (fun s => .list (s.map dI)) (rStep p.toNat) ([[]]) PassesOwn.never rfl (pi_rng1 rfl T.range (pp_var 1 (pv 1)) (by walk_at "side") (by walk_at "side")) (by walk_at "imm") rfl (by rfl) ?_) ?_
  · rintro pre1 b1 post1 hl1
    have hm1 := mem_at hl1
    obtain ⟨hz2, hl3⟩ := rInv p.toNat pre1 [[]] 0 (by simp)
    have hb1 := range_at hl1
    have hl4 := pow_small (p := p.toNat) (k := pre1.length) (by omega) (by omega)
    rw [List.length_singleton, Nat.one_mul] at hz2
    generalize pre1.foldl _ _ = s1 at hz2 hl3 ⊢
    refine ⟨_, gst_name (pg_name (i := 3) sc_ar.nd rfl (by walk_at "loc")), ?_⟩
    refine dss_seq (ds_set 4 sc_ar.nd rfl (by walk_at "loc") (pf_lst fas_nil (by walk_at "size"))) ?_
    rintro _ _ ⟨rfl, rfl⟩
    refine dss_freeze 2 ?_ rfl
    refine dss_seq (ds_foldS [5] 2 4 (fun s => .list (s.map dI)) (rIn p.toNat) ([]) PassesOwn.never rfl (pi_list (pv 2)) rfl (by walk_at "imm") rfl (by rfl) ?_) ?_
    · rintro pre2 b2 post2 hl2
      have hm2 := mem_at hl2
      have hl5 := rInLen p.toNat pre2 []
      have hl6 := len_at hl2
      have hl7 := hl3 _ hm2
      generalize pre2.foldl _ _ = s2 at hl5 ⊢
      refine ⟨_, gst_name (pg_name (i := 5) sc_ar.nd rfl (by walk_at "loc")), ?_⟩
      refine dss_seq (ds_ext 4 (pv 4) rfl (pf_lc (own := [("number", 6)]) rfl sc_ar.nd (toI (pi_rng1 rfl T.range (pp_var 0 (pv 0)) (by walk_at "side") (by walk_at "side"))) (blkOk_by (own := [("number", 6)]) (N := N_ar) (sc := defScope s_ar) (by decide +kernel)) (fun _ _ _ _ _ a1 ha1 => gd_name (pg_name (i := 6) sc_ar.nd rfl (by walk_at "loc"))) (fun _ _ _ _ _ a1 ha1 => (toF (pp_catT (pp_var 5 (pv 5)) ((toP (pf_tup (fas_cons ((toF (pp_var 6 (pv 6)) (by walk_at "imm"))) fas_nil) (by walk_at "size")))) (by (simp; have := PySem.sizeLine_eq; omega))) (by walk_at "imm")))) (by (have h9 : pre2.length * p.toNat ≤ 1000000 * 10 := Nat.mul_le_mul (by omega) (by omega); simp at hl5; simp; have := PySem.sizeLine_eq; omega))) ?_
      rintro _ _ ⟨rfl, rfl⟩
      refine dss_nil (.keep (.keep (.keep (.keep (.keep (.drop (.keep .nil))))))) ⟨rfl, _, rfl, ?_⟩
      · simp [rIn, dI, Function.comp_def]
    rintro _ _ ⟨rfl, rfl⟩
    refine dss_seq (ds_move 2 4 sc_ar.nd rfl (.inl rfl) (pv 4)) ?_
    rintro _ _ ⟨rfl, rfl⟩
    refine dss_nil (.keep (.keep (.keep (.drop (.drop (.drop (.keep .nil))))))) ⟨rfl, _, rfl, ?_⟩
    · simp [rStep]
  rintro _ _ ⟨rfl, rfl⟩
  refine ds_one (ds_ret (pf_tupleI (pp_var 2 (pv 2)) (by walk_at "imm") rfl T.tuple) ?_)
  rfl
abbrev s_lr : Stmt := top 71
abbrev N_lr : List Str := ["p", "n", "found", "k", "longer", "row", "own"]
theorem sc_lr : FnScope N_lr ["p", "n"] (defScope s_lr) := ⟨rfl, rfl, rfl, by decide +kernel, rfl, by decide +kernel, by decide +kernel⟩
def S_lr (ds : List PyData) (d : PyData) : Prop := ∃ (p n : Int), ds = [.int p, .int n] ∧ (0 ≤ p ∧ p ≤ 10) ∧ (0 ≤ n ∧ n ≤ 6) ∧ d = .list ((allRows p.toNat n.toNat).map dI)
theorem ok_lr (T : Txt mg) {f : Addr} {fd : FuncData} (F : Fun K "_law_rows" "_law_rows" s_lr f fd) : FnOk P w K mg base CX0 1 f fd ["p", "n"] (spD K S_lr) := by
  refine fn_pure F sc_lr (fun ds d h => ?_) fun cdv A outer s H E hr ds d h => ?_
  · obtain ⟨p, n, rfl, hp, hn, rfl⟩ := h
    rfl
  obtain ⟨p, n, rfl, hp, hn, rfl⟩ := h
  refine dss_seq (ds_set 2 sc_lr.nd rfl (by walk_at "loc") (pf_lst (fas_cons (pf_tup fas_nil (by walk_at "size")) fas_nil) (by walk_at "size"))) ?_
  rintro _ _ ⟨rfl, rfl⟩
  refine dss_seq (ds_fold1 [4, 5, 3] 2 (fun s => .list (s.map dI)) (rStep p.toNat) ([[]]) PassesOwn.never rfl (pi_rng1 rfl T.range (pp_var 1 (pv 1)) (by walk_at "side") (by walk_at "side")) (by walk_at "imm") rfl (by rfl) ?_) ?_
  · rintro pre1 b1 post1 hl1
    have hm1 := mem_at hl1
    obtain ⟨hz2, hl3⟩ := rInv p.toNat pre1 [[]] 0 (by simp)
    have hb1 := range_at hl1
    have hl4 := pow_small (p := p.toNat) (k := pre1.length) (by omega) (by omega)
    rw [List.length_singleton, Nat.one_mul] at hz2
    generalize pre1.foldl _ _ = s1 at hz2 hl3 ⊢
    refine ⟨_, gst_name (pg_name (i := 3) sc_lr.nd rfl (by walk_at "loc")), ?_⟩
    refine dss_seq (ds_set 4 sc_lr.nd rfl (by walk_at "loc") (pf_lst fas_nil (by walk_at "size"))) ?_
    rintro _ _ ⟨rfl, rfl⟩
    refine dss_freeze 2 ?_ rfl
    refine dss_seq (ds_foldS [5] 2 4 (fun s => .list (s.map dI)) (rIn p.toNat) ([]) PassesOwn.never rfl (pi_list (pv 2)) rfl (by walk_at "imm") rfl (by rfl) ?_) ?_
    · rintro pre2 b2 post2 hl2
      have hm2 := mem_at hl2
      have hl5 := rInLen p.toNat pre2 []
      have hl6 := len_at hl2
      have hl7 := hl3 _ hm2
      generalize pre2.foldl _ _ = s2 at hl5 ⊢
      refine ⟨_, gst_name (pg_name (i := 5) sc_lr.nd rfl (by walk_at "loc")), ?_⟩
      refine dss_seq (ds_ext 4 (pv 4) rfl (pf_lc (own := [("own", 6)]) rfl sc_lr.nd (toI (pi_rng1 rfl T.range (pp_var 0 (pv 0)) (by walk_at "side") (by walk_at "side"))) (blkOk_by (own := [("own", 6)]) (N := N_lr) (sc := defScope s_lr) (by decide +kernel)) (fun _ _ _ _ _ a1 ha1 => gd_name (pg_name (i := 6) sc_lr.nd rfl (by walk_at "loc"))) (fun _ _ _ _ _ a1 ha1 => (toF (pp_catT (pp_var 5 (pv 5)) ((toP (pf_tup (fas_cons ((toF (pp_var 6 (pv 6)) (by walk_at "imm"))) fas_nil) (by walk_at "size")))) (by (simp; have := PySem.sizeLine_eq; omega))) (by walk_at "imm")))) (by (have h9 : pre2.length * p.toNat ≤ 1000000 * 10 := Nat.mul_le_mul (by omega) (by omega); simp at hl5; simp; have := PySem.sizeLine_eq; omega))) ?_
      rintro _ _ ⟨rfl, rfl⟩
      refine dss_nil (.keep (.keep (.keep (.keep (.keep (.drop (.keep .nil))))))) ⟨rfl, _, rfl, ?_⟩
      · simp [rIn, dI, Function.comp_def]
    rintro _ _ ⟨rfl, rfl⟩
    refine dss_seq (ds_move 2 4 sc_lr.nd rfl (.inl rfl) (pv 4)) ?_
    rintro _ _ ⟨rfl, rfl⟩
    refine dss_nil (.keep (.keep (.keep (.drop (.drop (.drop (.keep .nil))))))) ⟨rfl, _, rfl, ?_⟩
    · simp [rStep]
  rintro _ _ ⟨rfl, rfl⟩
  refine ds_one (ds_retV 2 (pv 2) rfl ?_)
  rfl
end
end K87
end
section
set_option Elab.async false
set_option linter.all false
set_option maxRecDepth 100000
set_option maxHeartbeats 4000000
local macro_rules | `(tactic| walk_at "imm") => `(tactic| first
  | exact DL.imm_int
  | exact DL.imm_str
  | exact DL.imm_non
  | exact DL.imm_bl
  | exact DL.imm_nt
  | exact DL.immAll_nil
  | assumption
  | (refine DL.immAll_map ?_; intro _; walk_at "imm")
  | (refine DL.immAll_cons ?_ ?_ <;> walk_at "imm")
  | (refine DL.immAll_append ?_ ?_ <;> walk_at "imm")
  | (refine DL.immAll_rep ?_; walk_at "imm")
  | (refine DL.immAll_mem ?_; walk_at "imm")
  | (intro _ _; walk_at "imm")
  | (refine ⟨?_, ?_⟩ <;> walk_at "imm")
  | (refine DL.immT ?_; assumption))
local macro_rules | `(tactic| walk_at "hu") => `(tactic| exact L2.Room.units (by assumption))
local macro_rules | `(tactic| walk_at "loc") => `(tactic| first | exact Or.inl rfl | exact Or.inr rfl)
local macro_rules | `(tactic| walk_at "room") => `(tactic| first | assumption | exact L2.Room.mono (by assumption) (by decide))
local macro_rules | `(tactic| walk_at "side") => `(tactic| first | assumption | omega | (unfold L2.CMul; omega) | (unfold L2.CDiv; omega) | (have sizeLine_eq1 := PySem.sizeLine_eq; simp only [List.length_map]; omega) | (have sizeLine_eq' := PySem.sizeLine_eq; omega) | (simp; done) | rfl)
local macro_rules | `(tactic| walk_at "size") => `(tactic| ((show _ ≤ 16777216); exact Nat.le_of_ble_eq_true rfl))
local macro_rules | `(tactic| walk_at "sh") => `(tactic| first
  | exact DL.sh_int
  | exact DL.sh_bl
  | exact DL.sh_non
  | exact DL.sh_str (by decide +kernel)
  | exact DL.shA_nil
  | assumption
  | (refine DL.sh_of ?_; walk_at "sh")
  | (refine DL.shA_map ?_; intro _; walk_at "sh")
  | (refine DL.shA_cons ?_ ?_ <;> walk_at "sh")
  | (refine DL.shA_app ?_ ?_ <;> walk_at "sh")
  | (refine DL.sh_tup ?_; walk_at "sh")
  | (refine DL.sh_lst ?_; walk_at "sh"))
namespace K87
open PySem PySem.Spec L2 DL
section
variable {P : Program} {w : World} {K : PySem.W.Frag} {mg : Str → Option Value} {base : Heap}
def Bits (b : List Int) : Prop := ∀ x ∈ b, x = 0 ∨ x = 1
theorem atI_turn {k x : Int} {z o : List Int} (h : x = 0 ∨ x = 1) : atI [.int k, dI z, dI o] (1 + x) = some (dI (if x = 1 then o else z)) := by
  rcases h with rfl | rfl <;> rfl
def thenO (f o : List Int) : List Int := f.map (at0 o)
def comes (q : Int) (os : List (List Int)) : List Int := os.foldl thenO (plain q)
theorem comesInv {q : Int} : ∀ {l : List (List Int)}, (∀ o ∈ l, (o.length : Int) = q ∧ ∀ x ∈ o, 0 ≤ x ∧ x < q) → ∀ s : List Int, (∀ x ∈ s, 0 ≤ x ∧ x < q) → ∀ x ∈ l.foldl thenO s, 0 ≤ x ∧ x < q
  | [], _, s, hs => hs
  | o :: l, h, s, hs => by
    rw [List.foldl_cons]
    refine comesInv (fun p m => h p (List.mem_cons_of_mem _ m)) _ fun x hx => ?_
    obtain ⟨y, hy, rfl⟩ := List.mem_map.mp hx
    have h1 := hs y hy
    obtain ⟨h2, h3⟩ := h o List.mem_cons_self
    exact h3 _ (at0_mem ⟨h1.1, by omega⟩)
def undone (o : List Int) : List Int := (List.range o.length).map fun (x : Nat) => ((o.idxOf (x : Int) : Nat) : Int)
def ixStep (s : List Int) (r : List Int) : List Int := s ++ [((r.idxOf 1 : Nat) : Int)]
theorem ixLen : ∀ (l : List (List Int)) (s : List Int), (l.foldl ixStep s).length = s.length + l.length
  | [], s => rfl
  | r :: l, s => by rw [List.foldl_cons, ixLen l]; unfold ixStep; simp; omega
def unitRow (n : Nat) (x : Int) : List Int := (List.range n).map fun (y : Nat) => if x = (y : Int) then 1 else 0
theorem ordMat_eq (o : List Int) : ordMat o = o.map (unitRow o.length) := rfl
theorem unitRow_facts (n k : Nat) (h : k < n) : (unitRow n k).count 1 = 1 ∧ (unitRow n k).count 0 = n - 1 ∧ (unitRow n k).idxOf 1 = k := by
  have e : ∀ y : Nat, (if (k : Int) = (y : Int) then (1 : Int) else 0) = if k = y then 1 else 0 := fun y => by
    by_cases q : k = y
    · subst q; simp
    · rw [if_neg q, if_neg (by omega)]
  have e2 : unitRow n k = (List.replicate k 0 ++ 1 :: List.replicate (n - k - 1) 0 : List Int) := by
    unfold unitRow
    simp only [e]
    apply List.ext_getElem
    · simp; omega
    · intro i h1 h2
      rw [List.getElem_map, List.getElem_range]
      by_cases h3 : i < k
      · rw [List.getElem_append_left (by simpa using h3), List.getElem_replicate, if_neg (by omega)]
      · rw [List.getElem_append_right (by simpa using h3)]
        simp only [List.length_replicate, List.getElem_cons]
        split
        · rw [dif_pos (by omega)]
        · rw [dif_neg (by omega), List.getElem_replicate]
  rw [e2]
  refine ⟨?_, ?_, ?_⟩
  · rw [List.count_append, List.count_cons, List.count_replicate, List.count_replicate]; simp
  · rw [List.count_append, List.count_cons, List.count_replicate, List.count_replicate]; simp; omega
  · rw [List.idxOf_append, if_neg (by simp), List.length_replicate]; simp
theorem rowOf {o : List Int} {x : Int} {r : List Int} (e : unitRow o.length x = r) (h : 0 ≤ x ∧ x < o.length) : r.count 1 = 1 ∧ r.count 0 = o.length - 1 ∧ r.length = o.length ∧ (1 : Int) ∈ r := by
  obtain ⟨k, rfl⟩ : ∃ k : Nat, x = k := ⟨x.toNat, by omega⟩
  subst e
  obtain ⟨h1, h2, _⟩ := unitRow_facts o.length k (by omega)
  refine ⟨h1, h2, by simp [unitRow], ?_⟩
  exact List.count_pos_iff.mp (by omega)
theorem ixAllGo {n : Nat} : ∀ (l : List Int) (s : List Int), (∀ x ∈ l, 0 ≤ x ∧ x < n) → (l.map (unitRow n)).foldl ixStep s = s ++ l
  | [], s, _ => by simp
  | x :: l, s, h => by
    rw [List.map_cons, List.foldl_cons, ixAllGo l _ fun y m => h y (List.mem_cons_of_mem _ m)]
    obtain ⟨k, e⟩ : ∃ k : Nat, x = k := ⟨x.toNat, by have := h x List.mem_cons_self; omega⟩
    have := (unitRow_facts n k (by have := h x List.mem_cons_self; omega)).2.2
    unfold ixStep
    rw [e, this]
    simp
theorem ixAll {o : List Int} (h : ∀ x ∈ o, 0 ≤ x ∧ x < o.length) : (ordMat o).foldl ixStep [] = o := by rw [ordMat_eq, ixAllGo o [] h]; rfl
def backT (t : Tn) : Tn := ⟨t.k, back t.z, back t.o⟩
abbrev s_ld : Stmt := top 77
abbrev N_ld : List Str := ["word", "items", "turn"]
theorem sc_ld : FnScope N_ld ["word", "items"] (defScope s_ld) := ⟨rfl, rfl, rfl, by decide +kernel, rfl, by decide +kernel, by decide +kernel⟩
def S_ld (ds : List PyData) (d : PyData) : Prop := ∃ (q : Int) (tw : List Tn) (b : List Int), ds = [dW q tw, dI b] ∧ (∀ t ∈ tw, 0 ≤ t.k ∧ t.k < b.length) ∧ Bits b ∧ d = .list ((tw.map (own b)).map dI)
theorem ok_ld (T : Txt mg) {f : Addr} {fd : FuncData} (F : Fun K "_law_done" "_law_done" s_ld f fd) : FnOk P w K mg base CX0 1 f fd ["word", "items"] (spD K S_ld) := by
  refine fn_pure F sc_ld (fun ds d h => ?_) fun cdv A outer s H E hr ds d h => ?_
  · obtain ⟨q, tw, b, rfl, ht, hb, rfl⟩ := h
    rfl
  obtain ⟨q, tw, b, rfl, ht, hb, rfl⟩ := h
  refine ds_one (ds_ret (pf_lc (own := [("turn", 2)]) rfl sc_ld.nd (toI (pi_tupD (pp_fix1 (pp_var 0 (pv 0))) (by walk_at "imm"))) (blkOk_by (own := [("turn", 2)]) (N := N_ld) (sc := defScope s_ld) (by decide +kernel)) (fun _ _ _ _ _ a1 ha1 => gd_name (pg_name (i := 2) sc_ld.nd rfl (by walk_at "loc"))) (fun _ _ _ _ _ a1 ha1 => (toF (pp_ixT (pp_var 2 (pv 2)) ((toP (pf_add ((toP pf_int)) (pp_ixM (f := PyData.int) (pp_var 1 (pv 1)) (pp_fix0 (pp_var 2 (pv 2))) (by exact ht _ ha1))))) (by exact atI_turn (hb _ (at0_mem (ht _ ha1))))) (by walk_at "imm")))) ?_)
  simp [own, Function.comp_def]
abbrev s_lc : Stmt := top 78
abbrev N_lc : List Str := ["d", "orders", "found", "order"]
theorem sc_lc : FnScope N_lc ["d", "orders"] (defScope s_lc) := ⟨rfl, rfl, rfl, by decide +kernel, rfl, by decide +kernel, by decide +kernel⟩
def S_lc (ds : List PyData) (d : PyData) : Prop := ∃ (q : Int) (os : List (List Int)), ds = [.int q, .list (os.map dI)] ∧ (0 ≤ q ∧ q ≤ 1000) ∧ (∀ o ∈ os, (o.length : Int) = q ∧ ∀ x ∈ o, 0 ≤ x ∧ x < q) ∧ d = nt (comes q os)
theorem ok_lc (T : Txt mg) (G_lth : Fu P w K mg base "_law_then" ["one", "other"] 1 S_lth) {f : Addr} {fd : FuncData} (F : Fun K "_law_comes" "_law_comes" s_lc f fd) : FnOk P w K mg base CX0 2 f fd ["d", "orders"] (spD K S_lc) := by
  refine fn_pure F sc_lc (fun ds d h => ?_) fun cdv A outer s H E hr ds d h => ?_
  · obtain ⟨q, os, rfl, hq, ho, rfl⟩ := h
    rfl
  obtain ⟨q, os, rfl, hq, ho, rfl⟩ := h
  refine dss_seq (ds_set 2 sc_lc.nd rfl (by walk_at "loc") (pf_tupleNM (toP (pf_lstRg rfl (pp_var 0 (pv 0)) (by walk_at "side") (by walk_at "side") rfl T.list rfl T.range)) rfl T.tuple)) ?_
  rintro _ _ ⟨rfl, rfl⟩
  refine dss_seq (ds_foldS [3] 1 2 nt thenO (plain q) PassesOwn.never rfl (pi_list (pv 1)) rfl (by walk_at "imm") rfl (by rfl) ?_) ?_
  · rintro pre1 b1 post1 hl1
    have hm1 := mem_at hl1
    have hl2 := comesInv (l := pre1) (fun o h => ho o (sub_at hl1 o h)) (plain q) (plain_rng rfl)
    generalize pre1.foldl _ _ = s1 at hl2 ⊢
    refine ⟨_, gst_name (pg_name (i := 3) sc_lc.nd rfl (by walk_at "loc")), ?_⟩
    refine dss_seq (ds_set 2 sc_lc.nd rfl (by walk_at "loc") (pf_call G_lth (by walk_at "room") (pas_cons ((pp_nt (pp_var 2 (pv 2)))) (pas_cons (pp_var 3 (pv 3)) pas_nil)) (by exact ⟨s1, b1, rfl, (fun x hx => by have h1 := hl2 x hx; have h2 := (ho _ hm1).1; omega), rfl⟩))) ?_
    rintro _ _ ⟨rfl, rfl⟩
    refine dss_nil (.keep (.keep (.keep (.drop .nil)))) ⟨rfl, _, rfl, ?_⟩
    · rfl
  rintro _ _ ⟨rfl, rfl⟩
  refine ds_one (ds_ret ((toF (pp_var 2 (pv 2)) (by walk_at "imm"))) ?_)
  rfl
abbrev s_lu : Stmt := top 74
abbrev N_lu : List Str := ["order", "x"]
theorem sc_lu : FnScope N_lu ["order"] (defScope s_lu) := ⟨rfl, rfl, rfl, by decide +kernel, rfl, by decide +kernel, by decide +kernel⟩
def S_lu (ds : List PyData) (d : PyData) : Prop := ∃ (o : List Int), ds = [nt o] ∧ o.length ≤ 1000 ∧ (∀ x : Nat, x < o.length → (x : Int) ∈ o) ∧ d = dI (undone o)
theorem ok_lu (T : Txt mg) {f : Addr} {fd : FuncData} (F : Fun K "_law_undone" "_law_undone" s_lu f fd) : FnOk P w K mg base CX0 1 f fd ["order"] (spD K S_lu) := by
  refine fn_pure F sc_lu (fun ds d h => ?_) fun cdv A outer s H E hr ds d h => ?_
  · obtain ⟨o, rfl, hl, ho, rfl⟩ := h
    rfl
  obtain ⟨o, rfl, hl, ho, rfl⟩ := h
  refine ds_one (ds_ret (pf_tuple (pf_lc (own := [("x", 1)]) rfl sc_lu.nd (toI (pi_rng1 rfl T.range ((toP (pf_lenT ((pp_nt (pp_var 0 (pv 0)))) rfl T.len))) (by walk_at "side") (by walk_at "side"))) (blkOk_by (own := [("x", 1)]) (N := N_lu) (sc := defScope s_lu) (by decide +kernel)) (fun _ _ _ _ _ a1 ha1 => gd_name (pg_name (i := 1) sc_lu.nd rfl (by walk_at "loc"))) (fun _ _ _ _ _ a1 ha1 => pf_ntindex (pp_var 0 (pv 0)) (pp_var 1 (pv 1)) (by exact ho _ (by have := List.mem_range.mp ha1; simpa using this)))) rfl T.tuple) ?_)
  simp [undone, dI, Function.comp_def]
abbrev s_om2 : Stmt := top 56
abbrev N_om2 : List Str := ["matrix", "found", "row"]
theorem sc_om2 : FnScope N_om2 ["matrix"] (defScope s_om2) := ⟨rfl, rfl, rfl, by decide +kernel, rfl, by decide +kernel, by decide +kernel⟩
def S_om2 (ds : List PyData) (d : PyData) : Prop := ∃ (o : List Int), ds = [dMn (ordMat o)] ∧ o.length < 64 ∧ o.Nodup ∧ (∀ x ∈ o, 0 ≤ x ∧ x < o.length) ∧ d = dI o
theorem ok_om2 (T : Txt mg) {f : Addr} {fd : FuncData} (F : Fun K "order_of_matrix" "order_of_matrix" s_om2 f fd) : FnOk P w K mg base CX0 1 f fd ["matrix"] (spD K S_om2) := by
  refine fn_pure F sc_om2 (fun ds d h => ?_) fun cdv A outer s H E hr ds d h => ?_
  · obtain ⟨o, rfl, hl, hn, ho, rfl⟩ := h
    rfl
  obtain ⟨o, rfl, hl, hn, ho, rfl⟩ := h
  refine dss_seq (ds_set 1 sc_om2.nd rfl (by walk_at "loc") (pf_lst fas_nil (by walk_at "size"))) ?_
  rintro _ _ ⟨rfl, rfl⟩
  refine dss_seq (ds_fold1 [2] 1 (fun s => .list (s.map .int)) ixStep ([]) PassesOwn.never rfl (pi_tupD (pp_var 0 (pv 0)) (by walk_at "imm")) (by walk_at "imm") rfl (by rfl) ?_) ?_
  · rintro pre1 b1 post1 hl1
    have hm1 := mem_at hl1
    obtain ⟨x, hx, e1⟩ := List.mem_map.mp hm1
    have hr := rowOf e1 (ho x hx)
    have hs := len_at hl1
    rw [show (ordMat o).length = o.length by simp [ordMat]] at hs
    have hp := List.length_pos_of_mem hx
    have hg := ixLen pre1 []
    generalize pre1.foldl _ _ = s1 at hg ⊢
    refine ⟨_, gst_name (pg_name (i := 2) sc_om2.nd rfl (by walk_at "loc")), ?_⟩
    refine dss_ifR (PW.pt (pw_orD (pt_c c_neI (((toP (pf_ntcount (pp_var 2 (pv 2)) ((toP pf_int)))))) (((toP pf_int)))) fun hw => pw_last (pt_c c_neI (((toP (pf_ntcount (pp_var 2 (pv 2)) ((toP pf_int)))))) (((toP (pf_sub ((toP (pf_lenT ((pp_nt (pp_var 2 (pv 2)))) rfl T.len))) ((toP pf_int))))))) (.inr rfl))) (fun hw => ?_) (fun hw => ?_)
    · exfalso
      simp [hr.1, hr.2.1, hr.2.2.1] at hw
      omega
    refine dss_seq (ds_app 1 (pv 1) rfl (pf_ntindex (pp_var 2 (pv 2)) ((toP pf_int)) (by exact hr.2.2.2)) (by (simp only [List.length_map] at *; simp at hg; have := PySem.sizeLine_eq; omega))) ?_
    rintro _ _ ⟨rfl, rfl⟩
    refine dss_nil (.keep (.keep (.drop .nil))) ⟨rfl, _, rfl, ?_⟩
    · simp [ixStep]
  rintro _ _ ⟨rfl, rfl⟩
  refine ds_one (ds_ret (pf_if (pt_c c_eqI (((toP (pf_lenSet rfl (pp_var 1 (pv 1)) (by (rw [ixAll ho]; exact ⟨hn, hl⟩)) rfl T.len rfl T.set)))) (((toP (pf_lenL (pp_var 1 (pv 1)) rfl T.len))))) (fun hw => pf_tupleI (pp_var 1 (pv 1)) (by walk_at "imm") rfl T.tuple) (fun hw => pf_non)) ?_)
  simp [ixAll ho, dI]
abbrev s_isj : Stmt := top 16
abbrev N_isj : List Str := ["value"]
theorem sc_isj : FnScope N_isj ["value"] (defScope s_isj) := ⟨rfl, rfl, rfl, by decide +kernel, rfl, by decide +kernel, by decide +kernel⟩
def S_isj (ds : List PyData) (d : PyData) : Prop := ∃ (x : Int), ds = [.int x] ∧ d = .bool true
theorem ok_isj (T : Txt mg) {f : Addr} {fd : FuncData} (F : Fun K "is_integer" "is_integer" s_isj f fd) : FnOk P w K mg base CX0 1 f fd ["value"] (spD K S_isj) := by
  refine fn_pure F sc_isj (fun ds d h => ?_) fun cdv A outer s H E hr ds d h => ?_
  · obtain ⟨x, rfl, rfl⟩ := h
    rfl
  obtain ⟨x, rfl, rfl⟩ := h
  refine ds_one (ds_ret (pf_andD ((toP (pf_isK (T := "int") (pp_var 0 (pv 0)) (show kitB "int" "int" = some true by decide +kernel) rfl T.isinstance (pe_bltn rfl T.int (by decide +kernel) rfl)))) fun hw => pf_one (pf_not ((toP (pf_isK (T := "bool") (pp_var 0 (pv 0)) (show kitB "int" "bool" = some false by decide +kernel) rfl T.isinstance (pe_bltn rfl T.bool (by decide +kernel) rfl)))))) ?_)
  rfl
abbrev s_isi : Stmt := top 38
abbrev N_isi : List Str := ["value"]
theorem sc_isi : FnScope N_isi ["value"] (defScope s_isi) := ⟨rfl, rfl, rfl, by decide +kernel, rfl, by decide +kernel, by decide +kernel⟩
def S_isi (ds : List PyData) (d : PyData) : Prop := ∃ (x : Int), ds = [.int x] ∧ d = .bool true
theorem ok_isi (T : Txt mg) {f : Addr} {fd : FuncData} (F : Fun K "is_integer" "is_integer" s_isi f fd) : FnOk P w K mg base CX0 1 f fd ["value"] (spD K S_isi) := by
  refine fn_pure F sc_isi (fun ds d h => ?_) fun cdv A outer s H E hr ds d h => ?_
  · obtain ⟨x, rfl, rfl⟩ := h
    rfl
  obtain ⟨x, rfl, rfl⟩ := h
  refine ds_one (ds_ret (pf_andD ((toP (pf_isK (T := "int") (pp_var 0 (pv 0)) (show kitB "int" "int" = some true by decide +kernel) rfl T.isinstance (pe_bltn rfl T.int (by decide +kernel) rfl)))) fun hw => pf_one (pf_not ((toP (pf_isK (T := "bool") (pp_var 0 (pv 0)) (show kitB "int" "bool" = some false by decide +kernel) rfl T.isinstance (pe_bltn rfl T.bool (by decide +kernel) rfl)))))) ?_)
  rfl
abbrev s_at : Stmt := top 61
abbrev N_at : List Str := ["d", "value", "many", "item"]
theorem sc_at : FnScope N_at ["d", "value", "many"] (defScope s_at) := ⟨rfl, rfl, rfl, by decide +kernel, rfl, by decide +kernel, by decide +kernel⟩
def S_at (ds : List PyData) (d : PyData) : Prop := ∃ (q : Int) (v : List Int), ds = [.int q, dI v, .int v.length] ∧ (∀ x ∈ v, 0 ≤ x ∧ x < q) ∧ d = .bool true
theorem ok_at (T : Txt mg) (G_isj : Fu P w K mg base "is_integer_fieldnumbers" ["value"] 1 S_isj) {f : Addr} {fd : FuncData} (F : Fun K "are_things" "are_things" s_at f fd) : FnOk P w K mg base CX0 2 f fd ["d", "value", "many"] (spD K S_at) := by
  refine fn_pure F sc_at (fun ds d h => ?_) fun cdv A outer s H E hr ds d h => ?_
  · obtain ⟨q, v, rfl, hv, rfl⟩ := h
    rfl
  obtain ⟨q, v, rfl, hv, rfl⟩ := h
  refine dss_ifR (PW.pt (pw_orD (pt_not' (pt_of ((toP (pf_isK (T := "tuple") (pp_var 1 (pv 1)) (show kitB "tuple" "tuple" = some true by decide +kernel) rfl T.isinstance (pe_bltn rfl T.tuple (by decide +kernel) rfl)))))) fun hw => pw_last (pt_c c_neI (((toP (pf_lenT (pp_var 1 (pv 1)) rfl T.len)))) ((pp_var 2 (pv 2)))) (.inr rfl))) (fun hw => ?_) (fun hw => ?_)
  · exfalso
    simp at hw
  refine ds_one (ds_ret (pf_allM rfl ((toP (pf_lc (own := [("item", 3)]) rfl sc_at.nd (toI (pi_tupD (pp_var 1 (pv 1)) (by walk_at "imm"))) (blkOk_by (own := [("item", 3)]) (N := N_at) (sc := defScope s_at) (by decide +kernel)) (fun _ _ _ _ _ a1 ha1 => gd_name (pg_name (i := 3) sc_at.nd rfl (by walk_at "loc"))) (fun _ _ _ _ _ a1 ha1 => pf_andD ((toP (pf_call G_isj (by walk_at "room") (pas_cons (pp_var 3 (pv 3)) pas_nil) (by exact ⟨_, rfl, rfl⟩)))) fun hw => pf_one (pf_chain2 c_le c_lt (((toP pf_int))) ((pp_var 3 (pv 3))) ((pp_var 0 (pv 0)))))))) rfl T.all) ?_)
  simp only [PyData.bool.injEq, List.all_eq_true]
  intro x hx
  have := hv x hx
  simp; omega
abbrev s_ns : Stmt := top 47
abbrev N_ns : List Str := ["program"]
theorem sc_ns : FnScope N_ns ["program"] (defScope s_ns) := ⟨rfl, rfl, rfl, by decide +kernel, rfl, by decide +kernel, by decide +kernel⟩
def S_ns (ds : List PyData) (d : PyData) : Prop := ∃ (p n l : Int) (as : List Ar), ds = [dP p n l as] ∧ l ≤ 8 ∧ d = .none
theorem ok_ns (T : Txt mg) {f : Addr} {fd : FuncData} (F : Fun K "need_step" "need_step" s_ns f fd) : FnOk P w K mg base CX0 1 f fd ["program"] (spD K S_ns) := by
  refine fn_pure F sc_ns (fun ds d h => ?_) fun cdv A outer s H E hr ds d h => ?_
  · obtain ⟨p, n, l, as, rfl, hl, rfl⟩ := h
    rfl
  obtain ⟨p, n, l, as, rfl, hl, rfl⟩ := h
  refine dss_ifR (pt_c c_gt ((pp_fix2 (pp_var 0 (pv 0)))) (((toP (pf_glob (v := .int 8) rfl T.MAX_STEP.choose_spec ⟨_, rfl⟩ (.int _)))))) (fun hw => ?_) (fun hw => ?_)
  · exfalso
    simp at hw; omega
  refine dss_nil (Le.refl _) rfl
abbrev s_wj : Stmt := top 33
abbrev N_wj : List Str := ["one", "other", "turns"]
theorem sc_wj : FnScope N_wj ["one", "other"] (defScope s_wj) := ⟨rfl, rfl, rfl, by decide +kernel, rfl, by decide +kernel, by decide +kernel⟩
def S_wj (ds : List PyData) (d : PyData) : Prop := ∃ (q : Int) (a b : List Tn) (q2 : Int), ds = [dW q a, dW q2 b] ∧ a.length + b.length ≤ 1000 ∧ d = dW q (a ++ b)
theorem ok_wj (T : Txt mg) {f : Addr} {fd : FuncData} (F : Fun K "words_joined" "words_joined" s_wj f fd) : FnOk P w K mg base CX0 1 f fd ["one", "other"] (spD K S_wj) := by
  refine fn_pure F sc_wj (fun ds d h => ?_) fun cdv A outer s H E hr ds d h => ?_
  · obtain ⟨q, a, b, q2, rfl, hl, rfl⟩ := h
    rfl
  obtain ⟨q, a, b, q2, rfl, hl, rfl⟩ := h
  refine dss_seq (ds_set 2 sc_wj.nd rfl (by walk_at "loc") (cF ((toF (pp_catT (pp_fix1 (pp_var 0 (pv 0))) (pp_fix1 (pp_var 1 (pv 1))) (by walk_at "side")) (by walk_at "imm"))) (show _ = PyData.tuple ((a ++ b).map dT) by rw [List.map_append]))) ?_
  rintro _ _ ⟨rfl, rfl⟩
  refine dss_ifR (pt_c c_gt (((toP (pf_lenT (pp_var 2 (pv 2)) rfl T.len)))) (((toP (pf_glob (v := .int 1024) rfl T.MAX_TURNS.choose_spec ⟨_, rfl⟩ (.int _)))))) (fun hw => ?_) (fun hw => ?_)
  · exfalso
    simp at hw; omega
  refine ds_one (ds_ret (pf_tup (fas_cons ((toF (pp_fix0 (pp_var 0 (pv 0))) (by walk_at "imm"))) (fas_cons ((toF (pp_var 2 (pv 2)) (by walk_at "imm"))) fas_nil)) (by walk_at "size")) ?_)
  rfl
abbrev s_wb : Stmt := top 34
abbrev N_wb : List Str := ["word", "k", "zero", "one"]
theorem sc_wb : FnScope N_wb ["word"] (defScope s_wb) := ⟨rfl, rfl, rfl, by decide +kernel, rfl, by decide +kernel, by decide +kernel⟩
def S_wb (ds : List PyData) (d : PyData) : Prop := ∃ (q : Int) (tw : List Tn), ds = [dW q tw] ∧ (∀ t ∈ tw, ((∀ x ∈ t.z, 0 ≤ x ∧ x < t.z.length) ∧ t.z.length ≤ 1000) ∧ ((∀ x ∈ t.o, 0 ≤ x ∧ x < t.o.length) ∧ t.o.length ≤ 1000)) ∧ d = dW q (tw.reverse.map backT)
theorem ok_wb (T : Txt mg) (G_ob : Fu P w K mg base "order_back" ["order"] 1 S_ob) {f : Addr} {fd : FuncData} (F : Fun K "word_back" "word_back" s_wb f fd) : FnOk P w K mg base CX0 2 f fd ["word"] (spD K S_wb) := by
  refine fn_pure F sc_wb (fun ds d h => ?_) fun cdv A outer s H E hr ds d h => ?_
  · obtain ⟨q, tw, rfl, ht, rfl⟩ := h
    rfl
  obtain ⟨q, tw, rfl, ht, rfl⟩ := h
  refine ds_one (ds_ret (pf_tup (fas_cons ((toF (pp_fix0 (pp_var 0 (pv 0))) (by walk_at "imm"))) (fas_cons (pf_tuple (pf_lc (own := [("k", 1), ("zero", 2), ("one", 3)]) rfl sc_wb.nd (toI (pi_tupD (pp_revM (f := dT) (pp_fix1 (pp_var 0 (pv 0))) (by walk_at "imm")) (by walk_at "imm"))) (blkOk_by (own := [("k", 1), ("zero", 2), ("one", 3)]) (N := N_wb) (sc := defScope s_wb) (by decide +kernel)) (fun _ _ _ _ _ a1 ha1 => gd_tup rfl (gds_cons (gd_name (pg_name (i := 1) sc_wb.nd rfl (by walk_at "loc"))) (gds_cons (gd_name (pg_name (i := 2) sc_wb.nd rfl (by walk_at "loc"))) (gds_cons (gd_name (pg_name (i := 3) sc_wb.nd rfl (by walk_at "loc"))) gds_nil)))) (fun _ _ _ _ _ a1 ha1 => pf_tup (fas_cons ((toF (pp_var 1 (pv 1)) (by walk_at "imm"))) (fas_cons (pf_call G_ob (by walk_at "room") (pas_cons (pp_var 2 (pv 2)) pas_nil) (by exact ⟨_, rfl, (ht _ (List.mem_reverse.mp ha1)).1.1, (ht _ (List.mem_reverse.mp ha1)).1.2, rfl⟩)) (fas_cons (pf_call G_ob (by walk_at "room") (pas_cons (pp_var 3 (pv 3)) pas_nil) (by exact ⟨_, rfl, (ht _ (List.mem_reverse.mp ha1)).2.1, (ht _ (List.mem_reverse.mp ha1)).2.2, rfl⟩)) fas_nil))) (by walk_at "size"))) rfl T.tuple) fas_nil)) (by walk_at "size")) ?_)
  simp [dW, backT, dT, Function.comp_def]
end
end K87
end
section
set_option Elab.async false
set_option linter.all false
set_option maxRecDepth 100000
set_option maxHeartbeats 4000000
local macro_rules | `(tactic| walk_at "imm") => `(tactic| first
  | exact DL.imm_int
  | exact DL.imm_str
  | exact DL.imm_non
  | exact DL.imm_bl
  | exact DL.imm_nt
  | exact DL.immAll_nil
  | assumption
  | (refine DL.immAll_map ?_; intro _; walk_at "imm")
  | (refine DL.immAll_cons ?_ ?_ <;> walk_at "imm")
  | (refine DL.immAll_append ?_ ?_ <;> walk_at "imm")
  | (refine DL.immAll_rep ?_; walk_at "imm")
  | (refine DL.immAll_mem ?_; walk_at "imm")
  | (intro _ _; walk_at "imm")
  | (refine ⟨?_, ?_⟩ <;> walk_at "imm")
  | (refine DL.immT ?_; assumption))
local macro_rules | `(tactic| walk_at "hu") => `(tactic| exact L2.Room.units (by assumption))
local macro_rules | `(tactic| walk_at "loc") => `(tactic| first | exact Or.inl rfl | exact Or.inr rfl)
local macro_rules | `(tactic| walk_at "room") => `(tactic| first | assumption | exact L2.Room.mono (by assumption) (by decide))
local macro_rules | `(tactic| walk_at "side") => `(tactic| first | assumption | omega | (unfold L2.CMul; omega) | (unfold L2.CDiv; omega) | (have sizeLine_eq1 := PySem.sizeLine_eq; simp only [List.length_map]; omega) | (have sizeLine_eq' := PySem.sizeLine_eq; omega) | (simp; done) | rfl)
local macro_rules | `(tactic| walk_at "size") => `(tactic| ((show _ ≤ 16777216); exact Nat.le_of_ble_eq_true rfl))
local macro_rules | `(tactic| walk_at "sh") => `(tactic| first
  | exact DL.sh_int
  | exact DL.sh_bl
  | exact DL.sh_non
  | exact DL.sh_str (by decide +kernel)
  | exact DL.shA_nil
  | assumption
  | (refine DL.sh_of ?_; walk_at "sh")
  | (refine DL.shA_map ?_; intro _; walk_at "sh")
  | (refine DL.shA_cons ?_ ?_ <;> walk_at "sh")
  | (refine DL.shA_app ?_ ?_ <;> walk_at "sh")
  | (refine DL.sh_tup ?_; walk_at "sh")
  | (refine DL.sh_lst ?_; walk_at "sh"))
namespace K87
open PySem PySem.Spec L2 DL
section
variable {P : Program} {w : World} {K : PySem.W.Frag} {mg : Str → Option Value} {base : Heap}
theorem foldKeep {b : List Int} : ∀ (tw : List Tn) (s : List Int) (i : Nat), i < s.length → (tw.foldl (sStep b) s).getD i default = s.getD i default
  | [], _, _, _ => rfl
  | t :: tw, s, i, h => by
    rw [List.foldl_cons, foldKeep tw _ i (by unfold sStep; simp; omega)]
    unfold sStep
    simp only [List.getD_eq_getElem?_getD]
    rw [List.getElem?_append_left h]
theorem foldAt {b : List Int} : ∀ (tw : List Tn) (s : List Int) (n : Nat) (t : Tn), 0 < s.length → tw[n]? = some t →
    (tw.foldl (sStep b) s).getD (s.length + n) default = at0 (if at0 b t.k = 1 then t.o else t.z) ((tw.foldl (sStep b) s).getD (s.length - 1 + n) default)
  | [], _, n, _, _, h => by simp at h
  | u :: tw, s, 0, t, h0, h => by
    have e : u = t := by simpa using h
    subst e
    rw [List.foldl_cons, Nat.add_zero, Nat.add_zero, foldKeep tw _ _ (by unfold sStep; simp), foldKeep tw _ _ (by unfold sStep; simp; omega)]
    unfold sStep
    simp only [List.getD_eq_getElem?_getD]
    rw [List.getElem?_append_right (Nat.le_refl _), List.getElem?_append_left (by omega), Nat.sub_self]
    rfl
  | u :: tw, s, n + 1, t, h0, h => by
    have hs : (sStep b s u).length = s.length + 1 := by unfold sStep; simp
    have := foldAt (b := b) tw (sStep b s u) n t (by omega) (by simpa using h)
    rw [hs] at this
    rw [List.foldl_cons, show s.length + (n + 1) = s.length + 1 + n by omega, this, show s.length - 1 + (n + 1) = s.length + 1 - 1 + n by omega]
theorem zipIdx_at {α : Type} {l : List α} {pre post : List (α × Nat)} {q : α × Nat} (h : l.zipIdx = pre ++ q :: post) : q.2 < l.length ∧ l[q.2]? = some q.1 := by
  have hm := mem_at h
  have := List.mem_zipIdx_iff_getElem?.mp hm
  exact ⟨(List.getElem?_eq_some_iff.mp this).1, this⟩
theorem stStep {tw : List Tn} {b : List Int} {x : Int} {pre post : List (Tn × Nat)} {q : Tn × Nat} (h : tw.zipIdx = pre ++ q :: post) :
    q.2 < tw.length ∧ tw[q.2]? = some q.1 ∧ at0 (states tw b x) ((q.2 : Int) + 1) = at0 (if at0 b q.1.k = 1 then q.1.o else q.1.z) (at0 (states tw b x) q.2) := by
  obtain ⟨h1, h2⟩ := zipIdx_at h
  refine ⟨h1, h2, ?_⟩
  have := foldAt (b := b) tw [x] q.2 q.1 (by simp) h2
  have e1 : ((q.2 : Int) + 1).toNat = [x].length + q.2 := by simp; omega
  show (tw.foldl (sStep b) [x]).getD ((q.2 : Int) + 1).toNat default = _
  rw [e1, this]
  have e2 : [x].length - 1 + q.2 = ((q.2 : Nat) : Int).toNat := by simp
  rw [e2]
  rfl
theorem st0 {tw : List Tn} {b : List Int} {x : Int} : at0 (states tw b x) 0 = x := by
  have := foldKeep (b := b) tw [x] 0 (by simp)
  exact this
theorem stPos {tw : List Tn} {b : List Int} {x : Int} : 0 ≤ (0 : Int) ∧ (0 : Int) < (states tw b x).length := by
  have : (states tw b x).length = 1 + tw.length := by
    have e : ∀ (tw : List Tn) (s : List Int), (tw.foldl (sStep b) s).length = s.length + tw.length := fun tw => by
      induction tw with
      | nil => intro s; rfl
      | cons t tw ih => intro s; rw [List.foldl_cons, ih]; unfold sStep; simp; omega
    exact e tw [x]
  omega
theorem stLen {tw : List Tn} {b : List Int} {x : Int} : (states tw b x).length = tw.length + 1 := by
  have e : ∀ (tw : List Tn) (s : List Int), (tw.foldl (sStep b) s).length = s.length + tw.length := fun tw => by
    induction tw with
    | nil => intro s; rfl
    | cons t tw ih => intro s; rw [List.foldl_cons, ih]; unfold sStep; simp; omega
  have := e tw [x]
  unfold states
  rw [this]; simp; omega
theorem sRng {q : Int} {n : Nat} {tw : List Tn} {b : List Int} {x : Int} (hx : 0 ≤ x ∧ x < q) (ht : WOk q n tw) : ∀ y ∈ states tw b x, 0 ≤ y ∧ y < q :=
  (sInv (s := [x]) (b := b) ht ⟨by simp, fun o ho => by rw [List.mem_singleton.mp ho]; exact hx⟩).1.2
theorem allRows_len {p n : Nat} {b : List Int} (h : b ∈ allRows p n) : b.length = n := by
  have := (rInv p (List.range n) [[]] 0 (by simp)).2 b h
  rw [List.length_range] at this
  omega
def leadIt (n : Nat) (tw : List Tn) (x y : Int) : PyData := match (allRows 2 n).find? (fun b => decide (lst0 (states tw b x) = y)) with
  | some b => dI b
  | none => .none
theorem leadHit {n : Nat} {tw : List Tn} {x y : Int} {pre post : List (List Int)} {b : List Int} (h : allRows 2 n = pre ++ b :: post) (hp : ∀ c ∈ pre, lst0 (states tw c x) ≠ y) (hb : lst0 (states tw b x) = y) : dI b = leadIt n tw x y := by
  unfold leadIt
  have : (allRows 2 n).find? (fun b => decide (lst0 (states tw b x) = y)) = some b := by
    rw [h, List.find?_append, List.find?_eq_none.mpr fun c hc => by simpa using hp c hc]
    simp [hb]
  rw [this]
theorem leadMiss {n : Nat} {tw : List Tn} {x y : Int} (hp : ∀ c ∈ allRows 2 n, lst0 (states tw c x) ≠ y) : PyData.none = leadIt n tw x y := by
  unfold leadIt
  rw [List.find?_eq_none.mpr fun c hc => by simpa using hp c hc]
structure PrValid (p n l : Int) (as : List Ar) : Prop where
  hp : p = 2 ∨ p = 3 ∨ p = 5 ∨ p = 7
  hn : 0 ≤ n ∧ n ≤ 6
  hl : 1 ≤ l ∧ l ≤ 40
  a : ∀ a ∈ as, 0 ≤ a.i ∧ a.i < a.j ∧ a.j ≤ l ∧ -1 ≤ a.k ∧ a.k < n ∧ 1 ≤ a.c ∧ a.c < p
  s : ∀ j : Nat, j + 1 < as.length → le3 (at0 as ((j : Int) + 1)).i (at0 as ((j : Int) + 1)).j (at0 as ((j : Int) + 1)).k (at0 as j).i (at0 as j).j (at0 as j).k = false
  len : as.length ≤ 100000
def ledH (t : Tn) (b : List Int) : Tn := ⟨t.k, (back b).map (at0 t.z), (back b).map (at0 t.o)⟩
def ledW (t : Tn) (r : List Tn) (b : List Int) : List Tn := (ledH t b :: r).dropLast ++ [behindT (lst0 (ledH t b :: r)) b]
theorem backRngGo {n : Int} : ∀ (l : List (Int × Nat)) (s : List Int), (∀ q ∈ l, (q.2 : Int) < n) → (∀ x ∈ s, 0 ≤ x ∧ x < n) → ∀ x ∈ l.foldl bStep s, 0 ≤ x ∧ x < n
  | [], s, _, h => h
  | q :: l, s, hl, h => backRngGo l _ (fun p m => hl p (List.mem_cons_of_mem _ m)) fun x hx => by
    unfold bStep at hx
    rcases List.mem_or_eq_of_mem_set hx with hx | hx
    · exact h x hx
    · have := hl q List.mem_cons_self
      omega
theorem backRng {o : List Int} (h : ∀ x ∈ o, 0 ≤ x ∧ x < o.length) : (back o).length = o.length ∧ ∀ x ∈ back o, 0 ≤ x ∧ x < o.length := by
  refine ⟨by unfold back; rw [backLen]; simp, ?_⟩
  unfold back
  refine backRngGo _ _ (fun q m => ?_) fun x hx => ?_
  · have := (List.getElem?_eq_some_iff.mp (List.mem_zipIdx_iff_getElem?.mp m)).1
    omega
  · obtain ⟨h1, h2⟩ := List.mem_replicate.mp hx
    omega
theorem ledRng {b : List Int} {t : Tn} {r : List Tn} (hb : ∀ x ∈ b, 0 ≤ x ∧ x < b.length) (hu : ∀ u ∈ t :: r, (u.z.length = b.length ∧ ∀ x ∈ u.z, 0 ≤ x ∧ x < b.length) ∧ (u.o.length = b.length ∧ ∀ x ∈ u.o, 0 ≤ x ∧ x < b.length)) :
    ∀ u ∈ ledH t b :: r, (∀ x ∈ u.z, 0 ≤ x ∧ x < b.length) ∧ (∀ x ∈ u.o, 0 ≤ x ∧ x < b.length) := by
  intro u m
  rcases List.mem_cons.mp m with rfl | m
  · have h0 := hu t List.mem_cons_self
    have hk := backRng hb
    refine ⟨fun x hx => ?_, fun x hx => ?_⟩
    · obtain ⟨y, hy, rfl⟩ := List.mem_map.mp hx
      exact h0.1.2 _ (at0_mem (by have := hk.2 y hy; omega))
    · obtain ⟨y, hy, rfl⟩ := List.mem_map.mp hx
      exact h0.2.2 _ (at0_mem (by have := hk.2 y hy; omega))
  · have h0 := hu u (List.mem_cons_of_mem _ m)
    exact ⟨h0.1.2, h0.2.2⟩
abbrev s_se : Stmt := top 62
abbrev N_se : List Str := ["word", "bits", "first", "value", "t", "k", "zero", "one"]
theorem sc_se : FnScope N_se ["word", "bits", "first", "value"] (defScope s_se) := ⟨rfl, rfl, rfl, by decide +kernel, rfl, by decide +kernel, by decide +kernel⟩
def S_se (ds : List PyData) (d : PyData) : Prop := ∃ (q : Int) (tw : List Tn) (b : List Int) (x : Int), ds = [dW q tw, dI b, .int x, dI (states tw b x)] ∧ (0 ≤ x ∧ x < q) ∧ tw.length ≤ 1000 ∧ WOk q b.length tw ∧ d = .none
theorem ok_se (T : Txt mg) (G_at : Fu P w K mg base "are_things" ["d", "value", "many"] 2 S_at) {f : Addr} {fd : FuncData} (F : Fun K "states_error" "states_error" s_se f fd) : FnOk P w K mg base CX0 3 f fd ["word", "bits", "first", "value"] (spD K S_se) := by
  refine fn_pure F sc_se (fun ds d h => ?_) fun cdv A outer s H E hr ds d h => ?_
  · obtain ⟨q, tw, b, x, rfl, hx, hl, ht, rfl⟩ := h
    rfl
  obtain ⟨q, tw, b, x, rfl, hx, hl, ht, rfl⟩ := h
  refine dss_ifR (pt_not' (pt_of ((toP (pf_call G_at (by walk_at "room") (pas_cons (pp_fix0 (pp_var 0 (pv 0))) (pas_cons (pp_var 3 (pv 3)) (pas_cons ((toP (pf_add ((toP (pf_lenT (pp_fix1 (pp_var 0 (pv 0))) rfl T.len))) ((toP pf_int))))) pas_nil))) (by (exact ⟨q, states tw b x, by rw [stLen, List.length_map]; rfl, sRng hx ht, rfl⟩))))))) (fun hw => ?_) (fun hw => ?_)
  · exfalso
    simp at hw
  refine dss_ifR (pt_c c_neI ((pp_ixM (f := PyData.int) (pp_var 3 (pv 3)) ((toP pf_int)) (by exact stPos))) ((pp_var 2 (pv 2)))) (fun hw => ?_) (fun hw => ?_)
  · exfalso
    rw [st0] at hw
    simp at hw
  refine dss_seq (ds_find [4, 5, 6, 7] (fun _ => True) PassesOwn.never rfl (pi_enumTM (f := dT) (pp_fix1 (pp_var 0 (pv 0))) rfl T.enumerate (by walk_at "imm")) (by walk_at "imm") ?_) ?_
  · rintro pre1 b1 post1 hl1 hp1
    have hm1 := mem_at hl1
    have hz := stStep (b := b) (x := x) hl1
    have hi := sInv (s := [x]) (b := b) ht ⟨by simp, fun o ho => by rw [List.mem_singleton.mp ho]; exact hx⟩
    refine ⟨_, gst_tup rfl (gsts_cons (gst_name (pg_name (i := 4) sc_se.nd rfl (by walk_at "loc"))) (gsts_cons (gst_tup rfl (gsts_cons (gst_name (pg_name (i := 5) sc_se.nd rfl (by walk_at "loc"))) (gsts_cons (gst_name (pg_name (i := 6) sc_se.nd rfl (by walk_at "loc"))) (gsts_cons (gst_name (pg_name (i := 7) sc_se.nd rfl (by walk_at "loc"))) gsts_nil)))) gsts_nil)), ?_⟩
    refine dss_ifR (pt_c c_neI ((pp_ixM (f := PyData.int) (pp_ifT (f := PyData.int) (pt_c c_eqI ((pp_ixM (f := PyData.int) (pp_var 1 (pv 1)) (pp_var 5 (pv 5)) (by exact ht.k _ (List.mem_of_getElem? hz.2.1)))) (((toP pf_int)))) (fun hw => pp_var 7 (pv 7)) (fun hw => pp_var 6 (pv 6))) (pp_ixM (f := PyData.int) (pp_var 3 (pv 3)) (pp_var 4 (pv 4)) (by (have := hz.1; rw [stLen]; omega))) (by (have h1 := sRng hx ht _ (at0_mem (l := states tw b x) (i := (b1.2 : Int)) (by have := hz.1; rw [stLen]; omega)); have h2 := own_rng (b := b) ht (List.mem_of_getElem? hz.2.1); simp only [decide_eq_true_eq]; omega)))) ((pp_ixM (f := PyData.int) (pp_var 3 (pv 3)) ((toP (pf_add (pp_var 4 (pv 4)) ((toP pf_int))))) (by (have := hz.1; rw [stLen]; omega))))) (fun hw => ?_) (fun hw => ?_)
    · exfalso
      simp only [decide_eq_true_eq] at hw
      rw [hz.2.2] at hw
      simp at hw
    refine dss_nil (.keep (.keep (.keep (.keep (.drop (.drop (.drop (.drop .nil)))))))) ⟨⟨rfl, rfl⟩, ?_⟩
    · trivial
  rintro _ _ ⟨⟨rfl, rfl⟩, hall1⟩
  refine ds_one (ds_ret pf_non ?_)
  rfl
abbrev s_li : Stmt := top 64
abbrev N_li : List Str := ["n", "word", "first", "last", "bits"]
theorem sc_li : FnScope N_li ["n", "word", "first", "last"] (defScope s_li) := ⟨rfl, rfl, rfl, by decide +kernel, rfl, by decide +kernel, by decide +kernel⟩
def S_li (ds : List PyData) (d : PyData) : Prop := ∃ (n : Nat) (q : Int) (tw : List Tn) (x y : Int), ds = [.int n, dW q tw, .int x, .int y] ∧ n ≤ 6 ∧ (0 ≤ x ∧ x < q) ∧ tw.length ≤ 1000 ∧ WOk q n tw ∧ d = leadIt n tw x y
theorem ok_li (T : Txt mg) (G_sa : Fu P w K mg base "states_along" ["word", "bits", "first"] 1 S_sa) (G_ar : Fu P w K mg base "all_rows" ["p", "n"] 1 S_ar) {f : Addr} {fd : FuncData} (F : Fun K "leading_items" "leading_items" s_li f fd) : FnOk P w K mg base CX0 2 f fd ["n", "word", "first", "last"] (spD K S_li) := by
  refine fn_pure F sc_li (fun ds d h => ?_) fun cdv A outer s H E hr ds d h => ?_
  · obtain ⟨n, q, tw, x, y, rfl, hn, hx, hl, ht, rfl⟩ := h
    rfl
  obtain ⟨n, q, tw, x, y, rfl, hn, hx, hl, ht, rfl⟩ := h
  refine dss_seq (ds_find [4] (fun b => lst0 (states tw b x) ≠ y) PassesOwn.never rfl (pi_tupD ((toP (pf_call G_ar (by walk_at "room") (pas_cons ((toP pf_int)) (pas_cons (pp_var 0 (pv 0)) pas_nil)) (by exact ⟨2, n, rfl, by omega, by omega, rfl⟩)))) (by walk_at "imm")) (by walk_at "imm") ?_) ?_
  · rintro pre1 b1 post1 hl1 hp1
    have hm1 := mem_at hl1
    have hb := allRows_len (mem_at hl1)
    refine ⟨_, gst_name (pg_name (i := 4) sc_li.nd rfl (by walk_at "loc")), ?_⟩
    refine dss_ifR (pt_c c_eqI ((pp_lastT (f := PyData.int) ((toP (pf_call G_sa (by walk_at "room") (pas_cons (pp_var 1 (pv 1)) (pas_cons (pp_var 4 (pv 4)) (pas_cons (pp_var 2 (pv 2)) pas_nil))) (by exact ⟨q, tw, b1, x, rfl, hx, hl, (by rw [hb]; exact ht), rfl⟩)))) (by (rw [stLen]; omega)))) ((pp_var 3 (pv 3)))) (fun hw => ?_) (fun hw => ?_)
    · -- return bits
      refine ds_one (ds_ret ((toF (pp_var 4 (pv 4)) (by walk_at "imm"))) ?_)
      exact leadHit hl1 hp1 (by simpa using hw)
    refine dss_nil (.keep (.keep (.keep (.keep (.drop .nil))))) ⟨⟨rfl, rfl⟩, ?_⟩
    · simpa using hw
  rintro _ _ ⟨⟨rfl, rfl⟩, hall1⟩
  refine ds_one (ds_ret pf_non ?_)
  exact leadMiss hall1
abbrev s_ia : Stmt := top 40
abbrev N_ia : List Str := ["p", "n", "l", "value", "i", "j", "k", "c", "item"]
theorem sc_ia : FnScope N_ia ["p", "n", "l", "value"] (defScope s_ia) := ⟨rfl, rfl, rfl, by decide +kernel, rfl, by decide +kernel, by decide +kernel⟩
def S_ia (ds : List PyData) (d : PyData) : Prop := ∃ (p n l : Int) (a : Ar), ds = [.int p, .int n, .int l, dA a] ∧ (0 ≤ a.i ∧ a.i < a.j ∧ a.j ≤ l ∧ -1 ≤ a.k ∧ a.k < n ∧ 1 ≤ a.c ∧ a.c < p) ∧ d = .bool true
theorem ok_ia (T : Txt mg) (G_isi : Fu P w K mg base "is_integer_programs" ["value"] 1 S_isi) {f : Addr} {fd : FuncData} (F : Fun K "is_arrow" "is_arrow" s_ia f fd) : FnOk P w K mg base CX0 2 f fd ["p", "n", "l", "value"] (spD K S_ia) := by
  refine fn_pure F sc_ia (fun ds d h => ?_) fun cdv A outer s H E hr ds d h => ?_
  · obtain ⟨p, n, l, a, rfl, ha, rfl⟩ := h
    rfl
  obtain ⟨p, n, l, a, rfl, ha, rfl⟩ := h
  refine dss_ifR (PW.pt (pw_orD (pt_not' (pt_of ((toP (pf_isK (T := "tuple") (pp_var 3 (pv 3)) (show kitB "tuple" "tuple" = some true by decide +kernel) rfl T.isinstance (pe_bltn rfl T.tuple (by decide +kernel) rfl)))))) fun hw => pw_orD (pt_c c_neI (((toP (pf_lenT (pp_var 3 (pv 3)) rfl T.len)))) (((toP pf_int)))) fun hw => pw_last (pt_not' (pt_of ((toP (pf_allM rfl ((toP (pf_lc (own := [("item", 8)]) rfl sc_ia.nd (toI (pi_tupD (cP (d1 := PyData.tuple (List.map PyData.int [_, _, _, _])) (pp_var 3 (pv 3)) rfl) (by walk_at "imm"))) (blkOk_by (own := [("item", 8)]) (N := N_ia) (sc := defScope s_ia) (by decide +kernel)) (fun _ _ _ _ _ a1 ha1 => gd_name (pg_name (i := 8) sc_ia.nd rfl (by walk_at "loc"))) (fun _ _ _ _ _ a1 ha1 => pf_call G_isi (by walk_at "room") (pas_cons (pp_var 8 (pv 8)) pas_nil) (by exact ⟨_, rfl, rfl⟩))))) rfl T.all))))) (.inr rfl))) (fun hw => ?_) (fun hw => ?_)
  · exfalso
    simp at hw
  refine dss_seq (ds_asg (pp_var 3 (pv 3)) (by walk_at "imm") (gst_tup rfl (gsts_cons (gst_name (pg_name (i := 4) sc_ia.nd rfl (by walk_at "loc"))) (gsts_cons (gst_name (pg_name (i := 5) sc_ia.nd rfl (by walk_at "loc"))) (gsts_cons (gst_name (pg_name (i := 6) sc_ia.nd rfl (by walk_at "loc"))) (gsts_cons (gst_name (pg_name (i := 7) sc_ia.nd rfl (by walk_at "loc"))) gsts_nil)))))) ?_
  rintro _ _ ⟨rfl, rfl⟩
  refine ds_one (ds_ret (pf_andD ((toP (pf_chain3 c_le c_lt c_le (((toP pf_int))) ((pp_var 4 (pv 4))) ((pp_var 5 (pv 5))) ((pp_var 2 (pv 2)))))) fun hw => pf_andD ((toP (pf_chain2 c_le c_lt (((toP (pf_neg ((toP pf_int)))))) ((pp_var 6 (pv 6))) ((pp_var 1 (pv 1)))))) fun hw => pf_one (pf_chain2 c_le c_lt (((toP pf_int))) ((pp_var 7 (pv 7))) ((pp_var 0 (pv 0))))) ?_)
  simp; omega
abbrev s_pe : Stmt := top 41
abbrev N_pe : List Str := ["value", "p", "n", "l", "arrows", "a", "arrow", "item"]
theorem sc_pe : FnScope N_pe ["value"] (defScope s_pe) := ⟨rfl, rfl, rfl, by decide +kernel, rfl, by decide +kernel, by decide +kernel⟩
def S_pe (ds : List PyData) (d : PyData) : Prop := ∃ (p n l : Int) (as : List Ar), ds = [dP p n l as] ∧ PrValid p n l as ∧ d = .none
theorem ok_pe (T : Txt mg) (G_isi : Fu P w K mg base "is_integer_programs" ["value"] 1 S_isi) (G_ia : Fu P w K mg base "is_arrow" ["p", "n", "l", "value"] 2 S_ia) {f : Addr} {fd : FuncData} (F : Fun K "program_error" "program_error" s_pe f fd) : FnOk P w K mg base CX0 3 f fd ["value"] (spD K S_pe) := by
  refine fn_pure F sc_pe (fun ds d h => ?_) fun cdv A outer s H E hr ds d h => ?_
  · obtain ⟨p, n, l, as, rfl, hv, rfl⟩ := h
    rfl
  obtain ⟨p, n, l, as, rfl, hv, rfl⟩ := h
  have hvl := hv.len
  refine dss_ifR (PW.pt (pw_orD (pt_not' (pt_of ((toP (pf_isK (T := "tuple") (pp_var 0 (pv 0)) (show kitB "tuple" "tuple" = some true by decide +kernel) rfl T.isinstance (pe_bltn rfl T.tuple (by decide +kernel) rfl)))))) fun hw => pw_orD (pt_c c_neI (((toP (pf_lenT (pp_var 0 (pv 0)) rfl T.len)))) (((toP pf_int)))) fun hw => pw_last (pt_not' (pt_of ((toP (pf_isK (T := "tuple") (pp_fix3 (pp_var 0 (pv 0))) (show kitB "tuple" "tuple" = some true by decide +kernel) rfl T.isinstance (pe_bltn rfl T.tuple (by decide +kernel) rfl)))))) (.inr rfl))) (fun hw => ?_) (fun hw => ?_)
  · exfalso
    simp at hw
  refine dss_ifR (pt_not' (pt_of ((toP (pf_allM rfl ((toP (pf_lc (own := [("item", 7)]) rfl sc_pe.nd (toI (pi_tupD (cP (d1 := PyData.tuple (List.map PyData.int [_, _, _])) (pp_sl3 (pp_var 0 (pv 0))) rfl) (by walk_at "imm"))) (blkOk_by (own := [("item", 7)]) (N := N_pe) (sc := defScope s_pe) (by decide +kernel)) (fun _ _ _ _ _ a1 ha1 => gd_name (pg_name (i := 7) sc_pe.nd rfl (by walk_at "loc"))) (fun _ _ _ _ _ a1 ha1 => pf_call G_isi (by walk_at "room") (pas_cons (pp_var 7 (pv 7)) pas_nil) (by exact ⟨_, rfl, rfl⟩))))) rfl T.all))))) (fun hw => ?_) (fun hw => ?_)
  · exfalso
    simp at hw
  refine dss_seq (ds_asg (pp_var 0 (pv 0)) (by walk_at "imm") (gst_tup rfl (gsts_cons (gst_name (pg_name (i := 1) sc_pe.nd rfl (by walk_at "loc"))) (gsts_cons (gst_name (pg_name (i := 2) sc_pe.nd rfl (by walk_at "loc"))) (gsts_cons (gst_name (pg_name (i := 3) sc_pe.nd rfl (by walk_at "loc"))) (gsts_cons (gst_name (pg_name (i := 4) sc_pe.nd rfl (by walk_at "loc"))) gsts_nil)))))) ?_
  rintro _ _ ⟨rfl, rfl⟩
  refine dss_ifR (pt_c c_notInI ((pp_var 1 (pv 1))) ((cP (d1 := PyData.tuple (List.map PyData.int [2, 3, 5, 7])) ((toP (pf_tup (fas_cons pf_int (fas_cons pf_int (fas_cons pf_int (fas_cons pf_int fas_nil)))) (by walk_at "size")))) rfl))) (fun hw => ?_) (fun hw => ?_)
  · exfalso
    have := hv.hp
    simp at hw
    omega
  refine dss_ifR (pt_not' (pt_chain2 c_le c_le (((toP pf_int))) ((pp_var 2 (pv 2))) (((toP (pf_glob (v := .int 6) rfl T.MAX_HOLDERS.choose_spec ⟨_, rfl⟩ (.int _))))))) (fun hw => ?_) (fun hw => ?_)
  · exfalso
    have := hv.hn
    simp at hw
    omega
  refine dss_ifR (pt_not' (pt_chain2 c_le c_le (((toP pf_int))) ((pp_var 3 (pv 3))) (((toP (pf_glob (v := .int 40) rfl T.MAX_LENGTH.choose_spec ⟨_, rfl⟩ (.int _))))))) (fun hw => ?_) (fun hw => ?_)
  · exfalso
    have := hv.hl
    simp at hw
    omega
  refine dss_seq (ds_find [5, 6] (fun _ => True) PassesOwn.never rfl (pi_enumTM (f := dA) (pp_var 4 (pv 4)) rfl T.enumerate (by walk_at "imm")) (by walk_at "imm") ?_) ?_
  · rintro pre1 b1 post1 hl1 hp1
    have hm1 := mem_at hl1
    refine ⟨_, gst_tup rfl (gsts_cons (gst_name (pg_name (i := 5) sc_pe.nd rfl (by walk_at "loc"))) (gsts_cons (gst_name (pg_name (i := 6) sc_pe.nd rfl (by walk_at "loc"))) gsts_nil)), ?_⟩
    refine dss_ifR (pt_not' (pt_of ((toP (pf_call G_ia (by walk_at "room") (pas_cons (pp_var 1 (pv 1)) (pas_cons (pp_var 2 (pv 2)) (pas_cons (pp_var 3 (pv 3)) (pas_cons (pp_var 6 (pv 6)) pas_nil)))) (by exact ⟨p, n, l, _, rfl, hv.a _ (List.fst_mem_of_mem_zipIdx hm1), rfl⟩)))))) (fun hw => ?_) (fun hw => ?_)
    · exfalso
      simp at hw
    refine dss_nil (.keep (.keep (.keep (.keep (.keep (.drop (.drop (.keep .nil)))))))) ⟨⟨rfl, rfl⟩, ?_⟩
    · trivial
  rintro _ _ ⟨⟨rfl, rfl⟩, hall1⟩
  refine dss_seq (ds_find [5] (fun _ => True) PassesOwn.never rfl (pi_rng2 rfl T.range ((toP pf_int)) ((toP (pf_lenT (pp_var 4 (pv 4)) rfl T.len))) (by walk_at "side") (by walk_at "side") (by walk_at "side") (by walk_at "side")) (by walk_at "imm") ?_) ?_
  · rintro pre2 b2 post2 hl2 hp2
    have hm2 := mem_at hl2
    have hr := range_at hl2
    have hr2 := hr.2
    simp only [List.length_map] at hr2
    refine ⟨_, gst_name (pg_name (i := 5) sc_pe.nd rfl (by walk_at "loc")), ?_⟩
    refine dss_ifR (pt_c (c_le3 (by walk_at "hu")) ((pp_sl3 (pp_ixM (f := dA) (pp_var 4 (pv 4)) (pp_var 5 (pv 5)) (by walk_at "side")))) ((pp_sl3 (pp_ixM (f := dA) (pp_var 4 (pv 4)) ((toP (pf_sub (pp_var 5 (pv 5)) ((toP pf_int))))) (by walk_at "side"))))) (fun hw => ?_) (fun hw => ?_)
    · exfalso
      have h8 := hv.s b2 (by omega)
      rw [show (1 + (b2 : Int)) - 1 = (b2 : Int) by omega, show (1 + (b2 : Int)) = (b2 : Int) + 1 by omega] at hw
      rw [h8] at hw
      cases hw
    refine dss_nil (.keep (.keep (.keep (.keep (.keep (.drop (.keep (.keep .nil)))))))) ⟨⟨rfl, rfl⟩, ?_⟩
    · trivial
  rintro _ _ ⟨⟨rfl, rfl⟩, hall2⟩
  refine ds_one (ds_ret pf_non ?_)
  rfl
abbrev s_wl : Stmt := top 36
abbrev N_wl : List Str := ["word", "by", "d", "turns", "k", "zero", "one", "back", "led"]
theorem sc_wl : FnScope N_wl ["word", "by"] (defScope s_wl) := ⟨rfl, rfl, rfl, by decide +kernel, rfl, by decide +kernel, by decide +kernel⟩
def S_wl (ds : List PyData) (d : PyData) : Prop := ∃ (q : Int) (t : Tn) (r : List Tn) (by_ : List Int), ds = [dW q (t :: r), dI by_] ∧ (r.length ≤ 1000 ∧ by_.length ≤ 1000) ∧ (∀ x ∈ by_, 0 ≤ x ∧ x < by_.length) ∧ (∀ u ∈ t :: r, (u.z.length = by_.length ∧ ∀ x ∈ u.z, 0 ≤ x ∧ x < by_.length) ∧ (u.o.length = by_.length ∧ ∀ x ∈ u.o, 0 ≤ x ∧ x < by_.length)) ∧ d = dW q (ledW t r by_)
theorem ok_wl (T : Txt mg) (G_oj : Fu P w K mg base "orders_joined" ["one", "other"] 1 S_oj) (G_ob : Fu P w K mg base "order_back" ["order"] 1 S_ob) (G_tb : Fu P w K mg base "turn_behind" ["turn", "order"] 2 S_tb) {f : Addr} {fd : FuncData} (F : Fun K "word_led" "word_led" s_wl f fd) : FnOk P w K mg base CX0 3 f fd ["word", "by"] (spD K S_wl) := by
  refine fn_pure F sc_wl (fun ds d h => ?_) fun cdv A outer s H E hr ds d h => ?_
  · obtain ⟨q, t, r, by_, rfl, hl, hb, hu, rfl⟩ := h
    rfl
  obtain ⟨q, t, r, by_, rfl, hl, hb, hu, rfl⟩ := h
  have ht0 := hu t List.mem_cons_self
  have hbk := backRng hb
  have hll : lst0 (ledH t by_ :: r) ∈ ledH t by_ :: r := lst0_mem (by simp)
  refine dss_seq (ds_asg (pp_var 0 (pv 0)) (by walk_at "imm") (gst_tup rfl (gsts_cons (gst_name (pg_name (i := 2) sc_wl.nd rfl (by walk_at "loc"))) (gsts_cons (gst_name (pg_name (i := 3) sc_wl.nd rfl (by walk_at "loc"))) gsts_nil)))) ?_
  rintro _ _ ⟨rfl, rfl⟩
  refine dss_ifR (pt_eqD (by walk_at "hu") (pp_var 3 (pv 3)) ((toP (pf_tup fas_nil (by walk_at "size")))) (by walk_at "sh") (by walk_at "sh")) (fun hw => ?_) (fun hw => ?_)
  · exfalso
    simp [PyData.eqv, PyData.eqvAll] at hw
  refine dss_seq (ds_asg (pp_ixM (f := dT) (pp_var 3 (pv 3)) ((toP pf_int)) (by exact ⟨by omega, by simp; try omega⟩)) (by walk_at "imm") (gst_tup rfl (gsts_cons (gst_name (pg_name (i := 4) sc_wl.nd rfl (by walk_at "loc"))) (gsts_cons (gst_name (pg_name (i := 5) sc_wl.nd rfl (by walk_at "loc"))) (gsts_cons (gst_name (pg_name (i := 6) sc_wl.nd rfl (by walk_at "loc"))) gsts_nil))))) ?_
  rintro _ _ ⟨rfl, rfl⟩
  refine dss_seq (ds_set 7 sc_wl.nd rfl (by walk_at "loc") (pf_call G_ob (by walk_at "room") (pas_cons (pp_var 1 (pv 1)) pas_nil) (by exact ⟨by_, rfl, hb, hl.2, rfl⟩))) ?_
  rintro _ _ ⟨rfl, rfl⟩
  refine dss_seq (ds_set 8 sc_wl.nd rfl (by walk_at "loc") (cF ((toF (pp_catT ((toP (pf_tup (fas_cons (pf_tup (fas_cons ((toF (pp_var 4 (pv 4)) (by walk_at "imm"))) (fas_cons (pf_call G_oj (by walk_at "room") (pas_cons (pp_var 7 (pv 7)) (pas_cons (pp_var 5 (pv 5)) pas_nil)) (by exact ⟨back by_, t.z, rfl, (fun x hx => by have := hbk.2 x hx; rw [ht0.1.1]; exact this), rfl⟩)) (fas_cons (pf_call G_oj (by walk_at "room") (pas_cons (pp_var 7 (pv 7)) (pas_cons (pp_var 6 (pv 6)) pas_nil)) (by exact ⟨back by_, t.o, rfl, (fun x hx => by have := hbk.2 x hx; rw [ht0.2.1]; exact this), rfl⟩)) fas_nil))) (by walk_at "size")) fas_nil) (by walk_at "size")))) (pp_from1M (f := dT) (pp_var 3 (pv 3))) (by (simp; have := PySem.sizeLine_eq; omega))) (by walk_at "imm"))) (show _ = PyData.tuple ((ledH t by_ :: r).map dT) by rfl))) ?_
  rintro _ _ ⟨rfl, rfl⟩
  refine ds_one (ds_ret (pf_tup (fas_cons ((toF (pp_var 2 (pv 2)) (by walk_at "imm"))) (fas_cons ((toF (pp_catT (pp_butM (f := dT) (pp_var 8 (pv 8))) ((toP (pf_tup (fas_cons (pf_call G_tb (by walk_at "room") (pas_cons (pp_lastT (f := dT) (pp_var 8 (pv 8)) (by exact (by simp))) (pas_cons (pp_var 1 (pv 1)) pas_nil)) (by exact ⟨_, by_, rfl, (ledRng hb hu _ hll).1, (ledRng hb hu _ hll).2, rfl⟩)) fas_nil) (by walk_at "size")))) (by (simp; have := PySem.sizeLine_eq; omega))) (by walk_at "imm"))) fas_nil)) (by walk_at "size")) ?_)
  simp [ledW, dW]
end
end K87
end
section
set_option Elab.async false
set_option linter.all false
set_option maxRecDepth 100000
set_option maxHeartbeats 4000000
local macro_rules | `(tactic| walk_at "imm") => `(tactic| first
  | exact DL.imm_int
  | exact DL.imm_str
  | exact DL.imm_non
  | exact DL.imm_bl
  | exact DL.imm_nt
  | exact DL.immAll_nil
  | assumption
  | (refine DL.immAll_map ?_; intro _; walk_at "imm")
  | (refine DL.immAll_cons ?_ ?_ <;> walk_at "imm")
  | (refine DL.immAll_append ?_ ?_ <;> walk_at "imm")
  | (refine DL.immAll_rep ?_; walk_at "imm")
  | (refine DL.immAll_mem ?_; walk_at "imm")
  | (intro _ _; walk_at "imm")
  | (refine ⟨?_, ?_⟩ <;> walk_at "imm")
  | (refine DL.immT ?_; assumption))
local macro_rules | `(tactic| walk_at "hu") => `(tactic| exact L2.Room.units (by assumption))
local macro_rules | `(tactic| walk_at "loc") => `(tactic| first | exact Or.inl rfl | exact Or.inr rfl)
local macro_rules | `(tactic| walk_at "room") => `(tactic| first | assumption | exact L2.Room.mono (by assumption) (by decide))
local macro_rules | `(tactic| walk_at "side") => `(tactic| first | assumption | omega | (unfold L2.CMul; omega) | (unfold L2.CDiv; omega) | (have sizeLine_eq1 := PySem.sizeLine_eq; simp only [List.length_map]; omega) | (have sizeLine_eq' := PySem.sizeLine_eq; omega) | (simp; done) | rfl)
local macro_rules | `(tactic| walk_at "size") => `(tactic| ((show _ ≤ 16777216); exact Nat.le_of_ble_eq_true rfl))
local macro_rules | `(tactic| walk_at "sh") => `(tactic| first
  | exact DL.sh_int
  | exact DL.sh_bl
  | exact DL.sh_non
  | exact DL.sh_str (by decide +kernel)
  | exact DL.shA_nil
  | assumption
  | (refine DL.sh_of ?_; walk_at "sh")
  | (refine DL.shA_map ?_; intro _; walk_at "sh")
  | (refine DL.shA_cons ?_ ?_ <;> walk_at "sh")
  | (refine DL.shA_app ?_ ?_ <;> walk_at "sh")
  | (refine DL.sh_tup ?_; walk_at "sh")
  | (refine DL.sh_lst ?_; walk_at "sh"))
namespace K87
open PySem PySem.Spec L2 DL
section
variable {P : Program} {w : World} {K : PySem.W.Frag} {mg : Str → Option Value} {base : Heap}
def upStep (p : Int) (s : List (List Int)) (q : Ar × Int) : List (List Int) := s.set q.1.i.toNat ((at0 s q.1.i).set (q.1.j - 1 - q.1.i).toNat ((at0 (at0 s q.1.i) (q.1.j - 1 - q.1.i) + q.2) % p))
def upRows (l : Int) : List (List Int) := (List.range l.toNat).map fun (i : Nat) => List.replicate (l - i).toNat 0
def upOf (p l : Int) (as : List Ar) (ws : List Int) : List (List Int) := (as.zip ws).foldl (upStep p) (upRows l)
theorem at0_set {α : Type} [Inhabited α] (s : List α) (i : Nat) (j : Nat) (v : α) (h : j < s.length) : at0 (s.set i v) (j : Int) = if i = j then v else at0 s (j : Int) := by
  unfold at0
  simp only [Int.toNat_natCast, List.getD_eq_getElem?_getD]
  rw [List.getElem?_set]
  by_cases e : i = j
  · rw [if_pos e, if_pos e, if_pos (by omega)]; rfl
  · rw [if_neg e, if_neg e]
theorem upRows_len {l : Int} (h : 0 ≤ l ∧ l ≤ 1000) : ((upRows l).length : Int) = l ∧ ∀ i : Nat, (i : Int) < (upRows l).length → ((at0 (upRows l) (i : Int)).length : Int) = l - i := by
  have e : ((upRows l).length : Int) = l := by unfold upRows; rw [List.length_map, List.length_range]; omega
  refine ⟨e, fun i hi => ?_⟩
  have hi' : i < l.toNat := by omega
  unfold at0 upRows
  simp only [Int.toNat_natCast, List.getD_eq_getElem?_getD]
  rw [List.getElem?_map, List.getElem?_range hi']
  show ((List.replicate (l - (i : Int)).toNat (0 : Int)).length : Int) = _
  rw [List.length_replicate]
  omega
theorem upInv {p l : Int} : ∀ (qs : List (Ar × Int)) (s : List (List Int)), ((s.length : Int) = l ∧ ∀ i : Nat, (i : Int) < s.length → ((at0 s (i : Int)).length : Int) = l - i) →
    ((qs.foldl (upStep p) s).length : Int) = l ∧ ∀ i : Nat, (i : Int) < (qs.foldl (upStep p) s).length → ((at0 (qs.foldl (upStep p) s) (i : Int)).length : Int) = l - i
  | [], s, h => h
  | q :: qs, s, h => by
    rw [List.foldl_cons]
    refine upInv qs _ ?_
    unfold upStep
    refine ⟨by rw [List.length_set]; exact h.1, fun i hi => ?_⟩
    rw [List.length_set] at hi
    rw [at0_set _ _ _ _ (by omega)]
    split
    · rename_i e
      rw [List.length_set]
      have := h.2 i hi
      have e2 : at0 s q.1.i = at0 s (i : Int) := by unfold at0; rw [e]; rfl
      rw [e2]; exact this
    · exact h.2 i hi
def ldIn (tw : List Tn) (b : List Int) (s : List (List Int)) (x : Nat) : List (List Int) := s.set x ((at0 s (x : Int)).set (lst0 (states tw b x)).toNat (at0 (at0 s (x : Int)) (lst0 (states tw b x)) + 1))
def ldStep (q : Int) (tw : List Tn) (s : List (List Int)) (b : List Int) : List (List Int) := (List.range q.toNat).foldl (ldIn tw b) s
def ldRows (n : Nat) (q : Int) (tw : List Tn) : List (List Int) := (allRows 2 n).foldl (ldStep q tw) ((List.range q.toNat).map fun (_ : Nat) => List.replicate q.toNat 0)
def Sq (q : Int) (s : List (List Int)) : Prop := (s.length : Int) = q ∧ ∀ i : Nat, (i : Int) < q → ((at0 s (i : Int)).length : Int) = q
theorem ldIn_sq {q : Int} {tw : List Tn} {b : List Int} {s : List (List Int)} {x : Nat} (h : Sq q s) : Sq q (ldIn tw b s x) := by
  unfold ldIn
  refine ⟨by rw [List.length_set]; exact h.1, fun i hi => ?_⟩
  have h1 := h.1
  rw [at0_set _ _ _ _ (by omega)]
  split
  · rename_i e
    subst e
    rw [List.length_set]; exact h.2 x hi
  · exact h.2 i hi
theorem ldIn_all {q : Int} {tw : List Tn} {b : List Int} : ∀ (xs : List Nat) (s : List (List Int)), Sq q s → Sq q (xs.foldl (ldIn tw b) s)
  | [], s, h => h
  | x :: xs, s, h => ldIn_all xs _ (ldIn_sq h)
theorem ld_all {q : Int} {tw : List Tn} : ∀ (bs : List (List Int)) (s : List (List Int)), Sq q s → Sq q (bs.foldl (ldStep q tw) s)
  | [], s, h => h
  | b :: bs, s, h => ld_all bs _ (ldIn_all _ _ h)
theorem ld_start {q : Int} (h : 0 ≤ q) : Sq q ((List.range q.toNat).map fun (_ : Nat) => List.replicate q.toNat 0) := by
  refine ⟨by rw [List.length_map, List.length_range]; omega, fun i hi => ?_⟩
  unfold at0
  simp only [Int.toNat_natCast, List.getD_eq_getElem?_getD]
  rw [List.getElem?_map, List.getElem?_range (by omega)]
  show ((List.replicate q.toNat (0 : Int)).length : Int) = _
  rw [List.length_replicate]
  omega
abbrev s_uw : Stmt := top 48
abbrev N_uw : List Str := ["program", "weights", "p", "l", "rows", "arrow", "weight", "i", "j", "row"]
theorem sc_uw : FnScope N_uw ["program", "weights"] (defScope s_uw) := ⟨rfl, rfl, rfl, by decide +kernel, rfl, by decide +kernel, by decide +kernel⟩
def S_uw (ds : List PyData) (d : PyData) : Prop := ∃ (p n l : Int) (as : List Ar) (ws : List Int), ds = [dP p n l as, .list (ws.map .int)] ∧ 0 < p ∧ (0 ≤ l ∧ l ≤ 1000) ∧ (∀ a ∈ as, 0 ≤ a.i ∧ a.i < a.j ∧ a.j ≤ l) ∧ d = dM (upOf p l as ws)
theorem ok_uw (T : Txt mg) {f : Addr} {fd : FuncData} (F : Fun K "upper_of_weights" "upper_of_weights" s_uw f fd) : FnOk P w K mg base CX0 1 f fd ["program", "weights"] (spD K S_uw) := by
  refine fn_pure F sc_uw (fun ds d h => ?_) fun cdv A outer s H E hr ds d h => ?_
  · obtain ⟨p, n, l, as, ws, rfl, hp, hl, ha, rfl⟩ := h
    rfl
  obtain ⟨p, n, l, as, ws, rfl, hp, hl, ha, rfl⟩ := h
  refine dss_seq (ds_asg ((toP (pf_tup (fas_cons ((toF (pp_fix0 (pp_var 0 (pv 0))) (by walk_at "imm"))) (fas_cons ((toF (pp_fix2 (pp_var 0 (pv 0))) (by walk_at "imm"))) fas_nil)) (by walk_at "size")))) (by walk_at "imm") (gst_tup rfl (gsts_cons (gst_name (pg_name (i := 2) sc_uw.nd rfl (by walk_at "loc"))) (gsts_cons (gst_name (pg_name (i := 3) sc_uw.nd rfl (by walk_at "loc"))) gsts_nil)))) ?_
  rintro _ _ ⟨rfl, rfl⟩
  refine dss_seq (ds_setLc 4 sc_uw.nd rfl rfl (ps_lc (own := [("i", 7)]) rfl sc_uw.nd (toI (pi_rng1 rfl T.range (pp_var 3 (pv 3)) (by walk_at "side") (by walk_at "side"))) (blkOk_by (own := [("i", 7)]) (N := N_uw) (sc := defScope s_uw) (by decide +kernel)) (fun _ _ _ _ _ a1 ha1 => gd_name (pg_name (i := 7) sc_uw.nd rfl (by walk_at "loc"))) (fun _ _ _ _ _ a1 ha1 => pf_rep1 ((toP (pf_lst (fas_cons pf_int fas_nil) (by walk_at "size")))) (by walk_at "imm") ((toP (pf_sub (pp_var 3 (pv 3)) (pp_var 7 (pv 7))))) (by (have := List.mem_range.mp ha1; omega))) rfl rfl rfl)) ?_
  rintro _ _ ⟨rfl, rfl⟩
  refine dss_seq (ds_foldZ (f := dA) (g := PyData.int) [7, 8, 5, 6] 1 4 (fun s => .list (s.map dRow)) (upStep p) (upRows l) PassesOwn.never rfl (pp_fix3 (pp_var 0 (pv 0))) (pv 1) rfl (by walk_at "imm") rfl (by simp [upRows, Function.comp_def, dRow]) rfl T.zip ?_) ?_
  · rintro pre1 b1 post1 hl1
    have hm1 := mem_at hl1
    have hiv := upInv (p := p) pre1 (upRows l) (upRows_len hl)
    have hb := ha _ (List.of_mem_zip hm1).1
    generalize pre1.foldl _ _ = s1 at hiv ⊢
    have hr := hiv.2 b1.1.i.toNat (by have := hiv.1; omega)
    rw [show ((b1.1.i.toNat : Nat) : Int) = b1.1.i by omega] at hr
    have hr1 := hiv.1
    refine ⟨_, gst_tup rfl (gsts_cons (gst_name (pg_name (i := 5) sc_uw.nd rfl (by walk_at "loc"))) (gsts_cons (gst_name (pg_name (i := 6) sc_uw.nd rfl (by walk_at "loc"))) gsts_nil)), ?_⟩
    refine dss_seq (ds_asg (pp_sl2 (pp_var 5 (pv 5))) (by walk_at "imm") (gst_tup rfl (gsts_cons (gst_name (pg_name (i := 7) sc_uw.nd rfl (by walk_at "loc"))) (gsts_cons (gst_name (pg_name (i := 8) sc_uw.nd rfl (by walk_at "loc"))) gsts_nil)))) ?_
    rintro _ _ ⟨rfl, rfl⟩
    refine dss_seq (ds_setItem2 4 (pv 4) rfl (pp_var 7 (pv 7)) ((toP (pf_sub ((toP (pf_sub (pp_var 8 (pv 8)) ((toP pf_int))))) (pp_var 7 (pv 7))))) (pf_mod ((toP (pf_add (pp_ixLM (f := PyData.int) (pp_ixLM (f := dRow) (pp_var 4 (pv 4)) (pp_var 7 (pv 7)) (by walk_at "side")) ((toP (pf_sub ((toP (pf_sub (pp_var 8 (pv 8)) ((toP pf_int))))) (pp_var 7 (pv 7))))) (by walk_at "side")) (pp_var 6 (pv 6))))) (pp_var 2 (pv 2)) (by walk_at "side")) (by walk_at "side") (by walk_at "side")) ?_
    rintro _ _ ⟨rfl, rfl⟩
    refine dss_nil (.keep (.keep (.keep (.keep (.keep (.drop (.drop (.drop (.drop (.keep .nil)))))))))) ⟨rfl, _, rfl, ?_⟩
    · rfl
  rintro _ _ ⟨rfl, rfl⟩
  refine ds_one (ds_ret (pf_tuple (pf_lc (own := [("row", 9)]) rfl sc_uw.nd (pi_lstD (pp_var 4 (pv 4))) (blkOk_by (own := [("row", 9)]) (N := N_uw) (sc := defScope s_uw) (by decide +kernel)) (fun _ _ _ _ _ a1 ha1 => gd_name (pg_name (i := 9) sc_uw.nd rfl (by walk_at "loc"))) (fun _ _ _ _ _ a1 ha1 => pf_tupleI (pp_var 9 (pv 9)) (by walk_at "imm") rfl T.tuple)) rfl T.tuple) ?_)
  simp [upOf, dM, dI, Function.comp_def]
abbrev s_so : Stmt := top 49
abbrev N_so : List Str := ["program", "items", "arrow"]
theorem sc_so : FnScope N_so ["program", "items"] (defScope s_so) := ⟨rfl, rfl, rfl, by decide +kernel, rfl, by decide +kernel, by decide +kernel⟩
def S_so (ds : List PyData) (d : PyData) : Prop := ∃ (p n l : Int) (as : List Ar) (it : List Int), ds = [dP p n l as, dI it] ∧ PrOk p l it.length as ∧ l ≤ 8 ∧ (∀ a ∈ as, 0 ≤ a.i ∧ a.i < a.j ∧ a.j ≤ l) ∧ d = dM (upOf p l as (as.map fun a => wgt p a it))
theorem ok_so (T : Txt mg) (G_aw : Fu P w K mg base "arrow_weight" ["p", "arrow", "items"] 1 S_aw) (G_ns : Fu P w K mg base "need_step" ["program"] 1 S_ns) (G_uw : Fu P w K mg base "upper_of_weights" ["program", "weights"] 1 S_uw) {f : Addr} {fd : FuncData} (F : Fun K "stair_of" "stair_of" s_so f fd) : FnOk P w K mg base CX0 2 f fd ["program", "items"] (spD K S_so) := by
  refine fn_pure F sc_so (fun ds d h => ?_) fun cdv A outer s H E hr ds d h => ?_
  · obtain ⟨p, n, l, as, it, rfl, hok, hl, ha, rfl⟩ := h
    rfl
  obtain ⟨p, n, l, as, it, rfl, hok, hl, ha, rfl⟩ := h
  refine dss_seq (ds_expr ((toP (pf_call G_ns (by walk_at "room") (pas_cons (pp_var 0 (pv 0)) pas_nil) (by exact ⟨p, n, l, as, rfl, hl, rfl⟩))))) ?_
  rintro _ _ ⟨rfl, rfl⟩
  refine ds_one (ds_ret (pf_call G_uw (by walk_at "room") (pas_cons (pp_var 0 (pv 0)) (pas_cons ((toP (pf_lc (own := [("arrow", 2)]) rfl sc_so.nd (toI (pi_tupD (pp_fix3 (pp_var 0 (pv 0))) (by walk_at "imm"))) (blkOk_by (own := [("arrow", 2)]) (N := N_so) (sc := defScope s_so) (by decide +kernel)) (fun _ _ _ _ _ a1 ha1 => gd_name (pg_name (i := 2) sc_so.nd rfl (by walk_at "loc"))) (fun _ _ _ _ _ a1 ha1 => pf_call G_aw (by walk_at "room") (pas_cons (pp_fix0 (pp_var 0 (pv 0))) (pas_cons (pp_var 2 (pv 2)) (pas_cons (pp_var 1 (pv 1)) pas_nil))) (by exact ⟨p, a1, it, rfl, hok.p0, hok.c _ ha1, fun h => (hok.k _ ha1).resolve_left h, rfl⟩))))) pas_nil)) (by exact ⟨p, n, l, as, as.map fun a => wgt p a it, by rw [List.map_map]; rfl, hok.p0, ⟨hok.l0, by omega⟩, ha, rfl⟩)) ?_)
  rfl
abbrev s_ln : Stmt := top 63
abbrev N_ln : List Str := ["n", "word", "d", "found", "bits", "first", "last", "x", "row"]
theorem sc_ln : FnScope N_ln ["n", "word"] (defScope s_ln) := ⟨rfl, rfl, rfl, by decide +kernel, rfl, by decide +kernel, by decide +kernel⟩
def S_ln (ds : List PyData) (d : PyData) : Prop := ∃ (n : Nat) (q : Int) (tw : List Tn), ds = [.int n, dW q tw] ∧ n ≤ 6 ∧ (0 ≤ q ∧ q ≤ 1000) ∧ tw.length ≤ 1000 ∧ WOk q n tw ∧ d = dM (ldRows n q tw)
theorem ok_ln (T : Txt mg) (G_sa : Fu P w K mg base "states_along" ["word", "bits", "first"] 1 S_sa) (G_ar : Fu P w K mg base "all_rows" ["p", "n"] 1 S_ar) {f : Addr} {fd : FuncData} (F : Fun K "lead_numbers" "lead_numbers" s_ln f fd) : FnOk P w K mg base CX0 2 f fd ["n", "word"] (spD K S_ln) := by
  refine fn_pure F sc_ln (fun ds d h => ?_) fun cdv A outer s H E hr ds d h => ?_
  · obtain ⟨n, q, tw, rfl, hn, hq, hl, ht, rfl⟩ := h
    rfl
  obtain ⟨n, q, tw, rfl, hn, hq, hl, ht, rfl⟩ := h
  refine dss_seq (ds_set 2 sc_ln.nd rfl (by walk_at "loc") ((toF (pp_fix0 (pp_var 1 (pv 1))) (by walk_at "imm")))) ?_
  rintro _ _ ⟨rfl, rfl⟩
  refine dss_seq (ds_setLc 3 sc_ln.nd rfl rfl (ps_lc (own := [("x", 7)]) rfl sc_ln.nd (toI (pi_rng1 rfl T.range (pp_var 2 (pv 2)) (by walk_at "side") (by walk_at "side"))) (blkOk_by (own := [("x", 7)]) (N := N_ln) (sc := defScope s_ln) (by decide +kernel)) (fun _ _ _ _ _ a1 ha1 => gd_name (pg_name (i := 7) sc_ln.nd rfl (by walk_at "loc"))) (fun _ _ _ _ _ a1 ha1 => pf_rep1 ((toP (pf_lst (fas_cons pf_int fas_nil) (by walk_at "size")))) (by walk_at "imm") (pp_var 2 (pv 2)) (by omega)) rfl rfl rfl)) ?_
  rintro _ _ ⟨rfl, rfl⟩
  refine dss_seq (ds_fold1 [5, 6, 4] 3 (fun s => .list (s.map dRow)) (ldStep q tw) ((List.range q.toNat).map fun (_ : Nat) => List.replicate q.toNat 0) PassesOwn.never rfl (pi_tupD ((toP (pf_call G_ar (by walk_at "room") (pas_cons ((toP pf_int)) (pas_cons (pp_var 0 (pv 0)) pas_nil)) (by exact ⟨2, n, rfl, by omega, by omega, rfl⟩)))) (by walk_at "imm")) (by walk_at "imm") rfl (by simp [Function.comp_def, dRow]) ?_) ?_
  · rintro pre1 b1 post1 hl1
    have hm1 := mem_at hl1
    have hb := allRows_len (mem_at hl1)
    have hiv := ld_all (q := q) (tw := tw) pre1 _ (ld_start hq.1)
    generalize pre1.foldl _ _ = s1 at hiv ⊢
    refine ⟨_, gst_name (pg_name (i := 4) sc_ln.nd rfl (by walk_at "loc")), ?_⟩
    refine dss_seq (ds_fold1 [6, 5] 3 (fun s => .list (s.map dRow)) (ldIn tw b1) s1 PassesOwn.never rfl (pi_rng1 rfl T.range (pp_var 2 (pv 2)) (by walk_at "side") (by walk_at "side")) (by walk_at "imm") rfl (by rfl) ?_) ?_
    · rintro pre2 b2 post2 hl2
      have hm2 := mem_at hl2
      have hv2 := ldIn_all (q := q) (tw := tw) (b := b1) pre2 _ hiv
      have hx := (range_at hl2).2
      generalize pre2.foldl _ _ = s2 at hv2 ⊢
      have hr := hv2.2 b2 (by omega)
      have hr1 := hv2.1
      have hb2 : b1.length = n := hb
      have hy := (sInv (q := q) (n := n) (s := [(b2 : Int)]) (b := b1) ht ⟨by simp, fun o ho => by rw [List.mem_singleton.mp ho]; omega⟩)
      have hy2 := hy.1.2 _ (lst0_mem hy.1.1)
      rw [show tw.foldl (sStep b1) [(b2 : Int)] = states tw b1 b2 from rfl] at hy2
      refine ⟨_, gst_name (pg_name (i := 5) sc_ln.nd rfl (by walk_at "loc")), ?_⟩
      refine dss_seq (ds_set 6 sc_ln.nd rfl (by walk_at "loc") ((toF (pp_lastT (f := PyData.int) ((toP (pf_call G_sa (by walk_at "room") (pas_cons (pp_var 1 (pv 1)) (pas_cons (pp_var 4 (pv 4)) (pas_cons (pp_var 5 (pv 5)) pas_nil))) (by exact ⟨q, tw, b1, b2, rfl, ⟨by omega, by omega⟩, hl, (by rw [hb2]; exact ht), rfl⟩)))) (by exact hy.1.1)) (by walk_at "imm")))) ?_
      rintro _ _ ⟨rfl, rfl⟩
      refine dss_seq (ds_setItem2 3 (pv 3) rfl (pp_var 5 (pv 5)) (pp_var 6 (pv 6)) (pf_add (pp_ixLM (f := PyData.int) (pp_ixLM (f := dRow) (pp_var 3 (pv 3)) (pp_var 5 (pv 5)) (by walk_at "side")) (pp_var 6 (pv 6)) (by walk_at "side")) ((toP pf_int))) (by walk_at "side") (by walk_at "side")) ?_
      rintro _ _ ⟨rfl, rfl⟩
      refine dss_nil (.keep (.keep (.keep (.keep (.keep (.drop (.drop (.keep (.keep .nil))))))))) ⟨rfl, _, rfl, ?_⟩
      · rfl
    rintro _ _ ⟨rfl, rfl⟩
    refine dss_nil (.keep (.keep (.keep (.keep (.drop (.drop (.drop (.keep (.keep .nil))))))))) ⟨rfl, _, rfl, ?_⟩
    · rfl
  rintro _ _ ⟨rfl, rfl⟩
  refine ds_one (ds_ret (pf_tuple (pf_lc (own := [("row", 8)]) rfl sc_ln.nd (pi_lstD (pp_var 3 (pv 3))) (blkOk_by (own := [("row", 8)]) (N := N_ln) (sc := defScope s_ln) (by decide +kernel)) (fun _ _ _ _ _ a1 ha1 => gd_name (pg_name (i := 8) sc_ln.nd rfl (by walk_at "loc"))) (fun _ _ _ _ _ a1 ha1 => pf_tupleI (pp_var 8 (pv 8)) (by walk_at "imm") rfl T.tuple)) rfl T.tuple) ?_)
  simp [ldRows, dM, dI, Function.comp_def]
end
end K87
end
section
set_option Elab.async false
set_option linter.all false
set_option maxRecDepth 100000
set_option maxHeartbeats 4000000
local macro_rules | `(tactic| walk_at "imm") => `(tactic| first
  | exact DL.imm_int
  | exact DL.imm_str
  | exact DL.imm_non
  | exact DL.imm_bl
  | exact DL.imm_nt
  | exact DL.immAll_nil
  | assumption
  | (refine DL.immAll_map ?_; intro _; walk_at "imm")
  | (refine DL.immAll_cons ?_ ?_ <;> walk_at "imm")
  | (refine DL.immAll_append ?_ ?_ <;> walk_at "imm")
  | (refine DL.immAll_rep ?_; walk_at "imm")
  | (refine DL.immAll_mem ?_; walk_at "imm")
  | (intro _ _; walk_at "imm")
  | (refine ⟨?_, ?_⟩ <;> walk_at "imm")
  | (refine DL.immT ?_; assumption))
local macro_rules | `(tactic| walk_at "hu") => `(tactic| exact L2.Room.units (by assumption))
local macro_rules | `(tactic| walk_at "loc") => `(tactic| first | exact Or.inl rfl | exact Or.inr rfl)
local macro_rules | `(tactic| walk_at "room") => `(tactic| first | assumption | exact L2.Room.mono (by assumption) (by decide))
local macro_rules | `(tactic| walk_at "side") => `(tactic| first | assumption | omega | (unfold L2.CMul; omega) | (unfold L2.CDiv; omega) | (have sizeLine_eq1 := PySem.sizeLine_eq; simp only [List.length_map]; omega) | (have sizeLine_eq' := PySem.sizeLine_eq; omega) | (simp; done) | rfl)
local macro_rules | `(tactic| walk_at "size") => `(tactic| ((show _ ≤ 16777216); exact Nat.le_of_ble_eq_true rfl))
local macro_rules | `(tactic| walk_at "sh") => `(tactic| first
  | exact DL.sh_int
  | exact DL.sh_bl
  | exact DL.sh_non
  | exact DL.sh_str (by decide +kernel)
  | exact DL.shA_nil
  | assumption
  | (refine DL.sh_of ?_; walk_at "sh")
  | (refine DL.shA_map ?_; intro _; walk_at "sh")
  | (refine DL.shA_cons ?_ ?_ <;> walk_at "sh")
  | (refine DL.shA_app ?_ ?_ <;> walk_at "sh")
  | (refine DL.sh_tup ?_; walk_at "sh")
  | (refine DL.sh_lst ?_; walk_at "sh"))
namespace K87
open PySem PySem.Spec L2 DL
section
variable {P : Program} {w : World} {K : PySem.W.Frag} {mg : Str → Option Value} {base : Heap}
abbrev s_dw : Stmt := top 67
abbrev N_dw : List Str := ["pot", "many", "great", "cell", "turn", "stirred"]
theorem sc_dw : FnScope N_dw ["pot", "many"] (defScope s_dw) := ⟨rfl, rfl, rfl, by decide +kernel, rfl, by decide +kernel, by decide +kernel⟩
def PreDw (ds : List PyData) (c : Nat) : Prop := ∃ n : Int, ds = [.int n] ∧ 0 < n ∧ n < 1073741824 ∧ c = 1
def PostDw (ds : List PyData) (d : PyData) : Prop := ∃ n i : Int, ds = [.int n] ∧ d = .int i ∧ 0 ≤ i ∧ i < n
theorem potDone {Pt : Ef} {m m' : Nat} {H H3 : Hp} {p g : Addr} (pt : PotAt Pt m H) (hp : Pt.pot = some (p, g)) (k : Kp [p, g] false H H3) (h : IsPot H3 p g m') : Ke Pt H H3 ∧ PotAt Pt m' H3 := by
  have e : ptA Pt = [p, g] := by unfold ptA; rw [hp]; rfl
  refine ⟨k.mono (fun a ha => by rw [e]; exact ha) (fun z => by cases z), ⟨fun p' g' e' => ?_, fun T e' q hq => ?_⟩⟩
  · rw [hp] at e'; cases e'; exact h
  · obtain ⟨ps, h1, h2, h3⟩ := pt.tab T e' q hq
    refine ⟨ps, k.keep _ _ h1 (fun _ z => z) (fun z => by cases z), h2, fun pos cv hc => ?_⟩
    obtain ⟨c, h4, h5⟩ := h3 pos cv hc
    exact ⟨c, h4, k.keep _ _ h5 (fun _ z => z) (fun z => by cases z)⟩
theorem ok_dw (T : Txt mg) {f : Addr} {fd : FuncData} (F : Fun K "_law_draw" "_law_draw" s_dw f fd) : FnOk P w K mg base CX0 1 f fd ["pot", "many"] (spE K (fun _ => True) PreDw PostDw) := by
  refine F.ok sc_dw (fun vs H Q E ⟨Pt, p, g, m, c, ds, C, xs, hp, _, hv, pt, ⟨n, hd, _⟩, ol, _⟩ => by rw [hv, List.length_cons, ol.length, hd]; rfl) fun cdv A outer s H vs Q E hr ⟨Pt, p, g, m, c, ds, C, xs, hp, _, hv, pt, ⟨n, hd, h0, h1, hc1⟩, ol, dj, q⟩ => ?_
  subst hv hd hc1
  obtain ⟨y, rfl⟩ : ∃ y, xs = [y] := by
    cases ol with
    | cons o ol => cases ol; exact ⟨_, rfl⟩
  have hy : y = .int n := by
    cases ol with
    | cons o ol => exact o.int_inv
  subst hy
  obtain ⟨gs, st, tn, e1, e2, hl, hc, s0, s1, t0, t1⟩ := (pt.pot p g hp).ex
  have hu := hr.units
  have hu1 : (A.deeper (PyProof.Rows.envOfC "_law_draw" (defScope s_dw) s.heap.objs.size f cdv)).units + 1 < cLine := by omega
  refine ⟨_, pss_cons (ps_set (i := 2) sc_dw.nd rfl (Or.inl rfl) (pe_dget hu1 (pv 0) pe_str (fun _ _ => rfl)))
    (pss_cons (ps_if (pt_cmpR (op_neD hu) (pv 2) (pe_lst pa_nil) (nomark _))
      (pss_cons (ps_set (i := 3) sc_dw.nd rfl (Or.inl rfl) (pe_bm PySem.F.plainAttrs_list PySem.F.slot_list_pop PySem.F.type_list_pop mt_popAt (pv 2) (pa_cons pe_int pa_nil)))
        (pss_cons (ps_if (pt_cmpR op_ge (pv 3) (pv 1) (nomark _)) (pss_one (ps_expr (pe_bm PySem.F.plainAttrs_list PySem.F.slot_list_insert PySem.F.type_list_insert mt_insert (pv 2) (pa_cons pe_int (pa_cons (pe_op op_fdiv (pv 3) (pv 1)) pa_nil))))) pss_nil)
          (pss_one (ps_ret (pe_op op_mod (pe_callTy call_int1 rfl T.int (by decide +kernel) (pa_cons (pv 3) pa_nil)) (pv 1))))))
      pss_nil)
    (pss_cons (ps_asg (pe_op op_add (pe_dget hu1 (pv 0) pe_str (fun _ _ => rfl)) pe_int) (pg_sub (pv 0) pe_str (set_dict hu1) (by intro _; rfl)))
    (pss_cons (ps_set (i := 4) sc_dw.nd rfl (Or.inl rfl) (pe_dget hu1 (pv 0) pe_str (fun _ _ => rfl)))
    (pss_cons (ps_set (i := 5) sc_dw.nd rfl (Or.inl rfl) (pe_op op_mod (pe_callTy call_int1 rfl T.int (by decide +kernel) (pa_cons (pe_op op_add (pe_op op_add (pe_op op_mul (pe_dget hu1 (pv 0) pe_str (fun _ _ => rfl)) pe_int) (pe_op op_mul (pe_op op_mul (pv 4) (pv 4)) pe_int)) (pe_op op_mul pe_int (pv 4))) pa_nil)) pe_int))
    (pss_cons (ps_set (i := 5) sc_dw.nd rfl (Or.inl rfl) (pe_op op_mod (pe_callTy call_int1 rfl T.int (by decide +kernel) (pa_cons (pe_op op_add (pe_op op_mul (pv 5) pe_int) (pe_op op_fdiv (pv 5) pe_int)) pa_nil)) pe_int))
    (pss_cons (ps_asg (pv 5) (pg_sub (pv 0) pe_str (set_dict hu1) (by intro _; rfl)))
    (pss_one (ps_ret (pe_op op_mod (pe_callTy call_int1 rfl T.int (by decide +kernel) (pa_cons (pe_op op_fdiv (pv 5) pe_int) pa_nil)) (pv 1)))))))))), ?_⟩
  refine ⟨_, rfl, p, .ref g, rfl, DGet.k (k := .inr "great") e1, ?_⟩
  refine ⟨_, rfl, by decide, fun q0 hq0 => ?_⟩
  have gne : g ≠ q0 := ne_of_none e2 hq0
  have pne : p ≠ q0 := ne_of_none e1 hq0
  have k0 : Same H (upd H q0 (.lst [])) := same_new hq0
  refine ⟨.list (gs.map .int), .list [], .lst (.of (k0 _ _ e2)) (dpInts gs), .lst (.of upd_same) .nil, sh_of (sh_lst (shA_map fun _ => sh_int)), sh_of (sh_lst shA_nil), ?_⟩
  have hpg : p ≠ g := fun z => by rw [z, e2] at e1; cases e1
  have ePt : ptA Pt = [p, g] := by unfold ptA; rw [hp]; rfl
  cases gs with
  | nil =>
    refine ⟨_, rfl, ?_⟩
    have hb : (!PyData.eqv (.list (([] : List Int).map .int)) (.list [])) = false := by simp [PyData.eqv, PyData.eqvAll]
    rw [hb]
    refine iteF ?_
    have p1 := k0 _ _ e1
    have hsz := PySem.sizeLine_eq
    have mul : ∀ {a b : Int}, -(2 ^ 64) < b → b < 2 ^ 64 → CMul a b := fun u v => .inr ⟨u, v⟩
    refine ⟨_, rfl, p, .int tn, rfl, DGet.k (k := .inr "turn") p1, tn, 1, rfl, rfl, ?_⟩
    refine ⟨_, rfl, p, _, rfl, DPut.k (k := .inr "turn") p1 (by show 3 < sizeLine; omega), ?_⟩
    refine ⟨_, rfl, p, .int (tn + 1), rfl, DGet.k (k := .inr "turn") upd_same, ?_⟩
    refine ⟨_, rfl, p, .int st, rfl, DGet.k (k := .inr "stirred") upd_same, st, 48271, rfl, rfl, mul (by decide) (by decide), ?_⟩
    refine ⟨_, rfl, _, rfl, tn + 1, tn + 1, rfl, rfl, mul (by omega) (by omega), _, 17, rfl, rfl, mul (by decide) (by decide), ?_⟩
    refine ⟨_, _, rfl, rfl, ?_⟩
    refine ⟨_, rfl, 7919, tn + 1, rfl, rfl, mul (by omega) (by omega), ?_⟩
    refine ⟨_, _, rfl, rfl, ?_⟩
    refine .inl ⟨_, rfl, _, 4294967279, rfl, rfl, (by show (0 : Int) < 4294967279; decide), ?_⟩
    refine ⟨_, rfl, _, 69621, rfl, rfl, mul (by decide) (by decide), _, rfl, _, 65536, rfl, rfl, ⟨by decide, by decide⟩, _, _, rfl, rfl, .inl ⟨_, rfl, _, 4294967291, rfl, rfl, (by show (0 : Int) < 4294967291; decide), ?_⟩⟩
    refine ⟨_, rfl, _, rfl, p, _, rfl, DPut.k (k := .inr "stirred") upd_same (by show 3 < sizeLine; omega), ?_⟩
    refine ⟨_, rfl, _, 1024, rfl, rfl, ⟨by decide, by decide⟩, .inl ⟨_, rfl, _, rfl, _, n, rfl, rfl, h0, ?_⟩⟩
    generalize hA : (st * 48271 + (tn + 1) * (tn + 1) * 17 + 7919 * (tn + 1)) % 4294967279 = sA
    obtain ⟨sB, hB⟩ : ∃ x : Int, x = (sA * 69621 + sA / 65536) % 4294967291 := ⟨_, rfl⟩
    have b0 : 0 ≤ sB := by rw [hB]; exact Int.emod_nonneg _ (by decide)
    have b1 : sB < 4294967291 := by rw [hB]; exact Int.emod_lt_of_pos _ (by decide)
    have kA : Kp [p, g] false (upd H q0 (.lst [])) (upd (upd H q0 (.lst [])) p (.dK (putK [((.inr "great" : Key), V.ref g), (.inr "stirred", V.int st), (.inr "turn", V.int tn)] (.inr "turn") (.int (tn + 1))))) := Kp.upd (by simp) p1 trivial
    have kB := Kp.upd (S := [p, g]) (tb := false) (a := p) (o' := .dK (putK (putK [((.inr "great" : Key), V.ref g), (.inr "stirred", V.int st), (.inr "turn", V.int tn)] (.inr "turn") (.int (tn + 1))) (.inr "stirred") (.int sB))) (by simp)
      (upd_same : upd (upd H q0 (.lst [])) p (.dK (putK [((.inr "great" : Key), V.ref g), (.inr "stirred", V.int st), (.inr "turn", V.int tn)] (.inr "turn") (.int (tn + 1)))) p = _) trivial
    have kp := (Kp.of_same (S := [p, g]) (tb := false) k0).trans (kA.trans kB)
    obtain ⟨ke, pa⟩ := potDone (m' := m) pt hp kp ⟨[], sB, tn + 1, upd_same, by rw [upd_ne (Ne.symm hpg), upd_ne (Ne.symm hpg)]; exact k0 _ _ e2, by simp, (fun x hx => by cases hx), b0, by omega, by omega, by omega⟩
    subst hB
    exact q _ _ (.int ((sA * 69621 + sA / 65536) % 4294967291 / 1024 % n)) [] ⟨n, _, rfl, rfl, Int.emod_nonneg _ (Int.ne_of_gt h0), Int.emod_lt_of_pos _ h0⟩ ke pa (.int _) List.nodup_nil fun b hb => by cases hb
  | cons cell gs =>
    refine ⟨_, rfl, ?_⟩
    have hb : (!PyData.eqv (.list ((cell :: gs).map .int)) (.list [])) = true := by simp [PyData.eqv, PyData.eqvAll]
    rw [hb]
    refine iteT ?_
    have g2 := k0 _ _ e2
    refine ⟨_, rfl, .inl ⟨rfl, _, .of g2⟩, g, _, 0, 0, .int cell, rfl, rfl, g2, by decide, by decide, by simp [seqIndex?]; try omega, rfl, ?_⟩
    have hcell := hc cell List.mem_cons_self
    refine ⟨_, rfl, _, rfl, cell, n, rfl, rfl, _, rfl, ?_⟩
    refine ite2 (fun hge => ?_) (fun hge => ?_)
    · refine ⟨_, rfl, .inl ⟨rfl, _, .of upd_same⟩, _, rfl, _, rfl, cell, n, rfl, rfl, ⟨h0, h1⟩, g, _, 0, .int (cell / n), rfl, rfl, upd_same, ?_, by decide, by decide, ?_⟩
      · have := PySem.sizeLine_eq
        simp only [List.map_cons, List.eraseIdx_zero, List.tail_cons, List.length_map]
        simp at hl
        omega
      refine ⟨_, rfl, .inl ⟨cell, rfl, _, rfl, cell, n, rfl, rfl, h0, ?_⟩⟩
      have kp : Kp [p, g] false H (upd (upd (upd H q0 (.lst [])) g (.lst (gs.map V.int))) g (.lst (.int (cell / n) :: gs.map V.int))) :=
        (Kp.of_same k0).trans ((Kp.upd (by simp) g2 trivial).trans (Kp.upd (by simp) upd_same trivial))
      have ip : IsPot (upd (upd (upd H q0 (.lst [])) g (.lst (gs.map V.int))) g (.lst (.int (cell / n) :: gs.map V.int))) p g m :=
        ⟨(cell / n) :: gs, st, tn, by rw [upd_ne hpg, upd_ne hpg]; exact k0 _ _ e1, upd_same, by simpa using hl, fun x hx => ?_, s0, s1, t0, by omega⟩
      · obtain ⟨ke, pa⟩ := potDone pt hp kp ip
        exact q _ _ (.int (cell % n)) [] ⟨n, cell % n, rfl, rfl, Int.emod_nonneg _ (Int.ne_of_gt h0), Int.emod_lt_of_pos _ h0⟩ ke pa (.int _) List.nodup_nil fun b hb => by cases hb
      · rcases List.mem_cons.mp hx with rfl | hx
        · have hd : 0 ≤ cell / n := Int.ediv_nonneg hcell.1 (Int.le_of_lt h0)
          have hle : cell / n ≤ cell := Int.ediv_le_self _ hcell.1
          refine ⟨hd, Nat.lt_of_le_of_lt (by omega) hcell.2⟩
        · exact hc x (List.mem_cons_of_mem _ hx)
    · refine ⟨_, rfl, .inl ⟨cell, rfl, _, rfl, cell, n, rfl, rfl, h0, ?_⟩⟩
      have kp : Kp [p, g] false H (upd (upd H q0 (.lst [])) g (.lst (gs.map V.int))) := (Kp.of_same k0).trans (Kp.upd (by simp) g2 trivial)
      have ip : IsPot (upd (upd H q0 (.lst [])) g (.lst (gs.map V.int))) p g m :=
        ⟨gs, st, tn, by rw [upd_ne hpg]; exact k0 _ _ e1, upd_same, by simp at hl; omega, fun x hx => hc x (List.mem_cons_of_mem _ hx), s0, s1, t0, by omega⟩
      obtain ⟨ke, pa⟩ := potDone pt hp kp ip
      exact q _ _ (.int (cell % n)) [] ⟨n, cell % n, rfl, rfl, Int.emod_nonneg _ (Int.ne_of_gt h0), Int.emod_lt_of_pos _ h0⟩ ke pa (.int _) List.nodup_nil fun b hb => by cases hb
end
end K87
end
section
set_option Elab.async false
set_option linter.all false
set_option maxRecDepth 100000
set_option maxHeartbeats 4000000
local macro_rules | `(tactic| walk_at "imm") => `(tactic| first
  | exact DL.imm_int
  | exact DL.imm_str
  | exact DL.imm_non
  | exact DL.imm_bl
  | exact DL.imm_nt
  | exact DL.immAll_nil
  | assumption
  | (refine DL.immAll_map ?_; intro _; walk_at "imm")
  | (refine DL.immAll_cons ?_ ?_ <;> walk_at "imm")
  | (refine DL.immAll_append ?_ ?_ <;> walk_at "imm")
  | (refine DL.immAll_rep ?_; walk_at "imm")
  | (refine DL.immAll_mem ?_; walk_at "imm")
  | (intro _ _; walk_at "imm")
  | (refine ⟨?_, ?_⟩ <;> walk_at "imm")
  | (refine DL.immT ?_; assumption))
local macro_rules | `(tactic| walk_at "hu") => `(tactic| exact L2.Room.units (by assumption))
local macro_rules | `(tactic| walk_at "loc") => `(tactic| first | exact Or.inl rfl | exact Or.inr rfl)
local macro_rules | `(tactic| walk_at "room") => `(tactic| first | assumption | exact L2.Room.mono (by assumption) (by decide))
local macro_rules | `(tactic| walk_at "side") => `(tactic| first | assumption | omega | (unfold L2.CMul; omega) | (unfold L2.CDiv; omega) | (have sizeLine_eq1 := PySem.sizeLine_eq; simp only [List.length_map]; omega) | (have sizeLine_eq' := PySem.sizeLine_eq; omega) | (simp; done) | rfl)
local macro_rules | `(tactic| walk_at "size") => `(tactic| ((show _ ≤ 16777216); exact Nat.le_of_ble_eq_true rfl))
local macro_rules | `(tactic| walk_at "sh") => `(tactic| first
  | exact DL.sh_int
  | exact DL.sh_bl
  | exact DL.sh_non
  | exact DL.sh_str (by decide +kernel)
  | exact DL.shA_nil
  | assumption
  | (refine DL.sh_of ?_; walk_at "sh")
  | (refine DL.shA_map ?_; intro _; walk_at "sh")
  | (refine DL.shA_cons ?_ ?_ <;> walk_at "sh")
  | (refine DL.shA_app ?_ ?_ <;> walk_at "sh")
  | (refine DL.sh_tup ?_; walk_at "sh")
  | (refine DL.sh_lst ?_; walk_at "sh"))
namespace K87
open PySem PySem.Spec L2 DL
section
variable {P : Program} {w : World} {K : PySem.W.Frag} {mg : Str → Option Value} {base : Heap}
abbrev s_pk : Stmt := top 68
abbrev N_pk : List Str := ["pot", "row"]
theorem sc_pk : FnScope N_pk ["pot", "row"] (defScope s_pk) := ⟨rfl, rfl, rfl, by decide +kernel, rfl, by decide +kernel, by decide +kernel⟩
def PrePk (ds : List PyData) (c : Nat) : Prop := ∃ l : List PyData, ds = [.list l] ∧ immAll l = true ∧ 0 < l.length ∧ l.length ≤ 1000 ∧ c = 1
def PostPk (ds : List PyData) (d : PyData) : Prop := ∃ l : List PyData, ds = [.list l] ∧ d ∈ l
theorem ok_pk (T : Txt mg) (G_dw : FuE P w K mg base "_law_draw" ["pot", "many"] 1 PreDw PostDw) {f : Addr} {fd : FuncData} (F : Fun K "_law_pick" "_law_pick" s_pk f fd) : FnOk P w K mg base CX0 2 f fd ["pot", "row"] (spE K (fun _ => True) PrePk PostPk) := by
  refine fn_pot F sc_pk (fun ds c ⟨l, h, _⟩ => by rw [h]; rfl) fun cdv A outer s H E hr m ds c ⟨l, h, hi, h0, h1, hc⟩ => ?_
  subst h hc
  refine ds_one (ds_retE (P := (· ∈ l)) (m' := m) (e_ixL (P := fun d => ∃ i : Int, d = .int i ∧ 0 ≤ i ∧ i < l.length) 1 (pv 1) (Or.inl rfl) ?_ (fun d h => h) hi) (fun d hd => ⟨Nat.le_refl _, l, rfl, hd⟩))
  refine e_callE (Ps := AndThen (· = .int l.length) (· = [])) (c := 1) (m1 := m + 1) (m' := m) G_dw (by walk_at "room") (pv 0) rfl (es_cons (e_pure (pf_lenL (pp_var 1 (pv 1)) rfl T.len)) es_nil) rfl (fun ds h => ?_) fun ds d h ⟨n, i, h2, h3, h4, h5⟩ => ?_
  · cases ds with
    | nil => cases h
    | cons d ds =>
      obtain ⟨rfl, rfl⟩ := h
      exact ⟨_, rfl, by omega, by omega, rfl⟩
  · cases ds with
    | nil => cases h
    | cons d ds =>
      obtain ⟨rfl, rfl⟩ := h
      cases h2
      exact ⟨i, h3, h4, h5⟩
end
end K87
end
section
set_option Elab.async false
set_option linter.all false
set_option maxRecDepth 100000
set_option maxHeartbeats 4000000
local macro_rules | `(tactic| walk_at "imm") => `(tactic| first
  | exact DL.imm_int
  | exact DL.imm_str
  | exact DL.imm_non
  | exact DL.imm_bl
  | exact DL.imm_nt
  | exact DL.immAll_nil
  | assumption
  | (refine DL.immAll_map ?_; intro _; walk_at "imm")
  | (refine DL.immAll_cons ?_ ?_ <;> walk_at "imm")
  | (refine DL.immAll_append ?_ ?_ <;> walk_at "imm")
  | (refine DL.immAll_rep ?_; walk_at "imm")
  | (refine DL.immAll_mem ?_; walk_at "imm")
  | (intro _ _; walk_at "imm")
  | (refine ⟨?_, ?_⟩ <;> walk_at "imm")
  | (refine DL.immT ?_; assumption))
local macro_rules | `(tactic| walk_at "hu") => `(tactic| exact L2.Room.units (by assumption))
local macro_rules | `(tactic| walk_at "loc") => `(tactic| first | exact Or.inl rfl | exact Or.inr rfl)
local macro_rules | `(tactic| walk_at "room") => `(tactic| first | assumption | exact L2.Room.mono (by assumption) (by decide))
local macro_rules | `(tactic| walk_at "side") => `(tactic| first | assumption | omega | (unfold L2.CMul; omega) | (unfold L2.CDiv; omega) | (have sizeLine_eq1 := PySem.sizeLine_eq; simp only [List.length_map]; omega) | (have sizeLine_eq' := PySem.sizeLine_eq; omega) | (simp; done) | rfl)
local macro_rules | `(tactic| walk_at "size") => `(tactic| ((show _ ≤ 16777216); exact Nat.le_of_ble_eq_true rfl))
local macro_rules | `(tactic| walk_at "sh") => `(tactic| first
  | exact DL.sh_int
  | exact DL.sh_bl
  | exact DL.sh_non
  | exact DL.sh_str (by decide +kernel)
  | exact DL.shA_nil
  | assumption
  | (refine DL.sh_of ?_; walk_at "sh")
  | (refine DL.shA_map ?_; intro _; walk_at "sh")
  | (refine DL.shA_cons ?_ ?_ <;> walk_at "sh")
  | (refine DL.shA_app ?_ ?_ <;> walk_at "sh")
  | (refine DL.sh_tup ?_; walk_at "sh")
  | (refine DL.sh_lst ?_; walk_at "sh"))
namespace K87
open PySem PySem.Spec L2 DL
section
variable {P : Program} {w : World} {K : PySem.W.Frag} {mg : Str → Option Value} {base : Heap}
abbrev s_rw : Stmt := top 72
abbrev N_rw : List Str := ["pot", "p", "n", "k"]
theorem sc_rw : FnScope N_rw ["pot", "p", "n"] (defScope s_rw) := ⟨rfl, rfl, rfl, by decide +kernel, rfl, by decide +kernel, by decide +kernel⟩
def PreRw (ds : List PyData) (c : Nat) : Prop := ∃ p n : Int, ds = [.int p, .int n] ∧ (0 < p ∧ p < 1073741824) ∧ (0 ≤ n ∧ n ≤ 1000) ∧ c = n.toNat
def PostRw (ds : List PyData) (d : PyData) : Prop := ∃ (p n : Int) (ns : List Int), ds = [.int p, .int n] ∧ d = nt ns ∧ ns.length = n.toNat ∧ ∀ x ∈ ns, 0 ≤ x ∧ x < p
theorem ok_rw (T : Txt mg) (G_dw : FuE P w K mg base "_law_draw" ["pot", "many"] 1 PreDw PostDw) {f : Addr} {fd : FuncData} (F : Fun K "_law_row" "_law_row" s_rw f fd) : FnOk P w K mg base CX0 2 f fd ["pot", "p", "n"] (spE K (fun _ => True) PreRw PostRw) := by
  refine fn_pot F sc_rw (fun ds c ⟨p, n, h, _⟩ => by rw [h]; rfl) fun cdv A outer s H E hr m ds c ⟨p, n, h, hp, hn, hc⟩ => ?_
  subst h hc
  refine ds_one (ds_retE (P := fun d => ∃ ns : List Int, d = nt ns ∧ ns.length = n.toNat ∧ ∀ x ∈ ns, 0 ≤ x ∧ x < p) (m' := m) ?_ (fun d ⟨ns, h1, h2, h3⟩ => ⟨Nat.le_refl _, p, n, ns, rfl, h1, h2, h3⟩))
  refine e_tupleN (P := fun d => ∃ ds : List PyData, d = .list ds ∧ ds.length = (List.range n.toNat).length ∧ ∀ (i : Nat) (a : Nat) (d : PyData), (List.range n.toNat)[i]? = some a → ds[i]? = some d → ∃ z : Int, d = .int z ∧ 0 ≤ z ∧ z < p) (fun ns => ns.length = n.toNat ∧ ∀ x ∈ ns, 0 ≤ x ∧ x < p) ?_ (fun d ⟨ds, h1, h2, h3⟩ => ?_) rfl T.tuple
  · have e : m + n.toNat = m + (List.range n.toNat).length * 1 := by simp
    rw [e]
    refine e_lc (own := [("k", 3)]) (f := fun (k : Nat) => PyData.int (k : Int)) (P := fun _ d => ∃ z : Int, d = .int z ∧ 0 ≤ z ∧ z < p) rfl sc_rw.nd (pi_rng1 rfl T.range (pp_var 2 (pv 2)) (by walk_at "side") (by walk_at "side")) (fun _ _ => imm_int) (blkOk_by (own := [("k", 3)]) (N := N_rw) (sc := defScope s_rw) (by decide +kernel)) (fun _ _ _ _ _ mm a ha => gsw_name (pg_name (i := 3) sc_rw.nd rfl (by walk_at "loc"))) (fun _ _ _ _ _ mm a ha => ?_)
    refine e_callE (Ps := AndThen (· = .int p) (· = [])) (c := 1) (m1 := mm + 1) (m' := mm) G_dw (by walk_at "room") (pv 0) rfl (es_cons (e_pure (toF (pp_var 1 (pv 1)) (by walk_at "imm"))) es_nil) rfl (fun ds h => ?_) fun ds d h ⟨n', i, h2, h3, h4, h5⟩ => ?_
    · cases ds with
      | nil => cases h
      | cons d ds =>
        obtain ⟨rfl, rfl⟩ := h
        exact ⟨_, rfl, hp.1, hp.2, rfl⟩
    · cases ds with
      | nil => cases h
      | cons d ds =>
        obtain ⟨rfl, rfl⟩ := h
        cases h2
        exact ⟨i, h3, h4, h5⟩
  · obtain ⟨ns, e1, e2, e3⟩ := ints_of_items h2 h3
    exact ⟨ns, by rw [h1, e1], by simpa using e2, fun x hx => by obtain ⟨_, _, q⟩ := e3 x hx; exact q⟩
end
end K87
end
section
set_option Elab.async false
set_option linter.all false
set_option maxRecDepth 100000
set_option maxHeartbeats 4000000
local macro_rules | `(tactic| walk_at "imm") => `(tactic| first
  | exact DL.imm_int
  | exact DL.imm_str
  | exact DL.imm_non
  | exact DL.imm_bl
  | exact DL.imm_nt
  | exact DL.immAll_nil
  | assumption
  | (refine DL.immAll_map ?_; intro _; walk_at "imm")
  | (refine DL.immAll_cons ?_ ?_ <;> walk_at "imm")
  | (refine DL.immAll_append ?_ ?_ <;> walk_at "imm")
  | (refine DL.immAll_rep ?_; walk_at "imm")
  | (refine DL.immAll_mem ?_; walk_at "imm")
  | (intro _ _; walk_at "imm")
  | (refine ⟨?_, ?_⟩ <;> walk_at "imm")
  | (refine DL.immT ?_; assumption))
local macro_rules | `(tactic| walk_at "hu") => `(tactic| exact L2.Room.units (by assumption))
local macro_rules | `(tactic| walk_at "loc") => `(tactic| first | exact Or.inl rfl | exact Or.inr rfl)
local macro_rules | `(tactic| walk_at "room") => `(tactic| first | assumption | exact L2.Room.mono (by assumption) (by decide))
local macro_rules | `(tactic| walk_at "side") => `(tactic| first | assumption | omega | (unfold L2.CMul; omega) | (unfold L2.CDiv; omega) | (have sizeLine_eq1 := PySem.sizeLine_eq; simp only [List.length_map]; omega) | (have sizeLine_eq' := PySem.sizeLine_eq; omega) | (simp; done) | rfl)
local macro_rules | `(tactic| walk_at "size") => `(tactic| ((show _ ≤ 16777216); exact Nat.le_of_ble_eq_true rfl))
local macro_rules | `(tactic| walk_at "sh") => `(tactic| first
  | exact DL.sh_int
  | exact DL.sh_bl
  | exact DL.sh_non
  | exact DL.sh_str (by decide +kernel)
  | exact DL.shA_nil
  | assumption
  | (refine DL.sh_of ?_; walk_at "sh")
  | (refine DL.shA_map ?_; intro _; walk_at "sh")
  | (refine DL.shA_cons ?_ ?_ <;> walk_at "sh")
  | (refine DL.shA_app ?_ ?_ <;> walk_at "sh")
  | (refine DL.sh_tup ?_; walk_at "sh")
  | (refine DL.sh_lst ?_; walk_at "sh"))
namespace K87
open PySem PySem.Spec L2 DL
section
variable {P : Program} {w : World} {K : PySem.W.Frag} {mg : Str → Option Value} {base : Heap}
abbrev s_mx : Stmt := top 69
abbrev N_mx : List Str := ["pot", "row", "left", "found", "turn"]
theorem sc_mx : FnScope N_mx ["pot", "row"] (defScope s_mx) := ⟨rfl, rfl, rfl, by decide +kernel, rfl, by decide +kernel, by decide +kernel⟩
def PreMx (ds : List PyData) (c : Nat) : Prop := ∃ l : List PyData, ds = [.list l] ∧ immAll l = true ∧ l.length ≤ 1000 ∧ c = l.length
def PostMx (ds : List PyData) (d : PyData) : Prop := ∃ l l' : List PyData, ds = [.list l] ∧ d = .list l' ∧ l'.Perm l
theorem pop_perm : ∀ (L : List PyData) (k : Nat) (hk : k < L.length), (L[k] :: L.eraseIdx k).Perm L
  | [], k, hk => by simp at hk
  | x :: L, 0, _ => List.Perm.refl _
  | x :: L, k + 1, hk => (List.Perm.swap x _ _).trans (List.Perm.cons x (pop_perm L k (by simpa using hk)))
theorem perm_pop {L F l : List PyData} {k : Nat} (h : (F ++ L).Perm l) (hk : k < L.length) : ((F ++ [L[k]]) ++ L.eraseIdx k).Perm l := by
  refine List.Perm.trans ?_ h
  rw [List.append_assoc]
  refine List.Perm.append_left F ?_
  exact pop_perm L k hk
theorem ok_mx (T : Txt mg) (G_dw : FuE P w K mg base "_law_draw" ["pot", "many"] 1 PreDw PostDw) {f : Addr} {fd : FuncData} (F : Fun K "_law_mixed" "_law_mixed" s_mx f fd) : FnOk P w K mg base CX0 2 f fd ["pot", "row"] (spE K (fun _ => True) PreMx PostMx) := by
  refine fn_pot F sc_mx (fun ds c ⟨l, h, _⟩ => by rw [h]; rfl) fun cdv A outer s H E hr m ds c ⟨l, h, hi, hl, hc⟩ => ?_
  subst h hc
  refine dss_seq (ds_par 2 3 rfl sc_mx.nd rfl rfl (by decide) rfl rfl (fas_cons (pf_listI (pp_var 1 (pv 1)) (.inl rfl) (by walk_at "imm") rfl T.list) (fas_cons (pf_lst fas_nil (by walk_at "size")) fas_nil))) ?_
  rintro _ _ ⟨rfl, rfl⟩
  refine dss_seq (ds_for (fun n m1 ρ1 => ∃ (L Fo : List PyData) (w : Slot), m1 = m + (l.length - n) ∧ ρ1 = [.pot, .sh (.list l), .ow (.list L), .ow (.list Fo), w] ∧ (Fo ++ L).Perm l ∧ L.length + n = l.length ∧ Fo.length = n) PassesOwn.never rfl
    (pi_rng1 rfl T.range (toP (pf_lenL (pp_var 1 (pv 1)) rfl T.len)) (by walk_at "side") (by walk_at "side")) (fun d hd => ?_) ⟨l, [], .un, rfl, rfl, by simp, rfl, rfl⟩ ?_) ?_
  · obtain ⟨k, _, rfl⟩ := List.mem_map.mp hd
    exact imm_int
  · rintro n _ _ d hd ⟨L, Fo, w, rfl, rfl, hp, hL, hF⟩
    have hn : n < l.length := by
      have := (List.getElem?_eq_some_iff.mp hd).1
      simpa using this
    have hLi : immAll L = true := immAll_iff.mpr fun x hx => immAll_iff.mp hi x (hp.subset (List.mem_append_right _ hx))
    have hFi : immAll Fo = true := immAll_iff.mpr fun x hx => immAll_iff.mp hi x (hp.subset (List.mem_append_left _ hx))
    have hd2 : imm d = true := by
      obtain ⟨k, _, rfl⟩ := List.mem_map.mp (List.mem_of_getElem? hd)
      exact imm_int
    have hsz := PySem.sizeLine_eq
    refine ⟨_, gst_name (pg_name (i := 4) sc_mx.nd rfl (by walk_at "loc")), ?_⟩
    have hb : m + (l.length - n) = (m + (l.length - (n + 1))) + 1 := by omega
    rw [hb]
    refine dss_seq (ds_appPop (P := fun d => ∃ k : Int, d = .int k ∧ 0 ≤ k ∧ k < L.length) (m' := m + (l.length - (n + 1))) 3 2 (by decide) (pv 3) (pv 2) rfl rfl (e_callE (Ps := AndThen (· = .int L.length) (· = [])) (c := 1) (m1 := m + (l.length - (n + 1)) + 1) (m' := m + (l.length - (n + 1))) G_dw (by walk_at "room") (pv 0) rfl (es_cons (e_pure (pf_lenL (pp_var 2 (pv 2)) rfl T.len)) es_nil) rfl (fun ds h => ?_) fun ds d h ⟨n', i, h2, h3, h4, h5⟩ => ?_) (fun d h => h) hLi hFi (by omega) (by omega)
      (pe_bm PySem.F.plainAttrs_list PySem.F.slot_list_append PySem.F.type_list_append mt_append (pv 3) (pa_cons (pe_bm PySem.F.plainAttrs_list PySem.F.slot_list_pop PySem.F.type_list_pop mt_popAt (pv 2) (pa_cons (e_callE (Ps := AndThen (· = .int L.length) (· = [])) (c := 1) (m1 := m + (l.length - (n + 1)) + 1) (m' := m + (l.length - (n + 1))) G_dw (by walk_at "room") (pv 0) rfl (es_cons (e_pure (pf_lenL (pp_var 2 (pv 2)) rfl T.len)) es_nil) rfl (fun ds h => ?_) fun ds d h ⟨n', i, h2, h3, h4, h5⟩ => ?_) pa_nil)) pa_nil))) ?_
    · cases ds with
      | nil => cases h
      | cons d ds =>
        obtain ⟨rfl, rfl⟩ := h
        exact ⟨_, rfl, by omega, by omega, rfl⟩
    · cases ds with
      | nil => cases h
      | cons d ds =>
        obtain ⟨rfl, rfl⟩ := h
        cases h2
        exact ⟨i, h3, h4, h5⟩
    · cases ds with
      | nil => cases h
      | cons d ds =>
        obtain ⟨rfl, rfl⟩ := h
        exact ⟨_, rfl, by omega, by omega, rfl⟩
    · cases ds with
      | nil => cases h
      | cons d ds =>
        obtain ⟨rfl, rfl⟩ := h
        cases h2
        exact ⟨i, h3, h4, h5⟩
    · rintro _ _ ⟨k, hk, rfl, rfl⟩
      exact dss_nil (Le.refl _) ⟨L.eraseIdx k, Fo ++ [L[k]], _, rfl, rfl, perm_pop hp hk, by rw [List.length_eraseIdx]; split <;> omega, by rw [List.length_append, hF]; rfl⟩
  · rintro _ _ ⟨L, Fo, w, rfl, rfl, hp, hL, hF⟩
    have e0 : L = [] := by
      have : L.length = 0 := by
        simp only [List.length_map, List.length_range, Int.toNat_natCast] at hL
        omega
      exact List.eq_nil_of_length_eq_zero this
    subst e0
    rw [List.append_nil] at hp
    exact ds_one (ds_retV 3 (pv 3) rfl ⟨by omega, l, Fo, rfl, rfl, hp⟩)
end
end K87
end
section
set_option Elab.async false
set_option linter.all false
set_option maxRecDepth 100000
set_option maxHeartbeats 4000000
local macro_rules | `(tactic| walk_at "imm") => `(tactic| first
  | exact DL.imm_int
  | exact DL.imm_str
  | exact DL.imm_non
  | exact DL.imm_bl
  | exact DL.imm_nt
  | exact DL.immAll_nil
  | assumption
  | (refine DL.immAll_map ?_; intro _; walk_at "imm")
  | (refine DL.immAll_cons ?_ ?_ <;> walk_at "imm")
  | (refine DL.immAll_append ?_ ?_ <;> walk_at "imm")
  | (refine DL.immAll_rep ?_; walk_at "imm")
  | (refine DL.immAll_mem ?_; walk_at "imm")
  | (intro _ _; walk_at "imm")
  | (refine ⟨?_, ?_⟩ <;> walk_at "imm")
  | (refine DL.immT ?_; assumption))
local macro_rules | `(tactic| walk_at "hu") => `(tactic| exact L2.Room.units (by assumption))
local macro_rules | `(tactic| walk_at "loc") => `(tactic| first | exact Or.inl rfl | exact Or.inr rfl)
local macro_rules | `(tactic| walk_at "room") => `(tactic| first | assumption | exact L2.Room.mono (by assumption) (by decide))
local macro_rules | `(tactic| walk_at "side") => `(tactic| first | assumption | omega | (unfold L2.CMul; omega) | (unfold L2.CDiv; omega) | (have sizeLine_eq1 := PySem.sizeLine_eq; simp only [List.length_map]; omega) | (have sizeLine_eq' := PySem.sizeLine_eq; omega) | (simp; done) | rfl)
local macro_rules | `(tactic| walk_at "size") => `(tactic| ((show _ ≤ 16777216); exact Nat.le_of_ble_eq_true rfl))
local macro_rules | `(tactic| walk_at "sh") => `(tactic| first
  | exact DL.sh_int
  | exact DL.sh_bl
  | exact DL.sh_non
  | exact DL.sh_str (by decide +kernel)
  | exact DL.shA_nil
  | assumption
  | (refine DL.sh_of ?_; walk_at "sh")
  | (refine DL.shA_map ?_; intro _; walk_at "sh")
  | (refine DL.shA_cons ?_ ?_ <;> walk_at "sh")
  | (refine DL.shA_app ?_ ?_ <;> walk_at "sh")
  | (refine DL.sh_tup ?_; walk_at "sh")
  | (refine DL.sh_lst ?_; walk_at "sh"))
namespace K87
open PySem PySem.Spec L2 DL
section
variable {P : Program} {w : World} {K : PySem.W.Frag} {mg : Str → Option Value} {base : Heap}
abbrev s_or : Stmt := top 75
abbrev N_or : List Str := ["pot", "d"]
theorem sc_or : FnScope N_or ["pot", "d"] (defScope s_or) := ⟨rfl, rfl, rfl, by decide +kernel, rfl, by decide +kernel, by decide +kernel⟩
def PreOr (ds : List PyData) (c : Nat) : Prop := ∃ q : Int, ds = [.int q] ∧ 0 ≤ q ∧ q ≤ 1000 ∧ c = q.toNat
def PostOr (ds : List PyData) (d : PyData) : Prop := ∃ (q : Int) (ns : List Int), ds = [.int q] ∧ d = nt ns ∧ ns.Perm (plain q)
theorem perm_ints {l : List PyData} {ns : List Int} (h : l.Perm (ns.map PyData.int)) : ∃ ms : List Int, l = ms.map .int ∧ ms.Perm ns := by
  have hm : ∀ x ∈ l, ∃ i : Int, x = .int i := fun x hx => by
    obtain ⟨i, _, rfl⟩ := List.mem_map.mp (h.subset hx)
    exact ⟨i, rfl⟩
  have e2 : (ns.map PyData.int).map (fun (d : PyData) => match d with | .int i => i | _ => 0) = ns := by
    rw [List.map_map]
    show ns.map id = ns
    rw [List.map_id]
  refine ⟨l.map fun d => match d with | .int i => i | _ => 0, ?_, by have := h.map (fun (d : PyData) => match d with | .int i => i | _ => 0); rwa [e2] at this⟩
  rw [List.map_map]
  clear h e2
  induction l with
  | nil => rfl
  | cons x l ih =>
    obtain ⟨i, rfl⟩ := hm x List.mem_cons_self
    rw [List.map_cons, ← ih fun y hy => hm y (List.mem_cons_of_mem _ hy)]
    rfl
theorem ok_or (T : Txt mg) (G_mx : FuE P w K mg base "_law_mixed" ["pot", "row"] 2 PreMx PostMx) {f : Addr} {fd : FuncData} (F : Fun K "_law_order" "_law_order" s_or f fd) : FnOk P w K mg base CX0 3 f fd ["pot", "d"] (spE K (fun _ => True) PreOr PostOr) := by
  refine fn_pot F sc_or (fun ds c ⟨q, h, _⟩ => by rw [h]; rfl) fun cdv A outer s H E hr m ds c ⟨q, h, h0, h1, hc⟩ => ?_
  subst h hc
  have hpl : (plain q).length = q.toNat := by simp [plain]
  refine ds_one (ds_retE (P := fun d => ∃ ns : List Int, d = nt ns ∧ ns.Perm (plain q)) (m' := m) ?_ (fun d ⟨ns, h1, h2⟩ => ⟨Nat.le_refl _, q, ns, rfl, h1, h2⟩))
  refine e_tupleN (P := fun d => ∃ l' : List PyData, d = .list l' ∧ l'.Perm ((plain q).map .int)) (fun ns => ns.Perm (plain q)) ?_ (fun d ⟨l', e1, e2⟩ => ?_) rfl T.tuple
  · refine e_callE (Ps := AndThen (· = .list ((plain q).map .int)) (· = [])) (c := q.toNat) (m1 := m + q.toNat) (m' := m) G_mx (by walk_at "room") (pv 0) rfl (es_cons (e_pure (cF (pf_lstRg rfl (pp_var 1 (pv 1)) (by walk_at "side") (by walk_at "side") rfl T.list rfl T.range) (by simp [plain, Function.comp_def]))) es_nil) rfl (fun ds h => ?_) fun ds d h ⟨l, l', h2, h3, h4⟩ => ?_
    · cases ds with
      | nil => cases h
      | cons d ds =>
        obtain ⟨rfl, rfl⟩ := h
        exact ⟨_, rfl, by walk_at "imm", by rw [List.length_map, hpl]; omega, by rw [List.length_map, hpl]⟩
    · cases ds with
      | nil => cases h
      | cons d ds =>
        obtain ⟨rfl, rfl⟩ := h
        cases h2
        exact ⟨l', h3, h4⟩
  · obtain ⟨ms, rfl, e3⟩ := perm_ints e2
    exact ⟨ms, e1, e3⟩
end
end K87
end
section
set_option Elab.async false
set_option linter.all false
set_option maxRecDepth 100000
set_option maxHeartbeats 4000000
local macro_rules | `(tactic| walk_at "imm") => `(tactic| first
  | exact DL.imm_int
  | exact DL.imm_str
  | exact DL.imm_non
  | exact DL.imm_bl
  | exact DL.imm_nt
  | exact DL.immAll_nil
  | assumption
  | (refine DL.immAll_map ?_; intro _; walk_at "imm")
  | (refine DL.immAll_cons ?_ ?_ <;> walk_at "imm")
  | (refine DL.immAll_append ?_ ?_ <;> walk_at "imm")
  | (refine DL.immAll_rep ?_; walk_at "imm")
  | (refine DL.immAll_mem ?_; walk_at "imm")
  | (intro _ _; walk_at "imm")
  | (refine ⟨?_, ?_⟩ <;> walk_at "imm")
  | (refine DL.immT ?_; assumption))
local macro_rules | `(tactic| walk_at "hu") => `(tactic| exact L2.Room.units (by assumption))
local macro_rules | `(tactic| walk_at "loc") => `(tactic| first | exact Or.inl rfl | exact Or.inr rfl)
local macro_rules | `(tactic| walk_at "room") => `(tactic| first | assumption | exact L2.Room.mono (by assumption) (by decide))
local macro_rules | `(tactic| walk_at "side") => `(tactic| first | assumption | omega | (unfold L2.CMul; omega) | (unfold L2.CDiv; omega) | (have sizeLine_eq1 := PySem.sizeLine_eq; simp only [List.length_map]; omega) | (have sizeLine_eq' := PySem.sizeLine_eq; omega) | (simp; done) | rfl)
local macro_rules | `(tactic| walk_at "size") => `(tactic| ((show _ ≤ 16777216); exact Nat.le_of_ble_eq_true rfl))
local macro_rules | `(tactic| walk_at "sh") => `(tactic| first
  | exact DL.sh_int
  | exact DL.sh_bl
  | exact DL.sh_non
  | exact DL.sh_str (by decide +kernel)
  | exact DL.shA_nil
  | assumption
  | (refine DL.sh_of ?_; walk_at "sh")
  | (refine DL.shA_map ?_; intro _; walk_at "sh")
  | (refine DL.shA_cons ?_ ?_ <;> walk_at "sh")
  | (refine DL.shA_app ?_ ?_ <;> walk_at "sh")
  | (refine DL.sh_tup ?_; walk_at "sh")
  | (refine DL.sh_lst ?_; walk_at "sh"))
namespace K87
open PySem PySem.Spec L2 DL
section
variable {P : Program} {w : World} {K : PySem.W.Frag} {mg : Str → Option Value} {base : Heap}
abbrev s_wd : Stmt := top 76
abbrev N_wd : List Str := ["pot", "n", "d", "many", "turns", "i", "pair", "at"]
theorem sc_wd : FnScope N_wd ["pot", "n", "d", "many"] (defScope s_wd) := ⟨rfl, rfl, rfl, by decide +kernel, rfl, by decide +kernel, by decide +kernel⟩
structure GoodT (n q : Int) (t : Tn) : Prop where
  k : 0 ≤ t.k ∧ t.k < n
  z : t.z.Perm (plain q)
  o : t.o.Perm (plain q)
def PreWd (ds : List PyData) (c : Nat) : Prop := ∃ n q many : Int, ds = [.int n, .int q, .int many] ∧ (0 ≤ n ∧ n ≤ 1000) ∧ (0 ≤ q ∧ q ≤ 1000) ∧ (0 ≤ many ∧ many ≤ 1000) ∧ c = many.toNat * (2 * q.toNat + 3)
def PostWd (ds : List PyData) (d : PyData) : Prop := ∃ (n q many : Int) (tw : List Tn), ds = [.int n, .int q, .int many] ∧ d = dW q tw ∧ (tw.length : Int) = (if 0 < n then many else 0) ∧ ∀ t ∈ tw, GoodT n q t
theorem one_arg' {Pre : List PyData → Nat → Prop} {c : Nat} {d0 : PyData} (h : Pre [d0] c) : ∀ ds, AndThen (· = d0) (· = []) ds → Pre ds c := fun ds h' => by
  cases ds with
  | nil => cases h'
  | cons d ds =>
    obtain ⟨rfl, rfl⟩ := h'
    exact h
theorem one_res {Post : List PyData → PyData → Prop} {P : PyData → Prop} {d0 : PyData} (h : ∀ d, Post [d0] d → P d) : ∀ ds d, AndThen (· = d0) (· = []) ds → Post ds d → P d := fun ds d h' hp => by
  cases ds with
  | nil => cases h'
  | cons d1 ds =>
    obtain ⟨rfl, rfl⟩ := h'
    exact h d hp
theorem ok_wd (T : Txt mg) (G_dw : FuE P w K mg base "_law_draw" ["pot", "many"] 1 PreDw PostDw) (G_pk : FuE P w K mg base "_law_pick" ["pot", "row"] 2 PrePk PostPk) (G_or : FuE P w K mg base "_law_order" ["pot", "d"] 3 PreOr PostOr) {f : Addr} {fd : FuncData} (F : Fun K "_law_word" "_law_word" s_wd f fd) : FnOk P w K mg base CX0 4 f fd ["pot", "n", "d", "many"] (spE K (fun _ => True) PreWd PostWd) := by
  refine fn_pot F sc_wd (fun ds c ⟨n, q, many, h, _⟩ => by rw [h]; rfl) fun cdv A outer s H E hr m ds c ⟨n, q, many, h, hn, hq, hm, hc⟩ => ?_
  subst h hc
  have hsz := PySem.sizeLine_eq
  refine dss_seq (ds_set 4 sc_wd.nd rfl (by walk_at "loc") (pf_lst fas_nil (by walk_at "size"))) ?_
  rintro _ _ ⟨rfl, rfl⟩
  have hM : 0 ≤ (if decide (0 < n) = true then many else 0) ∧ (if decide (0 < n) = true then many else 0) ≤ many := by split <;> omega
  generalize hMd : (if decide (0 < n) = true then many else 0) = M at hM
  refine dss_seq (ds_for (fun k m1 ρ1 => ∃ (tw : List Tn) (w5 w6 w7 : Slot), m1 = m + (many.toNat - k) * (2 * q.toNat + 3) ∧ ρ1 = [.pot, .sh (.int n), .sh (.int q), .sh (.int many), .ow (.list (tw.map dT)), w5, w6, w7] ∧ tw.length = k ∧ ∀ t ∈ tw, GoodT n q t) PassesOwn.never rfl
    (pi_rng1 rfl T.range (cP (pp_ifI (pt_c c_gt (pp_var 1 (pv 1)) (toP pf_int)) (fun hw => pp_var 3 (pv 3)) (fun hw => toP pf_int)) (by rw [hMd])) hM.1 (by omega)) (fun d hd => ?_) ⟨[], .un, .un, .un, rfl, rfl, rfl, fun t h => by cases h⟩ ?_) ?_
  · obtain ⟨k, _, rfl⟩ := List.mem_map.mp hd
    exact imm_int
  · rintro k _ _ d hd ⟨tw, w5, w6, w7, rfl, rfl, hk, hg⟩
    have hkM : k < M.toNat := by
      have := (List.getElem?_eq_some_iff.mp hd).1
      simpa using this
    have hn0 : 0 < n := by
      by_cases z : 0 < n
      · exact z
      · rw [if_neg (by simpa using z)] at hMd; omega
    obtain ⟨b, hb⟩ : ∃ b, m + (many.toNat - (k + 1)) * (2 * q.toNat + 3) = b := ⟨_, rfl⟩
    have hbud : m + (many.toNat - k) * (2 * q.toNat + 3) = b + 1 + 1 + (1 + q.toNat) + q.toNat := by
      have : many.toNat - k = (many.toNat - (k + 1)) + 1 := by omega
      rw [this, Nat.add_mul, ← hb]; omega
    rw [hbud]
    refine ⟨_, gst_name (pg_name (i := 5) sc_wd.nd rfl (by walk_at "loc")), ?_⟩
    refine dss_seq (ds_setE (P := fun d => ∃ x y : List Int, d = .list [nt x, nt y] ∧ x.Perm (plain q) ∧ y.Perm (plain q)) (m' := b + 1 + 1) 6 sc_wd.nd rfl (by walk_at "loc") ?_) ?_
    · refine e_imp (e_lst (es_cons (P := fun d => ∃ x : List Int, d = nt x ∧ x.Perm (plain q)) (m1 := b + 1 + 1 + (1 + q.toNat)) ?_ (es_cons (P := fun d => ∃ x : List Int, d = nt x ∧ x.Perm (plain q)) (m1 := b + 1 + 1) ?_ es_nil)) (fun ds h => ?_)) (fun d h => ?_) (Nat.le_refl _)
      · exact e_callE (Ps := AndThen (· = .int q) (· = [])) (c := q.toNat) (m1 := b + 1 + 1 + (1 + q.toNat) + q.toNat) (m' := b + 1 + 1 + (1 + q.toNat)) G_or (by walk_at "room") (pv 0) rfl (es_cons (e_pure (toF (pp_var 2 (pv 2)) (by walk_at "imm"))) es_nil) rfl (one_arg' ⟨q, rfl, hq.1, hq.2, rfl⟩) (one_res fun d ⟨q', ns, h2, h3, h4⟩ => by cases h2; exact ⟨ns, h3, h4⟩)
      · refine e_callE (Ps := AndThen (fun d => ∃ y : List Int, d = .list [nt (plain q), nt y] ∧ y.Perm (plain q)) (· = [])) (c := 1) (m1 := b + 1 + 1 + 1) (m' := b + 1 + 1) G_pk (by walk_at "room") (pv 0) rfl (es_cons ?_ es_nil) rfl (fun ds h => ?_) (fun ds d h ⟨l, h2, h3⟩ => ?_)
        · have e : b + 1 + 1 + (1 + q.toNat) = b + 1 + 1 + 1 + q.toNat := by omega
          rw [e]
          refine e_imp (e_lst (es_cons (P := (· = nt (plain q))) (e_pure (pf_tupleNM (toP (pf_lstRg rfl (pp_var 2 (pv 2)) (by walk_at "side") (by walk_at "side") rfl T.list rfl T.range)) rfl T.tuple)) (es_cons (P := fun d => ∃ x : List Int, d = nt x ∧ x.Perm (plain q)) (m1 := b + 1 + 1 + 1) ?_ es_nil)) (fun ds h => ?_)) (fun d h => ?_) (Nat.le_refl _)
          · exact e_callE (Ps := AndThen (· = .int q) (· = [])) (c := q.toNat) (m1 := b + 1 + 1 + 1 + q.toNat) (m' := b + 1 + 1 + 1) G_or (by walk_at "room") (pv 0) rfl (es_cons (e_pure (toF (pp_var 2 (pv 2)) (by walk_at "imm"))) es_nil) rfl (one_arg' ⟨q, rfl, hq.1, hq.2, rfl⟩) (one_res fun d ⟨q', ns, h2, h3, h4⟩ => by cases h2; exact ⟨ns, h3, h4⟩)
          · rcases ds with _ | ⟨d1, _ | ⟨d2, _ | ⟨d3, ds⟩⟩⟩
            · exact Nat.zero_le _
            · show 1 ≤ sizeLine; omega
            · show 2 ≤ sizeLine; omega
            · cases h.2.2
          · obtain ⟨ds, rfl, h⟩ := h
            rcases ds with _ | ⟨d1, _ | ⟨d2, _ | ⟨d3, ds⟩⟩⟩
            · cases h
            · cases h.2
            · obtain ⟨rfl, ⟨y, rfl, hy⟩, _⟩ := h
              exact ⟨y, rfl, hy⟩
            · cases h.2.2
        · rcases ds with _ | ⟨d1, ds⟩
          · cases h
          · obtain ⟨⟨y, rfl, hy⟩, rfl⟩ := h
            exact ⟨_, rfl, by walk_at "imm", by simp, by simp, rfl⟩
        · rcases ds with _ | ⟨d1, ds⟩
          · cases h
          · obtain ⟨⟨y, rfl, hy⟩, rfl⟩ := h
            cases h2
            rcases List.mem_cons.mp h3 with rfl | h3
            · exact ⟨_, rfl, List.Perm.refl _⟩
            · rw [List.mem_singleton.mp h3]; exact ⟨_, rfl, hy⟩
      · rcases ds with _ | ⟨d1, _ | ⟨d2, _ | ⟨d3, ds⟩⟩⟩
        · exact Nat.zero_le _
        · show 1 ≤ sizeLine; omega
        · show 2 ≤ sizeLine; omega
        · cases h.2.2
      · obtain ⟨ds, rfl, h⟩ := h
        rcases ds with _ | ⟨d1, _ | ⟨d2, _ | ⟨d3, ds⟩⟩⟩
        · cases h
        · cases h.2
        · obtain ⟨⟨x, rfl, hx⟩, ⟨y, rfl, hy⟩, _⟩ := h
          exact ⟨x, y, rfl, hx, hy⟩
        · cases h.2.2
    rintro _ _ ⟨_, ⟨x, y, rfl, hx, hy⟩, rfl, rfl⟩
    refine dss_seq (ds_setE (P := fun d => ∃ i : Int, d = .int i ∧ 0 ≤ i ∧ i < 2) (m' := b + 1) 7 sc_wd.nd rfl (by walk_at "loc") (e_callE (Ps := AndThen (· = .int 2) (· = [])) (c := 1) (m1 := b + 1 + 1) (m' := b + 1) G_dw (by walk_at "room") (pv 0) rfl (es_cons (e_pure pf_int) es_nil) rfl (one_arg' ⟨2, rfl, by decide, by decide, rfl⟩) (one_res fun d ⟨n', i, h2, h3, h4, h5⟩ => by cases h2; exact ⟨i, h3, h4, h5⟩))) ?_
    rintro _ _ ⟨_, ⟨i, rfl, hi⟩, rfl, rfl⟩
    have hxy : (at0 [x, y] i).Perm (plain q) ∧ (at0 [x, y] (1 - i)).Perm (plain q) := by
      have : i = 0 ∨ i = 1 := by omega
      rcases this with rfl | rfl
      · exact ⟨hx, hy⟩
      · exact ⟨hy, hx⟩
    refine dss_seq (ds_apE (P := fun d => ∃ t : Tn, d = dT t ∧ GoodT n q t) (m' := b) 4 (pv 4) rfl ?_ (fun d ⟨t, e, _⟩ => by rw [e]; walk_at "imm") (by walk_at "imm") (by rw [List.length_map]; omega)) ?_
    · refine e_imp (e_nm (e_tup (es_cons (P := fun d => ∃ z : Int, d = .int z ∧ 0 ≤ z ∧ z < n) (m1 := b) ?_ (es_cons (P := (· = nt (at0 [x, y] i))) (e_pure (toF (pp_ixLM (f := nt) (l := [x, y]) (pp_var 6 (pv 6)) (pp_var 7 (pv 7)) (by simp; omega)) (by walk_at "imm"))) (es_cons (P := (· = nt (at0 [x, y] (1 - i)))) (e_pure (toF (pp_ixLM (f := nt) (l := [x, y]) (pp_var 6 (pv 6)) (toP (pf_sub (toP pf_int) (pp_var 7 (pv 7)))) (by simp; omega)) (by walk_at "imm"))) es_nil))) (fun ds h => ?_))) (fun d h => ?_) (Nat.le_refl _)
      · exact e_callE (Ps := AndThen (· = .int n) (· = [])) (c := 1) (m1 := b + 1) (m' := b) G_dw (by walk_at "room") (pv 0) rfl (es_cons (e_pure (toF (pp_var 1 (pv 1)) (by walk_at "imm"))) es_nil) rfl (one_arg' ⟨n, rfl, hn0, by omega, rfl⟩) (one_res fun d ⟨n', i, h2, h3, h4, h5⟩ => by cases h2; exact ⟨i, h3, h4, h5⟩)
      · rcases ds with _ | ⟨d1, _ | ⟨d2, _ | ⟨d3, _ | ⟨d4, ds⟩⟩⟩⟩
        · exact Nat.zero_le _
        · show 1 ≤ sizeLine; omega
        · show 2 ≤ sizeLine; omega
        · show 3 ≤ sizeLine; omega
        · cases h.2.2.2
      · obtain ⟨_, ⟨ds, rfl, h⟩, rfl⟩ := h
        rcases ds with _ | ⟨d1, _ | ⟨d2, _ | ⟨d3, _ | ⟨d4, ds⟩⟩⟩⟩
        · cases h
        · cases h.2
        · cases h.2.2
        · obtain ⟨⟨z, rfl, hz⟩, rfl, rfl, _⟩ := h
          refine ⟨⟨z, at0 [x, y] i, at0 [x, y] (1 - i)⟩, ?_, hz, hxy.1, hxy.2⟩
          simp only [nm_tup, nmAll_cons, nm_int, nm_nt, nmAll_nil]
          rfl
        · cases h.2.2.2
    rintro _ _ ⟨_, ⟨t, rfl, ht⟩, rfl, rfl⟩
    refine dss_nil (Le.refl _) ⟨tw ++ [t], _, _, _, hb.symm, by rw [List.map_append]; rfl, by rw [List.length_append, hk]; rfl, fun u hu => ?_⟩
    rcases List.mem_append.mp hu with hu | hu
    · exact hg u hu
    · rw [List.mem_singleton.mp hu]; exact ht
  · rintro _ _ ⟨tw, w5, w6, w7, rfl, rfl, hk, hg⟩
    refine ds_one (ds_ret (pf_tup (fas_cons (toF (pp_var 2 (pv 2)) (by walk_at "imm")) (fas_cons (pf_tupleI (pp_var 4 (pv 4)) (by walk_at "imm") rfl T.tuple) fas_nil)) (by walk_at "size")) ⟨by omega, n, q, many, tw, rfl, rfl, ?_, hg⟩)
    simp only [List.length_map, List.length_range] at hk
    rw [hk, ← hMd]
    by_cases z : 0 < n <;> simp [z] <;> omega
end
end K87
end
section
set_option Elab.async false
set_option linter.all false
set_option maxRecDepth 100000
set_option maxHeartbeats 4000000
namespace K87
open DL
def inW (w : Ar → Int) (f : Int → Int) (as : List Ar) (j : Int) : Int := (as.map fun a => if a.j = j then f a.i * w a else 0).sum
theorem inW_nil (w : Ar → Int) (f : Int → Int) (j : Int) : inW w f [] j = 0 := rfl
theorem inW_cons (w : Ar → Int) (f : Int → Int) (a : Ar) (as : List Ar) (j : Int) : inW w f (a :: as) j = (if a.j = j then f a.i * w a else 0) + inW w f as j := by
  unfold inW; rw [List.map_cons, List.sum_cons]
theorem inW_append (w : Ar → Int) (f : Int → Int) (as bs : List Ar) (j : Int) : inW w f (as ++ bs) j = inW w f as j + inW w f bs j := by
  unfold inW; rw [List.map_append, List.sum_append]
theorem inW_zero {w : Ar → Int} {f : Int → Int} : ∀ {as : List Ar} {j : Int}, (∀ a ∈ as, a.j ≠ j) → inW w f as j = 0
  | [], _, _ => rfl
  | a :: as, j, h => by rw [inW_cons, if_neg (h a List.mem_cons_self), inW_zero fun b m => h b (List.mem_cons_of_mem _ m)]; rfl
theorem inW_perm {w : Ar → Int} {f : Int → Int} {as bs : List Ar} (h : as.Perm bs) (j : Int) : inW w f as j = inW w f bs j := by
  induction h with
  | nil => rfl
  | cons a _ ih => rw [inW_cons, inW_cons, ih]
  | swap a b l => rw [inW_cons, inW_cons, inW_cons, inW_cons]; omega
  | trans _ _ h1 h2 => rw [h1, h2]
def Cg (p a b : Int) : Prop := a % p = b % p
theorem Cg.refl {p : Int} (a : Int) : Cg p a a := rfl
theorem Cg.symm {p a b : Int} (h : Cg p a b) : Cg p b a := Eq.symm h
theorem Cg.trans {p a b c : Int} (h : Cg p a b) (k : Cg p b c) : Cg p a c := Eq.trans h k
theorem Cg.add {p a b c d : Int} (h : Cg p a b) (k : Cg p c d) : Cg p (a + c) (b + d) := by
  unfold Cg at *; rw [Int.add_emod, h, k, ← Int.add_emod]
theorem Cg.mul {p a b c d : Int} (h : Cg p a b) (k : Cg p c d) : Cg p (a * c) (b * d) := by
  unfold Cg at *; rw [Int.mul_emod, h, k, ← Int.mul_emod]
theorem Cg.emod {p : Int} (a : Int) : Cg p (a % p) a := Int.emod_emod_of_dvd a (Int.dvd_refl p)
theorem Cg.of {p a b : Int} (h : a = b) : Cg p a b := h ▸ rfl
theorem inW_cg {p : Int} {w v : Ar → Int} {f g : Int → Int} : ∀ {as : List Ar} {j : Int}, (∀ a ∈ as, a.j = j → Cg p (w a) (v a) ∧ Cg p (f a.i) (g a.i)) → Cg p (inW w f as j) (inW v g as j)
  | [], _, _ => rfl
  | a :: as, j, h => by
    rw [inW_cons, inW_cons]
    refine Cg.add ?_ (inW_cg fun b m => h b (List.mem_cons_of_mem _ m))
    by_cases e : a.j = j
    · rw [if_pos e, if_pos e]
      obtain ⟨h1, h2⟩ := h a List.mem_cons_self e
      exact h2.mul h1
    · rw [if_neg e, if_neg e]; exact Cg.refl _
theorem vals_cg {p l : Int} {w : Ar → Int} {f : Int → Int} {as : List Ar} {step : List Int → Ar → List Int}
    (hstep : ∀ s a, step s a = s.set a.j.toNat ((at0 s a.j + at0 s a.i * w a) % p))
    (ha : ∀ a ∈ as, 0 ≤ a.i ∧ a.i < a.j ∧ a.j ≤ l) (f0 : Cg p (f 0) 1) (hf : ∀ j, 0 < j → j ≤ l → Cg p (f j) (inW w f as j)) :
    ∀ (post pre : List Ar) (s : List Int), as = pre ++ post → post.Pairwise (fun a b => a.i ≤ b.i) → (s.length : Int) = l + 1 →
      (∀ j, 0 ≤ j → j ≤ l → Cg p (at0 s j) ((if j = 0 then 1 else 0) + inW w f pre j)) →
      ∀ j, 0 ≤ j → j ≤ l → Cg p (at0 (post.foldl step s) j) (f j)
  | [], pre, s, e, _, hl, hs, j, j0, jl => by
    rw [List.append_nil] at e
    subst e
    refine (hs j j0 jl).trans ?_
    by_cases h : j = 0
    · subst h
      rw [if_pos rfl, inW_zero fun a m => by have := ha a m; omega]
      exact f0.symm
    · rw [if_neg h, Int.zero_add]
      exact (hf j (by omega) jl).symm
  | a :: post, pre, s, e, hp, hl, hs, j, j0, jl => by
    have hm : a ∈ as := by rw [e]; simp
    have h1 := ha a hm
    rw [List.foldl_cons]
    have hfa : Cg p (at0 s a.i) (f a.i) := by
      refine (hs a.i h1.1 (by omega)).trans ?_
      have hz : inW w f (a :: post) a.i = 0 := inW_zero fun b m => by
        have hb : b ∈ as := by rw [e]; exact List.mem_append_right _ m
        have h2 := ha b hb
        rcases List.mem_cons.mp m with rfl | m
        · omega
        · have := List.rel_of_pairwise_cons hp m
          omega
      have hq : inW w f as a.i = inW w f pre a.i := by rw [e, inW_append, hz]; omega
      by_cases h : a.i = 0
      · rw [if_pos h, ← hq, h, inW_zero fun b m => by have := ha b m; omega]
        exact f0.symm
      · rw [if_neg h, Int.zero_add, ← hq]
        exact (hf a.i (by omega) (by omega)).symm
    refine vals_cg hstep ha f0 hf post (pre ++ [a]) (step s a) (by rw [e]; simp) (List.Pairwise.of_cons hp) (by rw [hstep, List.length_set]; exact hl) (fun i i0 il => ?_) j j0 jl
    rw [hstep, inW_append, inW_cons, inW_nil]
    obtain ⟨n, rfl⟩ : ∃ n : Nat, i = n := ⟨i.toNat, by omega⟩
    rw [at0_set _ _ _ _ (by omega)]
    by_cases h : a.j = (n : Int)
    · rw [if_pos (by omega), if_pos h, Int.add_zero, ← Int.add_assoc]
      refine (Cg.emod _).trans (Cg.add ?_ (hfa.mul (Cg.refl _)))
      rw [h]; exact hs n i0 il
    · rw [if_neg (by omega), if_neg h, Int.add_zero, Int.add_zero]
      exact hs n i0 il
theorem start_at {l j : Int} (hl : 0 ≤ l) (h0 : 0 ≤ j) (hj : j ≤ l) : at0 (1 :: List.replicate l.toNat (0 : Int)) j = if j = 0 then 1 else 0 := by
  obtain ⟨n, rfl⟩ : ∃ n : Nat, j = n := ⟨j.toNat, by omega⟩
  unfold at0
  rw [Int.toNat_natCast]
  cases n with
  | zero => rfl
  | succ n =>
    rw [if_neg (by omega), List.getD_eq_getElem?_getD, List.getElem?_cons_succ, List.getElem?_replicate]
    rw [if_pos (by omega)]; rfl
def itV (it : List Int) (k : Int) : Int := if k < 0 then 1 else at0 it k
theorem wgt_cg {p : Int} {a : Ar} {it : List Int} (h : -1 ≤ a.k) : Cg p (wgt p a it) (a.c * itV it a.k) := by
  unfold wgt itV
  by_cases e : a.k = -1
  · rw [if_pos e, if_pos (by omega), Int.mul_one]; exact Cg.refl _
  · rw [if_neg e, if_neg (by omega)]; exact Cg.emod _
theorem lwgt_cg {p : Int} {a : Ar} {it : List Int} : Cg p (lwgt p a it) (a.c * itV it a.k) := by
  unfold lwgt itV
  by_cases e : a.k < 0
  · rw [if_pos e, if_pos e, Int.mul_one]; exact Cg.refl _
  · rw [if_neg e, if_neg e]; exact Cg.emod _
theorem rng_fold {p : Int} {w : Ar → Int} {step : List Int → Ar → List Int} (hp : 1 < p) (hstep : ∀ s a, step s a = s.set a.j.toNat ((at0 s a.j + at0 s a.i * w a) % p)) :
    ∀ (as : List Ar) (s : List Int), (∀ x ∈ s, 0 ≤ x ∧ x < p) → ∀ x ∈ as.foldl step s, 0 ≤ x ∧ x < p
  | [], s, h => h
  | a :: as, s, h => rng_fold hp hstep as (step s a) fun x hx => by
    rw [hstep] at hx
    rcases List.mem_or_eq_of_mem_set hx with hx | rfl
    · exact h x hx
    · exact ⟨Int.emod_nonneg _ (by omega), Int.emod_lt_of_pos _ (by omega)⟩
theorem rng_start {p l : Int} (hp : 1 < p) : ∀ x ∈ (1 :: List.replicate l.toNat (0 : Int)), 0 ≤ x ∧ x < p := by
  intro x hx
  rcases List.mem_cons.mp hx with rfl | hx
  · omega
  · rw [(List.mem_replicate.mp hx).2]; omega
theorem at0_mem' {l : List Int} {i : Int} (h : 0 ≤ i ∧ i < l.length) : at0 l i ∈ l := by
  unfold at0
  rw [List.getD_eq_getElem?_getD, List.getElem?_eq_getElem (by omega)]
  exact List.getElem_mem _
theorem cg_eq {p a b : Int} (h : Cg p a b) (ha : 0 ≤ a ∧ a < p) (hb : 0 ≤ b ∧ b < p) : a = b := by
  unfold Cg at h
  rwa [Int.emod_eq_of_lt ha.1 ha.2, Int.emod_eq_of_lt hb.1 hb.2] at h
theorem vals_are {p l : Int} {f : Int → Int} {as : List Ar} {it : List Int} (hp : 1 < p) (hl : 0 ≤ l) (ha : ∀ a ∈ as, 0 ≤ a.i ∧ a.i < a.j ∧ a.j ≤ l) (hk : ∀ a ∈ as, -1 ≤ a.k) (hs : as.Pairwise (fun a b => a.i ≤ b.i))
    (f0 : f 0 = 1) (hf : ∀ j, 0 < j → j ≤ l → Cg p (f j) (inW (fun a => a.c * itV it a.k) f as j)) (hr : 0 ≤ f l ∧ f l < p) :
    lst0 (valsTo p l as it) = f l ∧ at0 (lvals p l as it) l = f l := by
  have hg : ∀ (step : List Int → Ar → List Int) (w : Ar → Int), (∀ s a, step s a = s.set a.j.toNat ((at0 s a.j + at0 s a.i * w a) % p)) → (∀ a ∈ as, Cg p (w a) (a.c * itV it a.k)) →
      at0 (as.foldl step (1 :: List.replicate l.toNat 0)) l = f l ∧ (as.foldl step (1 :: List.replicate l.toNat 0)).length = l.toNat + 1 := by
    intro step w hw hc
    have hlen : ∀ (as : List Ar) (s : List Int), (as.foldl step s).length = s.length := by
      intro as
      induction as with
      | nil => intro s; rfl
      | cons a as ih => intro s; rw [List.foldl_cons, ih, hw, List.length_set]
    have hlen2 := hlen as (1 :: List.replicate l.toNat 0)
    rw [List.length_cons, List.length_replicate] at hlen2
    refine ⟨?_, hlen2⟩
    refine cg_eq (p := p) ?_ ?_ hr
    · refine vals_cg (w := w) hw ha (f0 ▸ Cg.refl _) (fun j j0 jl => (hf j j0 jl).trans (inW_cg fun a m _ => ⟨(hc a m).symm, Cg.refl _⟩)) as [] _ rfl hs ?_ (fun j j0 jl => ?_) l hl (Int.le_refl _)
      · rw [List.length_cons, List.length_replicate]; omega
      · rw [start_at hl j0 jl, inW_nil, Int.add_zero]; exact Cg.refl _
    · exact rng_fold hp hw as _ (rng_start hp) _ (at0_mem' (by omega))
  obtain ⟨h1, h2⟩ := hg (vStep p it) (fun a => wgt p a it) (fun _ _ => rfl) fun a m => wgt_cg (hk a m)
  obtain ⟨h3, _⟩ := hg (lStep p it) (fun a => lwgt p a it) (fun _ _ => rfl) fun a _ => lwgt_cg
  refine ⟨?_, h3⟩
  rw [← h1]
  unfold valsTo lst0 at0
  rw [h2]; rfl
def cellW (qs : List (Ar × Int)) (i j : Int) : Int := (qs.map fun q => if q.1.i = i ∧ q.1.j = j then q.2 else 0).sum
theorem up_cell {p l : Int} : ∀ (qs : List (Ar × Int)) (s : List (List Int)), ((s.length : Int) = l ∧ ∀ i : Nat, (i : Int) < s.length → ((at0 s (i : Int)).length : Int) = l - i) →
    (∀ q ∈ qs, 0 ≤ q.1.i ∧ q.1.i < q.1.j ∧ q.1.j ≤ l) → ∀ i j : Int, 0 ≤ i → i < j → j ≤ l →
    Cg p (at0 (at0 (qs.foldl (upStep p) s) i) (j - 1 - i)) (at0 (at0 s i) (j - 1 - i) + cellW qs i j)
  | [], s, _, _, i, j, _, _, _ => by unfold cellW; simp only [List.map_nil, List.sum_nil, Int.add_zero]; exact Cg.refl _
  | q :: qs, s, h, hq, i, j, i0, ij, jl => by
    rw [List.foldl_cons]
    have h1 := hq q List.mem_cons_self
    have hs := upInv (p := p) [q] s h
    rw [List.foldl_cons, List.foldl_nil] at hs
    refine (up_cell qs (upStep p s q) hs (fun r m => hq r (List.mem_cons_of_mem _ m)) i j i0 ij jl).trans ?_
    have hc : cellW (q :: qs) i j = (if q.1.i = i ∧ q.1.j = j then q.2 else 0) + cellW qs i j := by unfold cellW; rw [List.map_cons, List.sum_cons]
    rw [hc, ← Int.add_assoc]
    refine Cg.add ?_ (Cg.refl _)
    unfold upStep
    obtain ⟨n, rfl⟩ : ∃ n : Nat, i = n := ⟨i.toNat, by omega⟩
    obtain ⟨m, rfl⟩ : ∃ m : Nat, j = (n : Int) + 1 + m := ⟨(j - n - 1).toNat, by omega⟩
    rw [at0_set _ _ _ _ (by have := h.1; omega)]
    by_cases e : q.1.i = (n : Int)
    · rw [if_pos (by omega), e]
      have hr := h.2 n (by have := h.1; omega)
      rw [show (n : Int) + 1 + m - 1 - n = (m : Nat) by omega, at0_set _ _ _ _ (by omega)]
      by_cases e2 : q.1.j = (n : Int) + 1 + m
      · rw [if_pos (by omega), if_pos ⟨rfl, e2⟩, e2, show (n : Int) + 1 + m - 1 - n = (m : Nat) by omega]
        exact Cg.emod _
      · rw [if_neg (by omega), if_neg (fun z => e2 z.2), Int.add_zero]
        exact Cg.refl _
    · rw [if_neg (by omega), if_neg (fun z => e z.1), Int.add_zero]
      exact Cg.refl _
theorem up_start {l i j : Int} (i0 : 0 ≤ i) (ij : i < j) (jl : j ≤ l) : at0 (at0 (upRows l) i) (j - 1 - i) = 0 := by
  unfold at0 upRows
  rw [List.getD_eq_getElem?_getD, List.getD_eq_getElem?_getD, List.getElem?_map, List.getElem?_range (by omega)]
  show ((List.replicate (l - ((i.toNat : Nat) : Int)).toNat (0 : Int))[(j - 1 - i).toNat]?).getD default = 0
  rw [List.getElem?_replicate]
  rw [if_pos (by omega)]; rfl
theorem sum_range_one {g : Nat → Int} {n k : Nat} (h : k < n) (hz : ∀ i, i < n → i ≠ k → g i = 0) : ((List.range n).map g).sum = g k := by
  induction n with
  | zero => omega
  | succ n ih =>
    rw [List.range_succ, List.map_append, List.sum_append, List.map_cons, List.map_nil, List.sum_cons, List.sum_nil, Int.add_zero]
    by_cases e : k = n
    · subst e
      have : ((List.range k).map g).sum = 0 := by
        have : ∀ m, m ≤ k → ((List.range m).map g).sum = 0 := by
          intro m
          induction m with
          | zero => intro _; rfl
          | succ m im =>
            intro hm
            rw [List.range_succ, List.map_append, List.sum_append, im (by omega), List.map_cons, List.map_nil, List.sum_cons, List.sum_nil, hz m (by omega) (by omega)]; rfl
        exact this k (Nat.le_refl _)
      rw [this]; omega
    · rw [ih (by omega) fun i hi hk => hz i (by omega) hk, hz n (by omega) (by omega)]; omega
theorem sum_range_zero {g : Nat → Int} : ∀ n : Nat, (∀ i, i < n → g i = 0) → ((List.range n).map g).sum = 0
  | 0, _ => rfl
  | n + 1, h => by
    rw [List.range_succ, List.map_append, List.sum_append, sum_range_zero n fun i hi => h i (by omega), List.map_cons, List.map_nil, List.sum_cons, List.sum_nil, h n (by omega)]; rfl
theorem sum_range_add (f g : Nat → Int) : ∀ n : Nat, ((List.range n).map fun i => f i + g i).sum = ((List.range n).map f).sum + ((List.range n).map g).sum
  | 0 => rfl
  | n + 1 => by
    rw [List.range_succ]
    simp only [List.map_append, List.sum_append, List.map_cons, List.map_nil, List.sum_cons, List.sum_nil, Int.add_zero]
    rw [sum_range_add f g n]; omega
theorem sum_range_cg {p : Int} {f g : Nat → Int} : ∀ n : Nat, (∀ i, i < n → Cg p (f i) (g i)) → Cg p ((List.range n).map f).sum ((List.range n).map g).sum
  | 0, _ => rfl
  | n + 1, h => by
    rw [List.range_succ]
    simp only [List.map_append, List.sum_append, List.map_cons, List.map_nil, List.sum_cons, List.sum_nil, Int.add_zero]
    exact (sum_range_cg n fun i hi => h i (by omega)).add (h n (by omega))
theorem col_sum {w : Ar → Int} {f : Int → Int} {j : Nat} : ∀ (as : List Ar), (∀ a ∈ as, 0 ≤ a.i ∧ a.i < a.j) →
    ((List.range (j + 1)).map fun (i : Nat) => f i * cellW (as.map fun a => (a, w a)) i ((j : Int) + 1)).sum = inW w f as ((j : Int) + 1)
  | [], _ => by
    rw [inW_nil]
    exact sum_range_zero _ fun i _ => by unfold cellW; simp
  | a :: as, h => by
    rw [inW_cons, ← col_sum as fun b m => h b (List.mem_cons_of_mem _ m)]
    have hc : ∀ i : Nat, f i * cellW ((a :: as).map fun a => (a, w a)) i ((j : Int) + 1) = f i * (if a.i = i ∧ a.j = (j : Int) + 1 then w a else 0) + f i * cellW (as.map fun a => (a, w a)) i ((j : Int) + 1) := by
      intro i
      unfold cellW
      rw [List.map_cons, List.map_cons, List.sum_cons, Int.mul_add]
    simp only [hc]
    rw [sum_range_add]
    congr 1
    have h1 := h a List.mem_cons_self
    by_cases e : a.j = (j : Int) + 1
    · rw [if_pos e, sum_range_one (k := a.i.toNat) (by omega)]
      · rw [if_pos ⟨by omega, e⟩, show ((a.i.toNat : Nat) : Int) = a.i by omega]
      · intro i hi hk
        rw [if_neg (fun z => hk (by omega)), Int.mul_zero]
    · rw [if_neg e]
      exact sum_range_zero _ fun i _ => by rw [if_neg (fun z => e z.2), Int.mul_zero]
theorem det_keep (p : Int) (u : List (List Int)) : ∀ (js : List Nat) (s : List Int) (i : Nat), i < s.length → at0 (js.foldl (detStep p u) s) (i : Int) = at0 s (i : Int)
  | [], _, _, _ => rfl
  | j :: js, s, i, h => by
    rw [List.foldl_cons, det_keep p u js _ i (by unfold detStep; simp; omega)]
    unfold detStep at0
    simp only [Int.toNat_natCast, List.getD_eq_getElem?_getD]
    rw [List.getElem?_append_left h]
theorem det_cg {p l : Int} {u : List (List Int)} {w : Ar → Int} {f : Int → Int} {as : List Ar} (hu : ∀ i j : Int, 0 ≤ i → i < j → j ≤ l → Cg p (at0 (at0 u i) (j - 1 - i)) (cellW (as.map fun a => (a, w a)) i j))
    (ha : ∀ a ∈ as, 0 ≤ a.i ∧ a.i < a.j ∧ a.j ≤ l) (f0 : f 0 = 1) (hf : ∀ j, 0 < j → j ≤ l → Cg p (f j) (inW w f as j)) :
    ∀ n : Nat, (n : Int) ≤ l → ((List.range n).foldl (detStep p u) [1]).length = n + 1 ∧ ∀ i : Nat, i ≤ n → Cg p (at0 ((List.range n).foldl (detStep p u) [1]) (i : Int)) (f i)
  | 0, _ => ⟨rfl, fun i hi => by
    have : i = 0 := by omega
    subst this
    show Cg p 1 (f 0)
    rw [f0]; exact Cg.refl _⟩
  | n + 1, hn => by
    obtain ⟨h1, h2⟩ := det_cg hu ha f0 hf n (by omega)
    have hlen := detLen p u (List.range (n + 1)) [1]
    rw [List.length_range] at hlen
    refine ⟨by rw [hlen]; simp; omega, fun i hi => ?_⟩
    rw [List.range_succ, List.foldl_append]
    generalize (List.range n).foldl (detStep p u) [1] = s at h1 h2 ⊢
    by_cases e : i ≤ n
    · rw [det_keep p u [n] s i (by omega)]
      exact h2 i e
    · have : i = n + 1 := by omega
      subst this
      rw [List.foldl_cons, List.foldl_nil]
      have hv : at0 (detStep p u s n) ((n + 1 : Nat) : Int) = ((List.range ((n : Int) + 1).toNat).map fun (i : Nat) => at0 s i * at0 (at0 u i) ((n : Int) - i)).sum % p := by
        unfold detStep
        generalize ((List.range ((n : Int) + 1).toNat).map fun (i : Nat) => at0 s i * at0 (at0 u i) ((n : Int) - i)).sum % p = v
        unfold at0
        simp only [Int.toNat_natCast, List.getD_eq_getElem?_getD]
        rw [List.getElem?_append_right (by omega), h1, Nat.sub_self]; rfl
      rw [hv]
      refine (Cg.emod _).trans ?_
      rw [show ((n : Int) + 1).toNat = n + 1 by omega]
      refine Cg.trans ?_ ((Cg.of (col_sum (w := w) (f := f) (j := n) as fun a m => by have := ha a m; omega)).trans ?_)
      · refine sum_range_cg _ fun i hi => (h2 i (by omega)).mul ?_
        have := hu i ((n : Int) + 1) (by omega) (by omega) (by omega)
        rwa [show (n : Int) + 1 - 1 - i = n - i by omega] at this
      · exact (hf ((n : Int) + 1) (by omega) (by omega)).symm
theorem upOf_len {p l : Int} {as : List Ar} {ws : List Int} (hl : 0 ≤ l ∧ l ≤ 1000) : ((upOf p l as ws).length : Int) = l ∧ ∀ i : Nat, (i : Int) < (upOf p l as ws).length → ((at0 (upOf p l as ws) (i : Int)).length : Int) = l - i := upInv _ _ (upRows_len hl)
theorem zip_map_self {α β : Type} (g : α → β) : ∀ l : List α, l.zip (l.map g) = l.map fun a => (a, g a)
  | [] => rfl
  | a :: l => by rw [List.map_cons, List.zip_cons_cons, zip_map_self g l]; rfl
theorem det_is {p l : Int} {f : Int → Int} {as : List Ar} {it : List Int} (hp : 1 < p) (hl : 0 ≤ l ∧ l ≤ 1000) (ha : ∀ a ∈ as, 0 ≤ a.i ∧ a.i < a.j ∧ a.j ≤ l) (hk : ∀ a ∈ as, -1 ≤ a.k)
    (f0 : f 0 = 1) (hf : ∀ j, 0 < j → j ≤ l → Cg p (f j) (inW (fun a => a.c * itV it a.k) f as j)) (hr : 0 ≤ f l ∧ f l < p) :
    lst0 (detRow p (upOf p l as (as.map fun a => wgt p a it))) = f l := by
  obtain ⟨h1, _⟩ := upOf_len (p := p) (as := as) (ws := as.map fun a => wgt p a it) hl
  have hu : ∀ i j : Int, 0 ≤ i → i < j → j ≤ l → Cg p (at0 (at0 (upOf p l as (as.map fun a => wgt p a it)) i) (j - 1 - i)) (cellW (as.map fun a => (a, wgt p a it)) i j) := by
    intro i j i0 ij jl
    refine (up_cell (as.zip (as.map fun a => wgt p a it)) (upRows l) (upRows_len hl) (fun q m => ha _ (List.of_mem_zip m).1) i j i0 ij jl).trans ?_
    rw [up_start i0 ij jl, Int.zero_add, zip_map_self]
    exact Cg.refl _
  obtain ⟨h2, h3⟩ := det_cg (f := f) hu ha f0 (fun j j0 jl => (hf j j0 jl).trans (inW_cg fun a m _ => ⟨(wgt_cg (hk a m)).symm, Cg.refl _⟩)) l.toNat (by omega)
  have e : detRow p (upOf p l as (as.map fun a => wgt p a it)) = (List.range l.toNat).foldl (detStep p (upOf p l as (as.map fun a => wgt p a it))) [1] := by
    unfold detRow; rw [show (upOf p l as (as.map fun a => wgt p a it)).length = l.toNat by omega]
  generalize upOf p l as (as.map fun a => wgt p a it) = u at *
  rw [e]
  have hx : lst0 ((List.range l.toNat).foldl (detStep p u) [1]) = at0 ((List.range l.toNat).foldl (detStep p u) [1]) ((l.toNat : Nat) : Int) := by
    unfold lst0 at0; rw [h2, Nat.add_sub_cancel, Int.toNat_natCast]
  rw [hx]
  have h4 := h3 l.toNat (Nat.le_refl _)
  rw [show ((l.toNat : Nat) : Int) = l by omega] at h4 ⊢
  refine cg_eq h4 ?_ hr
  have hrng : ∀ (js : List Nat) (s : List Int), (∀ x ∈ s, 0 ≤ x ∧ x < p) → ∀ x ∈ js.foldl (detStep p u) s, 0 ≤ x ∧ x < p := by
    intro js
    induction js with
    | nil => intro s h; exact h
    | cons j js ih =>
      intro s h
      rw [List.foldl_cons]
      refine ih _ fun x hx => ?_
      unfold detStep at hx
      rcases List.mem_append.mp hx with hx | hx
      · exact h x hx
      · rw [List.mem_singleton.mp hx]; exact ⟨Int.emod_nonneg _ (by omega), Int.emod_lt_of_pos _ (by omega)⟩
  exact hrng _ _ (fun x hx => by rw [List.mem_singleton.mp hx]; omega) _ (at0_mem' (by rw [h2]; omega))
def sameK (a b : Ar) : Bool := decide (a.i = b.i ∧ a.j = b.j ∧ a.k = b.k)
def getC (s : List Ar) (a : Ar) : Int := match s.find? (sameK a) with
  | some b => b.c
  | none => 0
def putAr (p : Int) (s : List Ar) (a : Ar) : List Ar :=
  if s.any (sameK a) = true then s.map (fun b => if sameK a b = true then ⟨b.i, b.j, b.k, (getC s a + a.c) % p⟩ else b) else s ++ [⟨a.i, a.j, a.k, (getC s a + a.c) % p⟩]
def le4 (a b : Ar) : Bool := if a.i = b.i then if a.j = b.j then if a.k = b.k then decide (a.c ≤ b.c) else decide (a.k ≤ b.k) else decide (a.j ≤ b.j) else decide (a.i ≤ b.i)
def kept (p : Int) (as : List Ar) : List Ar := (as.foldl (putAr p) []).filter fun a => decide (a.c ≠ 0)
def putTog (p : Int) (as : List Ar) : List Ar := (kept p as).mergeSort le4
theorem sameK_iff {a b : Ar} : sameK a b = true ↔ a.i = b.i ∧ a.j = b.j ∧ a.k = b.k := by unfold sameK; rw [decide_eq_true_eq]
def KNd (s : List Ar) : Prop := s.Pairwise fun a b => sameK a b = false
theorem putAr_nd {p : Int} {s : List Ar} {a : Ar} (h : KNd s) : KNd (putAr p s a) := by
  unfold putAr KNd
  split
  · rename_i hs
    rw [List.pairwise_map]
    refine h.imp ?_
    intro b c hbc
    have e : ∀ (x : Ar) (v : Int), sameK (if sameK a x = true then ⟨x.i, x.j, x.k, v⟩ else x) = sameK x := by
      intro x v
      split
      · rfl
      · rfl
    have e2 : ∀ (x y : Ar) (v : Int), sameK x (if sameK a y = true then ⟨y.i, y.j, y.k, v⟩ else y) = sameK x y := by
      intro x y v
      split
      · rfl
      · rfl
    rw [e, e2]; exact hbc
  · rename_i hs
    rw [List.pairwise_append]
    refine ⟨h, List.pairwise_singleton _ _, fun b hb c hc => ?_⟩
    rw [List.mem_singleton.mp hc]
    have : sameK a b = false := by
      cases q : sameK a b with
      | false => rfl
      | true => exact absurd (List.any_eq_true.mpr ⟨b, hb, q⟩) hs
    cases q : sameK b ⟨a.i, a.j, a.k, (getC s a + a.c) % p⟩ with
    | false => rfl
    | true =>
      obtain ⟨h1, h2, h3⟩ := sameK_iff.mp q
      have hb : sameK a b = true := sameK_iff.mpr ⟨h1.symm, h2.symm, h3.symm⟩
      rw [this] at hb; cases hb
theorem fold_nd {p : Int} : ∀ (as s : List Ar), KNd s → KNd (as.foldl (putAr p) s)
  | [], _, h => h
  | a :: as, s, h => fold_nd as _ (putAr_nd h)
theorem putAr_inW {p : Int} {g : Int → Int} {f : Int → Int} {s : List Ar} {a : Ar} (h : KNd s) (j : Int) :
    Cg p (inW (fun a => a.c * g a.k) f (putAr p s a) j) (inW (fun a => a.c * g a.k) f s j + inW (fun a => a.c * g a.k) f [a] j) := by
  unfold putAr
  split
  · rename_i hs
    obtain ⟨b, hb, hab⟩ := List.any_eq_true.mp hs
    clear hs
    have hg : getC s a = b.c := by
      unfold getC
      induction s with
      | nil => cases hb
      | cons x s ih =>
        rw [List.find?_cons]
        by_cases hx : sameK a x = true
        · rw [hx]
          rcases List.mem_cons.mp hb with rfl | hb
          · rfl
          · have := List.rel_of_pairwise_cons h hb
            obtain ⟨q1, q2, q3⟩ := sameK_iff.mp hx
            obtain ⟨r1, r2, r3⟩ := sameK_iff.mp hab
            rw [sameK_iff.mpr ⟨q1.symm.trans r1, q2.symm.trans r2, q3.symm.trans r3⟩] at this; cases this
        · have hx' : sameK a x = false := by simpa using hx
          rw [hx']
          rcases List.mem_cons.mp hb with rfl | hb
          · exact absurd hab hx
          · exact ih (List.Pairwise.of_cons h) hb
    rw [hg]
    generalize hv : (b.c + a.c) % p = v
    have hvc : Cg p v (b.c + a.c) := by rw [← hv]; exact Cg.emod _
    obtain ⟨r1, r2, r3⟩ := sameK_iff.mp hab
    clear hg hv
    induction s with
    | nil => cases hb
    | cons x s ih =>
      rw [List.map_cons, inW_cons, inW_cons]
      by_cases hx : sameK a x = true
      · -- x is b: nothing else changes
        rw [if_pos hx]
        have hrest : ∀ y ∈ s, sameK a y = false := by
          intro y hy
          have := List.rel_of_pairwise_cons h hy
          cases q : sameK a y with
          | false => rfl
          | true =>
            obtain ⟨q1, q2, q3⟩ := sameK_iff.mp hx
            obtain ⟨t1, t2, t3⟩ := sameK_iff.mp q
            rw [sameK_iff.mpr ⟨q1.symm.trans t1, q2.symm.trans t2, q3.symm.trans t3⟩] at this; cases this
        have hxb : x = b := by
          rcases List.mem_cons.mp hb with rfl | hb
          · rfl
          · rw [hrest b hb] at hab; cases hab
        subst hxb
        have hm : s.map (fun b => if sameK a b = true then ⟨b.i, b.j, b.k, v⟩ else b) = s := by
          conv => rhs; rw [← List.map_id s]
          refine List.map_congr_left fun y hy => ?_
          rw [hrest y hy]; rfl
        rw [hm]
        show Cg p ((if x.j = j then f x.i * (v * g x.k) else 0) + _) _
        rw [inW_cons, inW_nil, r1, r2, r3]
        by_cases e : x.j = j
        · rw [if_pos e, if_pos e, if_pos e]
          have : f x.i * (x.c * g x.k) + inW (fun a => a.c * g a.k) f s j + (f x.i * (a.c * g x.k) + 0) = f x.i * ((x.c + a.c) * g x.k) + inW (fun a => a.c * g a.k) f s j := by
            rw [Int.add_mul, Int.mul_add]; omega
          rw [this]
          exact Cg.add (Cg.mul (Cg.refl _) (Cg.mul hvc (Cg.refl _))) (Cg.refl _)
        · rw [if_neg e, if_neg e, if_neg e]
          exact Cg.of (by omega)
      · have hb' : b ∈ s := by
          rcases List.mem_cons.mp hb with rfl | hb
          · exact absurd hab hx
          · exact hb
        rw [if_neg hx]
        have := ih (List.Pairwise.of_cons h) hb'
        rw [Int.add_assoc]
        exact Cg.add (Cg.refl _) this
  · rename_i hs
    rw [inW_append]
    refine Cg.add (Cg.refl _) ?_
    have hg : getC s a = 0 := by
      unfold getC
      rw [List.find?_eq_none.mpr fun b hb q => hs (List.any_eq_true.mpr ⟨b, hb, q⟩)]
    rw [hg, Int.zero_add, inW_cons, inW_cons, inW_nil]
    refine Cg.add ?_ (Cg.refl _)
    show Cg p (if a.j = j then f a.i * (a.c % p * g a.k) else 0) _
    by_cases e : a.j = j
    · rw [if_pos e, if_pos e]
      exact Cg.mul (Cg.refl _) (Cg.mul (Cg.emod _) (Cg.refl _))
    · rw [if_neg e, if_neg e]; exact Cg.refl _
theorem fold_inW {p : Int} {g : Int → Int} {f : Int → Int} (j : Int) : ∀ (as s : List Ar), KNd s → Cg p (inW (fun a => a.c * g a.k) f (as.foldl (putAr p) s) j) (inW (fun a => a.c * g a.k) f s j + inW (fun a => a.c * g a.k) f as j)
  | [], s, _ => by rw [List.foldl_nil, inW_nil, Int.add_zero]; exact Cg.refl _
  | a :: as, s, h => by
    rw [List.foldl_cons]
    refine (fold_inW j as _ (putAr_nd h)).trans ?_
    have : inW (fun a => a.c * g a.k) f (a :: as) j = inW (fun a => a.c * g a.k) f [a] j + inW (fun a => a.c * g a.k) f as j := by rw [inW_cons, inW_cons, inW_nil]; omega
    rw [this, ← Int.add_assoc]
    exact Cg.add (putAr_inW h j) (Cg.refl _)
theorem filt_inW {g : Int → Int} {f : Int → Int} (j : Int) : ∀ s : List Ar, inW (fun a => a.c * g a.k) f (s.filter fun a => decide (a.c ≠ 0)) j = inW (fun a => a.c * g a.k) f s j
  | [] => rfl
  | a :: s => by
    rw [List.filter_cons]
    by_cases e : a.c = 0
    · have : decide (a.c ≠ 0) = false := by simp [e]
      rw [this, inW_cons]
      simp only [Bool.false_eq_true, if_false]
      rw [filt_inW j s, e, Int.zero_mul, Int.mul_zero]
      split <;> omega
    · have : decide (a.c ≠ 0) = true := by simp [e]
      rw [this]
      simp only [if_true]
      rw [inW_cons, inW_cons, filt_inW j s]
theorem le4_trans (a b c : Ar) (h1 : le4 a b = true) (h2 : le4 b c = true) : le4 a c = true := by
  unfold le4 at *
  split at h1 <;> split at h2 <;> (try split at h1) <;> (try split at h2) <;> (try split at h1) <;> (try split at h2) <;> simp only [decide_eq_true_eq] at h1 h2 <;> (repeat' split) <;> simp only [decide_eq_true_eq] <;> omega
theorem le4_total (a b : Ar) : (le4 a b || le4 b a) = true := by
  unfold le4
  rw [Bool.or_eq_true]
  by_cases h1 : a.i = b.i
  · rw [if_pos h1, if_pos h1.symm]
    by_cases h2 : a.j = b.j
    · rw [if_pos h2, if_pos h2.symm]
      by_cases h3 : a.k = b.k
      · rw [if_pos h3, if_pos h3.symm]; simp only [decide_eq_true_eq]; omega
      · rw [if_neg h3, if_neg (fun z => h3 z.symm)]; simp only [decide_eq_true_eq]; omega
    · rw [if_neg h2, if_neg (fun z => h2 z.symm)]; simp only [decide_eq_true_eq]; omega
  · rw [if_neg h1, if_neg (fun z => h1 z.symm)]; simp only [decide_eq_true_eq]; omega
theorem putTog_perm {p : Int} {as : List Ar} : (putTog p as).Perm (kept p as) := List.mergeSort_perm _ _
theorem putTog_inW {p : Int} {g : Int → Int} {f : Int → Int} {as : List Ar} (j : Int) : Cg p (inW (fun a => a.c * g a.k) f (putTog p as) j) (inW (fun a => a.c * g a.k) f as j) := by
  rw [inW_perm putTog_perm]
  unfold kept
  rw [filt_inW]
  refine (fold_inW j as [] List.Pairwise.nil).trans ?_
  rw [inW_nil, Int.zero_add]; exact Cg.refl _
theorem kept_nd {p : Int} {as : List Ar} : KNd (kept p as) := (fold_nd as [] List.Pairwise.nil).filter _
theorem putTog_nd {p : Int} {as : List Ar} : KNd (putTog p as) := by
  have := kept_nd (p := p) (as := as)
  refine (putTog_perm.pairwise_iff ?_).mpr this
  intro x y h
  cases q : sameK y x with
  | false => rfl
  | true =>
    obtain ⟨q1, q2, q3⟩ := sameK_iff.mp q
    rw [sameK_iff.mpr ⟨q1.symm, q2.symm, q3.symm⟩] at h; cases h
theorem putTog_sorted {p : Int} {as : List Ar} : (putTog p as).Pairwise fun a b => le4 a b = true := List.pairwise_mergeSort le4_trans le4_total _
theorem fold_from {p : Int} {Q : Ar → Prop} (hQ : ∀ a c, Q a → Q ⟨a.i, a.j, a.k, c⟩) : ∀ (as s : List Ar), (∀ a ∈ as, Q a) → (∀ a ∈ s, Q a) → ∀ a ∈ as.foldl (putAr p) s, Q a
  | [], _, _, h => h
  | a :: as, s, ha, h => by
    rw [List.foldl_cons]
    refine fold_from hQ as _ (fun b hb => ha b (List.mem_cons_of_mem _ hb)) fun b hb => ?_
    unfold putAr at hb
    split at hb
    · obtain ⟨c, hc, rfl⟩ := List.mem_map.mp hb
      split
      · exact hQ c _ (h c hc)
      · exact h c hc
    · rcases List.mem_append.mp hb with hb | hb
      · exact h b hb
      · rw [List.mem_singleton.mp hb]; exact hQ a _ (ha a List.mem_cons_self)
theorem fold_rng {p : Int} (hp : 0 < p) : ∀ (as s : List Ar), (∀ a ∈ s, 0 ≤ a.c ∧ a.c < p) → ∀ a ∈ as.foldl (putAr p) s, 0 ≤ a.c ∧ a.c < p
  | [], _, h => h
  | a :: as, s, h => by
    rw [List.foldl_cons]
    refine fold_rng hp as _ fun b hb => ?_
    unfold putAr at hb
    split at hb
    · obtain ⟨c, hc, rfl⟩ := List.mem_map.mp hb
      split
      · exact ⟨Int.emod_nonneg _ (by omega), Int.emod_lt_of_pos _ hp⟩
      · exact h c hc
    · rcases List.mem_append.mp hb with hb | hb
      · exact h b hb
      · rw [List.mem_singleton.mp hb]; exact ⟨Int.emod_nonneg _ (by omega), Int.emod_lt_of_pos _ hp⟩
theorem fold_len {p : Int} : ∀ (as s : List Ar), (as.foldl (putAr p) s).length ≤ s.length + as.length
  | [], _ => Nat.le_refl _
  | a :: as, s => by
    rw [List.foldl_cons]
    have := fold_len (p := p) as (putAr p s a)
    have h2 : (putAr p s a).length ≤ s.length + 1 := by
      unfold putAr
      split
      · rw [List.length_map]; omega
      · rw [List.length_append]; simp
    rw [List.length_cons]; omega
theorem putTog_len {p : Int} {as : List Ar} : (putTog p as).length ≤ as.length := by
  rw [putTog_perm.length_eq]
  refine Nat.le_trans (List.length_filter_le _ _) ?_
  have := fold_len (p := p) as []
  simpa using this
theorem putTog_from {p : Int} {Q : Ar → Prop} (hp : 0 < p) (hQ : ∀ a c, Q a → Q ⟨a.i, a.j, a.k, c⟩) {as : List Ar} (ha : ∀ a ∈ as, Q a) : ∀ a ∈ putTog p as, Q a ∧ 1 ≤ a.c ∧ a.c < p := by
  intro a m
  have m2 := (putTog_perm.mem_iff).mp m
  obtain ⟨m3, hc⟩ := List.mem_filter.mp m2
  have h1 := fold_from (p := p) hQ as [] ha (fun _ q => by cases q) a m3
  have h2 := fold_rng hp as [] (fun _ q => by cases q) a m3
  simp only [decide_eq_true_eq] at hc
  exact ⟨h1, by omega, h2.2⟩
theorem at0_nat {α : Type} [Inhabited α] {l : List α} {i : Nat} (h : i < l.length) : at0 l (i : Int) = l[i] := by
  unfold at0
  rw [Int.toNat_natCast, List.getD_eq_getElem?_getD, List.getElem?_eq_getElem h]; rfl
theorem putTog_order {p : Int} {as : List Ar} (j : Nat) (h : j + 1 < (putTog p as).length) : le3 (at0 (putTog p as) ((j : Int) + 1)).i (at0 (putTog p as) ((j : Int) + 1)).j (at0 (putTog p as) ((j : Int) + 1)).k (at0 (putTog p as) j).i (at0 (putTog p as) j).j (at0 (putTog p as) j).k = false := by
  have h1 := List.pairwise_iff_getElem.mp (putTog_sorted (p := p) (as := as)) j (j + 1) (by omega) h (by omega)
  have h2 := List.pairwise_iff_getElem.mp (putTog_nd (p := p) (as := as)) j (j + 1) (by omega) h (by omega)
  rw [show (j : Int) + 1 = ((j + 1 : Nat) : Int) by omega, at0_nat h, at0_nat (by omega)]
  generalize (putTog p as)[j + 1] = b at *
  generalize (putTog p as)[j] = a at *
  have h3 : ¬ (a.i = b.i ∧ a.j = b.j ∧ a.k = b.k) := fun z => by rw [sameK_iff.mpr z] at h2; cases h2
  unfold le4 at h1
  unfold le3
  (repeat' split) <;> (repeat' split at h1) <;> simp only [decide_eq_true_eq, decide_eq_false_iff_not] at * <;> first | omega | (exfalso; omega)
theorem putTog_asc {p : Int} {as : List Ar} : (putTog p as).Pairwise fun a b => a.i ≤ b.i := by
  refine putTog_sorted.imp fun {a b} h => ?_
  unfold le4 at h
  by_cases e : a.i = b.i
  · omega
  · rw [if_neg e] at h; simpa using h
end K87
end
section
set_option Elab.async false
set_option linter.all false
set_option maxRecDepth 100000
set_option maxHeartbeats 4000000
namespace K87
open DL
def plBeh (q : Int) (tw : List Tn) (first last : Int) (t : Nat) : List (Int × Int) :=
  if t = 0 then [(first, 0)] else if t = tw.length then [(last, places q tw)] else (List.range q.toNat).map fun (x : Nat) => ((x : Int), 1 + q * ((t : Int) - 1) + x)
def dLook (l : List (Int × Int)) (x : Int) : Option Int := (l.find? fun e => decide (e.1 = x)).map (·.2)
def taZ (t : Tn) (beh : List (Int × Int)) (e : Int × Int) : List Ar := match dLook beh (at0 t.z e.1) with
  | some y => [⟨e.2, y, -1, 1⟩, ⟨e.2, y, t.k, -1⟩]
  | none => []
def taO (t : Tn) (beh : List (Int × Int)) (e : Int × Int) : List Ar := match dLook beh (at0 t.o e.1) with
  | some y => [⟨e.2, y, t.k, 1⟩]
  | none => []
def taStep (t : Tn) (beh : List (Int × Int)) (acc : List Ar) (e : Int × Int) : List Ar := acc ++ taZ t beh e ++ taO t beh e
def turnAr (t : Tn) (here beh : List (Int × Int)) : List Ar := here.foldl (taStep t beh) []
def waStep (q : Int) (tw : List Tn) (first last : Int) (acc : List Ar) (e : Tn × Nat) : List Ar := acc ++ turnAr e.1 (plBeh q tw first last e.2) (plBeh q tw first last (e.2 + 1))
def wordAr (q : Int) (tw : List Tn) (first last : Int) : List Ar := tw.zipIdx.foldl (waStep q tw first last) []
def wordPr (p q : Int) (tw : List Tn) (first last : Int) : List Ar := if tw = [] then (if first = last then [⟨0, 1, -1, 1⟩] else []) else putTog p (wordAr q tw first last)
theorem turnAr_eq (t : Tn) (here beh : List (Int × Int)) : turnAr t here beh = here.flatMap fun e => taZ t beh e ++ taO t beh e := by
  have : ∀ (l : List (Int × Int)) (acc : List Ar), l.foldl (taStep t beh) acc = acc ++ l.flatMap fun e => taZ t beh e ++ taO t beh e := by
    intro l
    induction l with
    | nil => intro acc; simp
    | cons e l ih => intro acc; rw [List.foldl_cons, ih]; unfold taStep; simp [List.append_assoc]
  unfold turnAr
  rw [this, List.nil_append]
theorem wordAr_eq (q : Int) (tw : List Tn) (first last : Int) : wordAr q tw first last = tw.zipIdx.flatMap fun e => turnAr e.1 (plBeh q tw first last e.2) (plBeh q tw first last (e.2 + 1)) := by
  have : ∀ (l : List (Tn × Nat)) (acc : List Ar), l.foldl (waStep q tw first last) acc = acc ++ l.flatMap fun e => turnAr e.1 (plBeh q tw first last e.2) (plBeh q tw first last (e.2 + 1)) := by
    intro l
    induction l with
    | nil => intro acc; simp
    | cons e l ih => intro acc; rw [List.foldl_cons, ih]; unfold waStep; simp [List.append_assoc]
  unfold wordAr
  rw [this, List.nil_append]
theorem inW_flatMap {α : Type} (w : Ar → Int) (f : Int → Int) (j : Int) (g : α → List Ar) : ∀ l : List α, inW w f (l.flatMap g) j = (l.map fun e => inW w f (g e) j).sum
  | [] => rfl
  | e :: l => by rw [List.flatMap_cons, inW_append, List.map_cons, List.sum_cons, inW_flatMap w f j g l]
theorem ta_inW {t : Tn} {beh : List (Int × Int)} {e : Int × Int} {it : List Int} {f : Int → Int} {j : Int} (hk : 0 ≤ t.k) (hb : at0 it t.k = 0 ∨ at0 it t.k = 1) :
    inW (fun a => a.c * itV it a.k) f (taZ t beh e ++ taO t beh e) j = if dLook beh (at0 (own it t) e.1) = some j then f e.2 else 0 := by
  have hv : itV it t.k = at0 it t.k := by unfold itV; rw [if_neg (by omega)]
  have hm : itV it (-1) = 1 := by unfold itV; rw [if_pos (by decide)]
  have hz : inW (fun a => a.c * itV it a.k) f (taZ t beh e) j = if dLook beh (at0 t.z e.1) = some j then f e.2 * (1 - at0 it t.k) else 0 := by
    unfold taZ
    cases q : dLook beh (at0 t.z e.1) with
    | none => simp [inW_nil]
    | some y =>
      show inW _ f [⟨e.2, y, -1, 1⟩, ⟨e.2, y, t.k, -1⟩] j = _
      rw [inW_cons, inW_cons, inW_nil]
      show (if y = j then f e.2 * (1 * itV it (-1)) else 0) + ((if y = j then f e.2 * (-1 * itV it t.k) else 0) + 0) = _
      rw [hv, hm]
      by_cases h : y = j
      · rw [if_pos h, if_pos h, if_pos (by rw [h]), ← Int.add_assoc, ← Int.mul_add, Int.add_zero]
        congr 1; omega
      · rw [if_neg h, if_neg h, if_neg (by simpa using h)]; rfl
  have ho : inW (fun a => a.c * itV it a.k) f (taO t beh e) j = if dLook beh (at0 t.o e.1) = some j then f e.2 * at0 it t.k else 0 := by
    unfold taO
    cases q : dLook beh (at0 t.o e.1) with
    | none => simp [inW_nil]
    | some y =>
      show inW _ f [⟨e.2, y, t.k, 1⟩] j = _
      rw [inW_cons, inW_nil]
      show (if y = j then f e.2 * (1 * itV it t.k) else 0) + 0 = _
      rw [hv, Int.one_mul, Int.add_zero]
      by_cases h : y = j
      · rw [if_pos h, if_pos (by rw [h])]
      · rw [if_neg h, if_neg (by simpa using h)]
  rw [inW_append, hz, ho]
  unfold own
  rcases hb with h | h
  · rw [h, if_neg (show ¬ ((0 : Int) = 1) by decide)]; simp
  · rw [h, if_pos rfl]; simp
theorem one_key {g : Int → Int} {s : Int} {F : Int → Int} : ∀ {l : List (Int × Int)}, (l.map (·.1)).Nodup → (∃ m, (s, m) ∈ l) → (∀ e ∈ l, F e.2 = if s = e.1 then 1 else 0) → (l.map fun e => if g e.1 = 1 then F e.2 else 0).sum = if g s = 1 then 1 else 0
  | [], _, ⟨_, h⟩, _ => by cases h
  | e :: l, nd, hm, hF => by
    rw [List.map_cons, List.sum_cons]
    rw [List.map_cons, List.nodup_cons] at nd
    by_cases h : s = e.1
    · have hz : (l.map fun e => if g e.1 = 1 then F e.2 else 0).sum = 0 := by
        have : ∀ l' : List (Int × Int), (∀ e' ∈ l', e' ∈ l) → (l'.map fun e => if g e.1 = 1 then F e.2 else 0).sum = 0 := by
          intro l'
          induction l' with
          | nil => intro _; rfl
          | cons e' l' ih =>
            intro hs
            rw [List.map_cons, List.sum_cons, ih fun x hx => hs x (List.mem_cons_of_mem _ hx)]
            have he := hs e' List.mem_cons_self
            have : ¬ s = e'.1 := fun z => nd.1 (by rw [← h, z]; exact List.mem_map_of_mem he)
            rw [hF e' (List.mem_cons_of_mem _ he), if_neg this]; simp
        exact this l fun _ h => h
      rw [hz, hF e List.mem_cons_self, if_pos h, h]; simp
    · obtain ⟨m, hm⟩ := hm
      have hm' : (s, m) ∈ l := by
        rcases List.mem_cons.mp hm with q | q
        · exact absurd (congrArg (·.1) q) h
        · exact q
      rw [one_key nd.2 ⟨m, hm'⟩ fun x hx => hF x (List.mem_cons_of_mem _ hx), hF e List.mem_cons_self, if_neg h]; simp
theorem plBeh_nd {q : Int} {tw : List Tn} {first last : Int} (t : Nat) : ((plBeh q tw first last t).map (·.1)).Nodup := by
  unfold plBeh
  split
  · simp
  · split
    · simp
    · rw [List.map_map]
      have : ∀ n : Nat, ((List.range n).map fun (x : Nat) => (x : Int)).Nodup := by
        intro n
        rw [List.nodup_iff_pairwise_ne, List.pairwise_map]
        exact (List.nodup_iff_pairwise_ne.mp List.nodup_range).imp fun h z => h (by omega)
      exact this _
theorem dLook_range {q : Int} {c s : Int} (hs : 0 ≤ s ∧ s < q) : dLook ((List.range q.toNat).map fun (x : Nat) => ((x : Int), c + (x : Int))) s = some (c + s) := by
  unfold dLook
  have : ((List.range q.toNat).map fun (x : Nat) => ((x : Int), c + (x : Int))).find? (fun e => decide (e.1 = s)) = some (s, c + s) := by
    rw [List.find?_map]
    have h2 : (List.range q.toNat).find? ((fun e : Int × Int => decide (e.1 = s)) ∘ fun (x : Nat) => ((x : Int), c + (x : Int))) = some s.toNat := by
      rw [List.find?_range_eq_some]
      refine ⟨by simp; omega, by simp; omega, fun j hj => by simp; omega⟩
    rw [h2]
    simp only [Option.map_some, Option.some.injEq, Prod.mk.injEq]
    constructor <;> omega
  rw [this]; rfl
def plVal (q : Int) (tw : List Tn) (b : List Int) (x last : Int) (j : Int) : Int :=
  if j = 0 then 1 else if j = places q tw then (if at0 (states tw b x) tw.length = last then 1 else 0) else if at0 (states tw b x) ((j - 1) / q + 1) = (j - 1) % q then 1 else 0
theorem places_pos {q : Int} {tw : List Tn} (hq : 0 < q) : 1 ≤ places q tw := by
  unfold places
  split
  · omega
  · have : 0 ≤ q * ((tw.length : Int) - 1) := Int.mul_nonneg (by omega) (by omega)
    omega
theorem places_eq {q : Int} {tw : List Tn} (h : 1 ≤ tw.length) : places q tw = 1 + q * ((tw.length : Int) - 1) := by
  unfold places
  split
  · have : (tw.length : Int) = 1 := by omega
    rw [this]; simp
  · rfl
theorem mid_lt {q : Int} {T t : Nat} {s : Int} (hs : 0 ≤ s ∧ s < q) (ht : t + 1 < T) : 1 + q * (t : Int) + s < 1 + q * ((T : Int) - 1) := by
  have h1 : q * ((t : Int) + 1) ≤ q * ((T : Int) - 1) := Int.mul_le_mul_of_nonneg_left (by omega) (by omega)
  rw [Int.mul_add] at h1
  omega
theorem mul_nn {q : Int} {t : Nat} (hq : 0 < q) : 0 ≤ q * (t : Int) := Int.mul_nonneg (by omega) (by omega)
theorem mid_div {q : Int} {t : Nat} {s : Int} (hs : 0 ≤ s ∧ s < q) : (1 + q * (t : Int) + s - 1) / q = t ∧ (1 + q * (t : Int) + s - 1) % q = s := by
  have e : 1 + q * (t : Int) + s - 1 = s + q * t := by omega
  rw [e]
  refine ⟨?_, ?_⟩
  · rw [Int.add_mul_ediv_left _ _ (by omega), Int.ediv_eq_zero_of_lt hs.1 hs.2, Int.zero_add]
  · rw [Int.add_mul_emod_self_left, Int.emod_eq_of_lt hs.1 hs.2]
theorem plVal_here {q : Int} {n : Nat} {tw : List Tn} {b : List Int} {x last : Int} (hx : 0 ≤ x ∧ x < q) (ht : WOk q n tw) {t : Nat} (h : t < tw.length) :
    ∀ e ∈ plBeh q tw x last t, plVal q tw b x last e.2 = if at0 (states tw b x) t = e.1 then 1 else 0 := by
  intro e he
  unfold plBeh at he
  have hq : 0 < q := by omega
  split at he
  · rename_i h0
    subst h0
    rw [List.mem_singleton.mp he]
    unfold plVal
    rw [if_pos rfl, if_pos]
    exact st0
  · rename_i h0
    rw [if_neg (by omega)] at he
    obtain ⟨y, hy, rfl⟩ := List.mem_map.mp he
    have hy2 := List.mem_range.mp hy
    obtain ⟨u, rfl⟩ : ∃ u, t = u + 1 := ⟨t - 1, by omega⟩
    have e1 : ((u + 1 : Nat) : Int) - 1 = (u : Int) := by omega
    simp only [e1]
    have hl := mid_lt (q := q) (T := tw.length) (t := u) (s := (y : Int)) (by omega) (by omega)
    have hn := mul_nn (t := u) hq
    obtain ⟨d1, d2⟩ := mid_div (q := q) (t := u) (s := (y : Int)) (by omega)
    unfold plVal
    rw [places_eq (by omega), if_neg (by omega), if_neg (by omega), d1, d2]
    rfl
theorem here_has {q : Int} {n : Nat} {tw : List Tn} {b : List Int} {x last : Int} (hx : 0 ≤ x ∧ x < q) (ht : WOk q n tw) {t : Nat} (h : t < tw.length) :
    ∃ m, (at0 (states tw b x) t, m) ∈ plBeh q tw x last t := by
  unfold plBeh
  split
  · rename_i h0
    subst h0
    refine ⟨0, List.mem_singleton.mpr ?_⟩
    rw [show at0 (states tw b x) ((0 : Nat) : Int) = x from st0]
  · rw [if_neg (by omega)]
    have hr := sRng (b := b) hx ht (at0 (states tw b x) t) (at0_mem' (by rw [stLen]; omega))
    refine ⟨1 + q * ((t : Int) - 1) + at0 (states tw b x) t, List.mem_map.mpr ⟨(at0 (states tw b x) t).toNat, List.mem_range.mpr (by omega), ?_⟩⟩
    rw [show (((at0 (states tw b x) t).toNat : Nat) : Int) = at0 (states tw b x) t by omega]
theorem turn_val {q : Int} {n : Nat} {tw : List Tn} {b : List Int} {x last : Int} (hx : 0 ≤ x ∧ x < q) (ht : WOk q n tw) (hn : n = b.length) (hb : Bits b) (j : Int) {t : Nat} {u : Tn} (hu : tw[t]? = some u) :
    inW (fun a => a.c * itV b a.k) (plVal q tw b x last) (turnAr u (plBeh q tw x last t) (plBeh q tw x last (t + 1))) j = if dLook (plBeh q tw x last (t + 1)) (at0 (states tw b x) ((t : Int) + 1)) = some j then 1 else 0 := by
  have hlt : t < tw.length := (List.getElem?_eq_some_iff.mp hu).1
  have hmem : u ∈ tw := List.mem_of_getElem? hu
  have hk := ht.k u hmem
  have hbit := hb (at0 b u.k) (at0_mem' (by omega))
  rw [turnAr_eq, inW_flatMap]
  simp only [ta_inW hk.1 hbit]
  have hst : at0 (states tw b x) ((t : Int) + 1) = at0 (own b u) (at0 (states tw b x) t) := by
    have hz : tw.zipIdx = (tw.zipIdx.take t) ++ (u, t) :: (tw.zipIdx.drop (t + 1)) := by
      have h1 : tw.zipIdx[t]? = some (u, t) := by rw [List.getElem?_zipIdx, hu]; simp
      have h2 : t < tw.zipIdx.length := (List.getElem?_eq_some_iff.mp h1).1
      have h3 := (List.getElem?_eq_some_iff.mp h1).2
      rw [← h3, List.getElem_cons_drop, List.take_append_drop]
    exact (stStep hz).2.2
  rw [hst]
  have := one_key (g := fun y => if dLook (plBeh q tw x last (t + 1)) (at0 (own b u) y) = some j then 1 else 0) (s := at0 (states tw b x) t) (F := plVal q tw b x last) (plBeh_nd (q := q) (tw := tw) (first := x) (last := last) t) (here_has hx ht hlt) (plVal_here hx ht hlt)
  have e : ∀ (c : Prop) [Decidable c] (v : Int), (if (if c then (1 : Int) else 0) = 1 then v else 0) = if c then v else 0 := by
    intro c _ v
    by_cases h : c
    · rw [if_pos h, if_pos rfl, if_pos h]
    · rw [if_neg h, if_neg h, if_neg (by decide)]
  simp only [e] at this
  exact this
theorem zipIdx_sum (G : Nat → Int) : ∀ (l : List Tn) (k : Nat), ((l.zipIdx k).map fun e => G e.2).sum = ((List.range l.length).map fun i => G (k + i)).sum
  | [], _ => rfl
  | a :: l, k => by
    rw [List.zipIdx_cons, List.map_cons, List.sum_cons, zipIdx_sum G l (k + 1), List.length_cons, List.range_succ_eq_map, List.map_cons, List.sum_cons, List.map_map]
    congr 1
    congr 1
    refine List.map_congr_left fun i _ => ?_
    show G (k + 1 + i) = G (k + (i + 1))
    congr 1; omega
theorem word_val {q : Int} {n : Nat} {tw : List Tn} {b : List Int} {x last : Int} (hx : 0 ≤ x ∧ x < q) (ht : WOk q n tw) (hn : n = b.length) (hb : Bits b) (hT : 1 ≤ tw.length) (j : Int) (h0 : 0 < j) (hj : j ≤ places q tw) :
    inW (fun a => a.c * itV b a.k) (plVal q tw b x last) (wordAr q tw x last) j = plVal q tw b x last j := by
  have hq : 0 < q := by omega
  rw [wordAr_eq, inW_flatMap]
  have h1 : (tw.zipIdx.map fun e => inW (fun a => a.c * itV b a.k) (plVal q tw b x last) (turnAr e.1 (plBeh q tw x last e.2) (plBeh q tw x last (e.2 + 1))) j) =
      tw.zipIdx.map fun e => (fun t : Nat => if dLook (plBeh q tw x last (t + 1)) (at0 (states tw b x) ((t : Int) + 1)) = some j then (1 : Int) else 0) e.2 := by
    refine List.map_congr_left fun e he => ?_
    exact turn_val hx ht hn hb j (List.mem_zipIdx_iff_getElem?.mp he)
  rw [h1, zipIdx_sum (fun t : Nat => if dLook (plBeh q tw x last (t + 1)) (at0 (states tw b x) ((t : Int) + 1)) = some j then (1 : Int) else 0)]
  simp only [Nat.zero_add]
  have hS : ∀ t : Nat, t < tw.length → 0 ≤ at0 (states tw b x) ((t : Int) + 1) ∧ at0 (states tw b x) ((t : Int) + 1) < q := fun t h => sRng (b := b) hx ht _ (at0_mem' (by rw [stLen]; omega))
  have hmid : ∀ t : Nat, t + 1 < tw.length → dLook (plBeh q tw x last (t + 1)) (at0 (states tw b x) ((t : Int) + 1)) = some (1 + q * (t : Int) + at0 (states tw b x) ((t : Int) + 1)) := by
    intro t h
    unfold plBeh
    rw [if_neg (by omega), if_neg (by omega)]
    have := dLook_range (q := q) (c := 1 + q * (((t + 1 : Nat) : Int) - 1)) (hS t (by omega))
    rw [show ((t + 1 : Nat) : Int) - 1 = (t : Int) by omega] at this ⊢
    exact this
  have hend : dLook (plBeh q tw x last (tw.length - 1 + 1)) (at0 (states tw b x) (((tw.length - 1 : Nat) : Int) + 1)) = if at0 (states tw b x) tw.length = last then some (places q tw) else none := by
    unfold plBeh
    rw [if_neg (by omega), if_pos (by omega), show ((tw.length - 1 : Nat) : Int) + 1 = (tw.length : Int) by omega]
    unfold dLook
    by_cases h : at0 (states tw b x) tw.length = last
    · simp [h]
    · have : ¬ last = at0 (states tw b x) tw.length := fun z => h z.symm
      simp [h, this]
  have hpl := places_eq (q := q) hT
  by_cases hjp : j = places q tw
  · rw [sum_range_one (k := tw.length - 1) (by omega)]
    · have hv : plVal q tw b x last j = if at0 (states tw b x) tw.length = last then 1 else 0 := by
        unfold plVal
        rw [if_neg (by omega), if_pos hjp]
      rw [hend, hv]
      by_cases h : at0 (states tw b x) tw.length = last
      · rw [if_pos h, if_pos h, hjp, if_pos rfl]
      · rw [if_neg h, if_neg h, if_neg (by simp)]
    · intro t h1 h2
      rw [hmid t (by omega)]
      have := mid_lt (q := q) (T := tw.length) (t := t) (hS t (by omega)) (by omega)
      rw [if_neg (by simp only [Option.some.injEq]; omega)]
  · have hm0 : 0 ≤ (j - 1) / q := Int.ediv_nonneg (by omega) (by omega)
    have hm1 : (j - 1) / q < (tw.length : Int) - 1 := by
      refine Int.ediv_lt_of_lt_mul hq ?_
      rw [Int.mul_comm]; omega
    have hr0 := Int.emod_nonneg (j - 1) (show q ≠ 0 by omega)
    have hr1 := Int.emod_lt_of_pos (j - 1) hq
    have hde := Int.mul_ediv_add_emod (j - 1) q
    obtain ⟨t', ht'⟩ : ∃ t' : Nat, (j - 1) / q = t' := ⟨((j - 1) / q).toNat, by omega⟩
    rw [ht'] at hm1 hde
    rw [sum_range_one (k := t') (by omega)]
    · have hv : plVal q tw b x last j = if at0 (states tw b x) ((t' : Int) + 1) = (j - 1) % q then 1 else 0 := by
        unfold plVal
        rw [if_neg (by omega), if_neg hjp, ht']
      rw [hmid t' (by omega), hv]
      by_cases h : at0 (states tw b x) ((t' : Int) + 1) = (j - 1) % q
      · rw [if_pos h, if_pos (by rw [Option.some.injEq]; omega)]
      · rw [if_neg h, if_neg (by rw [Option.some.injEq]; omega)]
    · intro t h1 h2
      by_cases h3 : t + 1 < tw.length
      · rw [hmid t h3, if_neg]
        simp only [Option.some.injEq]
        intro z
        obtain ⟨d1, _⟩ := mid_div (q := q) (t := t) (hS t (by omega))
        rw [z, ht'] at d1
        omega
      · have : t = tw.length - 1 := by omega
        subst this
        rw [hend, if_neg]
        split
        · simp only [Option.some.injEq]; omega
        · simp
def ledTo (b : List Int) (tw : List Tn) (x : Int) : Int := tw.foldl (fun y t => at0 (own b t) y) x
theorem lst0_snoc {α : Type} [Inhabited α] (l : List α) (v : α) : lst0 (l ++ [v]) = v := by
  unfold lst0
  rw [List.getD_eq_getElem?_getD, List.length_append]
  simp
theorem states_last (b : List Int) (x : Int) (tw : List Tn) : lst0 (states tw b x) = ledTo b tw x := by
  have : ∀ (tw : List Tn) (s : List Int), lst0 (tw.foldl (sStep b) s) = ledTo b tw (lst0 s) := by
    intro tw
    induction tw with
    | nil => intro s; rfl
    | cons t tw ih =>
      intro s
      rw [List.foldl_cons, ih]
      unfold ledTo
      rw [List.foldl_cons]
      congr 1
      unfold sStep own
      rw [lst0_snoc]
  exact this tw [x]
theorem states_end (b : List Int) (x : Int) (tw : List Tn) : at0 (states tw b x) tw.length = ledTo b tw x := by
  rw [← states_last]
  unfold lst0 at0
  rw [stLen, Nat.add_sub_cancel, Int.toNat_natCast]
theorem thenO_at {f o : List Int} {x : Int} (h : 0 ≤ x ∧ x < f.length) : at0 (thenO f o) x = at0 o (at0 f x) := by
  obtain ⟨k, rfl⟩ : ∃ k : Nat, x = k := ⟨x.toNat, by omega⟩
  unfold thenO
  rw [at0_nat (l := f) (by omega), at0_nat (by rw [List.length_map]; omega), List.getElem_map]
theorem comes_at {x : Int} : ∀ (os : List (List Int)) (s : List Int), (0 ≤ x ∧ x < s.length) → at0 (os.foldl thenO s) x = os.foldl (fun y o => at0 o y) (at0 s x)
  | [], _, _ => rfl
  | o :: os, s, h => by
    rw [List.foldl_cons, comes_at os _ (by unfold thenO; rw [List.length_map]; exact h), List.foldl_cons, thenO_at h]
theorem plain_at {q x : Int} (h : 0 ≤ x ∧ x < q) : at0 (plain q) x = x := by
  obtain ⟨k, rfl⟩ : ∃ k : Nat, x = k := ⟨x.toNat, by omega⟩
  unfold plain
  rw [at0_nat (by simp; omega)]
  simp
theorem plain_len (q : Int) : (plain q).length = q.toNat := by unfold plain; simp
theorem comes_led {q : Int} {tw : List Tn} {b : List Int} {x : Int} (h : 0 ≤ x ∧ x < q) : at0 (comes q (tw.map (own b))) x = ledTo b tw x := by
  unfold comes
  rw [comes_at _ _ (by rw [plain_len]; omega), plain_at h, List.foldl_map]
  rfl
theorem ledTo_rng {q : Int} {n : Nat} {tw : List Tn} {b : List Int} {x : Int} (hx : 0 ≤ x ∧ x < q) (ht : WOk q n tw) : 0 ≤ ledTo b tw x ∧ ledTo b tw x < q := by
  rw [← states_end]
  exact sRng hx ht _ (at0_mem' (by rw [stLen]; omega))
theorem dLook_mem {l : List (Int × Int)} {y v : Int} (h : dLook l y = some v) : ∃ e ∈ l, e.2 = v := by
  unfold dLook at h
  obtain ⟨e, he, h2⟩ := Option.map_eq_some_iff.mp h
  exact ⟨e, List.mem_of_find?_eq_some he, h2⟩
theorem plBeh_rng {q : Int} {tw : List Tn} {first last : Int} (hq : 0 < q) {t : Nat} (ht : t ≤ tw.length) (hT : 1 ≤ tw.length) : ∀ e ∈ plBeh q tw first last t, (if t = 0 then 0 else 1 + q * ((t : Int) - 1)) ≤ e.2 ∧ e.2 < 1 + q * (t : Int) ∧ e.2 ≤ places q tw := by
  intro e he
  have hpl := places_eq (q := q) hT
  have hp := places_pos (tw := tw) hq
  unfold plBeh at he
  split at he
  · rename_i h0
    subst h0
    rw [List.mem_singleton.mp he, if_pos rfl]
    refine ⟨Int.le_refl _, ?_, by show (0 : Int) ≤ places q tw; omega⟩
    show (0 : Int) < 1 + q * 0
    omega
  · rename_i h0
    rw [if_neg h0]
    split at he
    · rename_i h1
      rw [List.mem_singleton.mp he, hpl, h1, Int.mul_sub]
      refine ⟨Int.le_refl _, ?_, Int.le_refl _⟩
      show 1 + (q * (tw.length : Int) - q * 1) < _
      omega
    · obtain ⟨y, hy, rfl⟩ := List.mem_map.mp he
      have := List.mem_range.mp hy
      obtain ⟨u, rfl⟩ : ∃ u, t = u + 1 := ⟨t - 1, by omega⟩
      have h2 := mid_lt (q := q) (T := tw.length) (t := u) (s := (y : Int)) (by omega) (by omega)
      rw [hpl]
      rw [show ((u + 1 : Nat) : Int) - 1 = (u : Int) by omega]
      have h3 : q * ((u + 1 : Nat) : Int) = q * u + q := by rw [show ((u + 1 : Nat) : Int) = (u : Int) + 1 by omega, Int.mul_add, Int.mul_one]
      rw [h3]
      show 1 + q * (u : Int) ≤ 1 + q * (u : Int) + y ∧ 1 + q * (u : Int) + y < 1 + (q * u + q) ∧ 1 + q * (u : Int) + y ≤ _
      omega
theorem wordAr_rng {q : Int} {n : Nat} {tw : List Tn} {first last : Int} (hq : 0 < q) (ht : WOk q n tw) (hT : 1 ≤ tw.length) : ∀ a ∈ wordAr q tw first last, 0 ≤ a.i ∧ a.i < a.j ∧ a.j ≤ places q tw ∧ -1 ≤ a.k ∧ a.k < n := by
  intro a ha
  rw [wordAr_eq] at ha
  obtain ⟨u, hu, ha⟩ := List.mem_flatMap.mp ha
  have hu2 := List.mem_zipIdx_iff_getElem?.mp hu
  have hlt : u.2 < tw.length := (List.getElem?_eq_some_iff.mp hu2).1
  have hk := ht.k u.1 (List.mem_of_getElem? hu2)
  rw [turnAr_eq] at ha
  obtain ⟨e, he, ha⟩ := List.mem_flatMap.mp ha
  have h1 := plBeh_rng (first := first) (last := last) hq (Nat.le_of_lt hlt) hT e he
  have h0 : 0 ≤ e.2 := by
    have := mul_nn (q := q) (t := u.2 - 1) hq
    split at h1
    · exact h1.1
    · rw [show ((u.2 - 1 : Nat) : Int) = (u.2 : Int) - 1 by omega] at this
      omega
  have key : ∀ {y v : Int}, dLook (plBeh q tw first last (u.2 + 1)) y = some v → e.2 < v ∧ v ≤ places q tw := by
    intro y v hv
    obtain ⟨e', he', rfl⟩ := dLook_mem hv
    have h2 := plBeh_rng (first := first) (last := last) hq (t := u.2 + 1) (by omega) hT e' he'
    rw [if_neg (by omega), show ((u.2 + 1 : Nat) : Int) - 1 = (u.2 : Int) by omega] at h2
    omega
  rcases List.mem_append.mp ha with ha | ha
  · unfold taZ at ha
    cases hd : dLook (plBeh q tw first last (u.2 + 1)) (at0 u.1.z e.1) with
    | none => rw [hd] at ha; cases ha
    | some v =>
      rw [hd] at ha
      have h3 := key hd
      rcases List.mem_cons.mp ha with rfl | ha
      · exact ⟨h0, h3.1, h3.2, Int.le_refl _, by show (-1 : Int) < n; omega⟩
      · rw [List.mem_singleton.mp ha]
        exact ⟨h0, h3.1, h3.2, by show -1 ≤ u.1.k; omega, hk.2⟩
  · unfold taO at ha
    cases hd : dLook (plBeh q tw first last (u.2 + 1)) (at0 u.1.o e.1) with
    | none => rw [hd] at ha; cases ha
    | some v =>
      rw [hd] at ha
      have h3 := key hd
      rw [List.mem_singleton.mp ha]
      exact ⟨h0, h3.1, h3.2, by show -1 ≤ u.1.k; omega, hk.2⟩
theorem flatMap_le {α : Type} {g : α → List Ar} {c : Nat} : ∀ (l : List α), (∀ e ∈ l, (g e).length ≤ c) → (l.flatMap g).length ≤ l.length * c
  | [], _ => by simp
  | e :: l, h => by
    rw [List.flatMap_cons, List.length_append, List.length_cons, Nat.add_mul]
    have h1 := flatMap_le l fun x hx => h x (List.mem_cons_of_mem _ hx)
    have h2 := h e List.mem_cons_self
    omega
theorem plBeh_len {q : Int} {tw : List Tn} {first last : Int} (hq : 0 < q) (t : Nat) : (plBeh q tw first last t).length ≤ q.toNat := by
  unfold plBeh
  split
  · simp; omega
  · split
    · simp; omega
    · simp
theorem turnAr_len (t : Tn) (here beh : List (Int × Int)) : (turnAr t here beh).length ≤ here.length * 3 := by
  rw [turnAr_eq]
  refine flatMap_le _ fun e _ => ?_
  rw [List.length_append]
  have h1 : (taZ t beh e).length ≤ 2 := by
    unfold taZ
    cases dLook beh (at0 t.z e.1) <;> simp
  have h2 : (taO t beh e).length ≤ 1 := by
    unfold taO
    cases dLook beh (at0 t.o e.1) <;> simp
  omega
theorem wordAr_len {q : Int} {tw : List Tn} {first last : Int} (hq : 0 < q) : (wordAr q tw first last).length ≤ tw.length * (q.toNat * 3) := by
  rw [wordAr_eq]
  have := flatMap_le (g := fun e : Tn × Nat => turnAr e.1 (plBeh q tw first last e.2) (plBeh q tw first last (e.2 + 1))) (c := q.toNat * 3) tw.zipIdx fun e _ => Nat.le_trans (turnAr_len _ _ _) (Nat.mul_le_mul_right 3 (plBeh_len hq _))
  rwa [List.length_zipIdx] at this
theorem word_prog {p q : Int} {n : Nat} {tw : List Tn} {x last : Int} (hp : p = 2 ∨ p = 3 ∨ p = 5 ∨ p = 7) (hn : n ≤ 6) (hx : 0 ≤ x ∧ x < q) (ht : WOk q n tw) (hl : places q tw ≤ 40) (hq : q ≤ 100) (hT : tw.length ≤ 100) :
    PrValid p n (places q tw) (wordPr p q tw x last) ∧ PrOk p (places q tw) n (wordPr p q tw x last) ∧
    ∀ b : List Int, n = b.length → Bits b → ∀ v, v = (if ledTo b tw x = last then (1 : Int) else 0) →
      lst0 (valsTo p (places q tw) (wordPr p q tw x last) b) = v ∧ at0 (lvals p (places q tw) (wordPr p q tw x last) b) (places q tw) = v ∧
      lst0 (detRow p (upOf p (places q tw) (wordPr p q tw x last) ((wordPr p q tw x last).map fun a => wgt p a b))) = v := by
  have hq0 : 0 < q := by omega
  have hpl := places_pos (tw := tw) hq0
  have hp1 : 1 < p := by omega
  have main : (∀ a ∈ wordPr p q tw x last, 0 ≤ a.i ∧ a.i < a.j ∧ a.j ≤ places q tw ∧ -1 ≤ a.k ∧ a.k < n ∧ 1 ≤ a.c ∧ a.c < p) ∧
      (∀ j : Nat, j + 1 < (wordPr p q tw x last).length → le3 (at0 (wordPr p q tw x last) ((j : Int) + 1)).i (at0 (wordPr p q tw x last) ((j : Int) + 1)).j (at0 (wordPr p q tw x last) ((j : Int) + 1)).k (at0 (wordPr p q tw x last) j).i (at0 (wordPr p q tw x last) j).j (at0 (wordPr p q tw x last) j).k = false) ∧
      (wordPr p q tw x last).length ≤ 100000 ∧ (wordPr p q tw x last).Pairwise (fun a b => a.i ≤ b.i) ∧
      ∀ b : List Int, n = b.length → Bits b → ∃ f : Int → Int, f 0 = 1 ∧ (∀ j, 0 < j → j ≤ places q tw → Cg p (f j) (inW (fun a => a.c * itV b a.k) f (wordPr p q tw x last) j)) ∧ f (places q tw) = if ledTo b tw x = last then 1 else 0 := by
    by_cases h0 : tw = []
    · subst h0
      have e1 : places q [] = 1 := by unfold places; simp
      unfold wordPr
      rw [if_pos rfl, e1]
      by_cases hf : x = last
      · rw [if_pos hf]
        refine ⟨fun a ha => ?_, fun j hj => by simp at hj, by simp, List.pairwise_singleton _ _, fun b hb hbb => ⟨fun j => 1, rfl, fun j j0 j1 => ?_, ?_⟩⟩
        · rw [List.mem_singleton.mp ha]
          exact ⟨by decide, by decide, by decide, by decide, by show (-1 : Int) < n; omega, by decide, hp1⟩
        · have : j = 1 := by omega
          subst this
          rw [inW_cons, inW_nil, if_pos rfl]
          show Cg p 1 (1 * (1 * itV b (-1)) + 0)
          unfold itV
          rw [if_pos (by decide)]; exact Cg.refl _
        · show (1 : Int) = if ledTo b [] x = last then 1 else 0
          rw [if_pos (show ledTo b [] x = last from hf)]
      · rw [if_neg hf]
        refine ⟨fun a ha => (by cases ha), fun j hj => by simp at hj, by simp, List.Pairwise.nil, fun b hb hbb => ⟨fun j => if j = 0 then 1 else 0, rfl, fun j j0 j1 => ?_, ?_⟩⟩
        · rw [inW_nil]
          show Cg p (if j = 0 then 1 else 0) 0
          rw [if_neg (by omega)]; exact Cg.refl _
        · show (if (1 : Int) = 0 then (1 : Int) else 0) = if ledTo b [] x = last then 1 else 0
          rw [if_neg (by decide), if_neg (show ¬ ledTo b [] x = last from hf)]
    · have hT1 : 1 ≤ tw.length := by
        cases tw with
        | nil => exact absurd rfl h0
        | cons _ _ => simp
      unfold wordPr
      rw [if_neg h0]
      refine ⟨fun a ha => ?_, fun j hj => putTog_order j hj, ?_, putTog_asc, fun b hb hbb => ⟨plVal q tw b x last, ?_, fun j j0 j1 => ?_, ?_⟩⟩
      · have := putTog_from (p := p) (Q := fun a => 0 ≤ a.i ∧ a.i < a.j ∧ a.j ≤ places q tw ∧ -1 ≤ a.k ∧ a.k < n) (by omega) (fun _ _ h => h) (wordAr_rng hq0 ht hT1) a ha
        exact ⟨this.1.1, this.1.2.1, this.1.2.2.1, this.1.2.2.2.1, this.1.2.2.2.2, this.2.1, this.2.2⟩
      · refine Nat.le_trans putTog_len (Nat.le_trans (wordAr_len hq0) ?_)
        exact Nat.le_trans (Nat.mul_le_mul hT (Nat.mul_le_mul_right 3 (show q.toNat ≤ 100 by omega))) (by decide)
      · unfold plVal; rw [if_pos rfl]
      · rw [← word_val hx ht hb hbb hT1 j j0 j1]
        rw [word_val hx ht hb hbb hT1 j j0 j1]
        refine Cg.trans ?_ (Cg.symm (putTog_inW j))
        rw [word_val hx ht hb hbb hT1 j j0 j1]; exact Cg.refl _
      · unfold plVal
        rw [if_neg (by omega), if_pos rfl, states_end]
  obtain ⟨m1, m2, m3, m4, m5⟩ := main
  generalize wordPr p q tw x last = as at *
  generalize places q tw = l at *
  refine ⟨⟨hp, by omega, by omega, m1, m2, m3⟩, ⟨by omega, by omega, by omega, by omega, fun a h => by have := m1 a h; omega, fun a h => by have := m1 a h; omega, fun a h => by have := m1 a h; omega, fun a h => by have := m1 a h; omega⟩, fun b hb hbb v hv => ?_⟩
  obtain ⟨f, f0, f1, f2⟩ := m5 b hb hbb
  have hr : 0 ≤ f l ∧ f l < p := by rw [f2]; split <;> omega
  have ha : ∀ a ∈ as, 0 ≤ a.i ∧ a.i < a.j ∧ a.j ≤ l := fun a h => by have := m1 a h; omega
  have hk : ∀ a ∈ as, -1 ≤ a.k := fun a h => by have := m1 a h; omega
  obtain ⟨g1, g2⟩ := vals_are hp1 (by omega) ha hk m4 f0 f1 hr
  have g3 := det_is (it := b) hp1 (by omega) ha hk f0 f1 hr
  rw [hv, ← f2]
  exact ⟨g1, g2, g3⟩
end K87
end
section
set_option Elab.async false
set_option linter.all false
set_option maxRecDepth 100000
set_option maxHeartbeats 4000000
namespace K87
open DL
theorem unitM_eq (q : Int) : unitM q = lMat (plain q) := by
  unfold unitM lMat plain
  rw [List.map_map, List.length_map, List.length_range]
  refine List.map_congr_left fun i _ => List.map_congr_left fun j _ => ?_
  show (if (i : Int) = j then (1 : Int) else 0) = if (j : Int) = i then 1 else 0
  by_cases h : i = j
  · rw [if_pos (by omega), if_pos (by omega)]
  · rw [if_neg (by omega), if_neg (by omega)]
theorem ordMat_is (o : List Int) : ordMat o = lMat o := by
  unfold ordMat lMat
  refine List.map_congr_left fun i _ => List.map_congr_left fun j _ => ?_
  by_cases h : i = (j : Int)
  · rw [if_pos h, if_pos h.symm]
  · rw [if_neg h, if_neg (fun z => h z.symm)]
theorem turned_col {o : List Int} {j : Nat} (h : j < o.length) : (lMat o).map (fun r => at0 r (j : Int)) = (List.range o.length).map fun (x : Nat) => if at0 o (x : Int) = (j : Int) then 1 else 0 := by
  unfold lMat
  rw [List.map_map]
  apply List.ext_getElem
  · simp
  · intro i h1 h2
    rw [List.length_map] at h1
    rw [List.getElem_map, List.getElem_map, List.getElem_range, at0_nat h1]
    show at0 ((List.range o.length).map fun (x : Nat) => if (x : Int) = o[i] then (1 : Int) else 0) (j : Int) = _
    rw [at0_nat (by simpa using h), List.getElem_map, List.getElem_range]
    by_cases e : (j : Int) = o[i]
    · rw [if_pos e, if_pos e.symm]
    · rw [if_neg e, if_neg (fun z => e z.symm)]
theorem zip_map2 {α β γ : Type} (f : α → β) (g : α → γ) : ∀ l : List α, (l.map f).zip (l.map g) = l.map fun a => (f a, g a)
  | [] => rfl
  | a :: l => by rw [List.map_cons, List.map_cons, List.zip_cons_cons, zip_map2 f g l]; rfl
theorem matProd_is {p : Int} {f o : List Int} (hp : 1 < p) (hl : f.length = o.length) (hf : ∀ x ∈ f, 0 ≤ x ∧ x < o.length) : matProd p (lMat f) (lMat o) = lMat (thenO f o) := by
  have ht : turned (lMat o) = (List.range o.length).map fun (j : Nat) => (List.range o.length).map fun (x : Nat) => if at0 o (x : Int) = (j : Int) then 1 else 0 := by
    unfold turned
    rw [show (lMat o).length = o.length by unfold lMat; simp]
    exact List.map_congr_left fun j hj => turned_col (List.mem_range.mp hj)
  unfold matProd
  rw [ht]
  have e1 : lMat f = f.map fun own => (List.range o.length).map fun (x : Nat) => if (x : Int) = own then (1 : Int) else 0 := by unfold lMat; rw [hl]
  rw [e1, List.map_map]
  have e2 : lMat (thenO f o) = f.map fun own => (List.range o.length).map fun (x : Nat) => if (x : Int) = at0 o own then (1 : Int) else 0 := by
    unfold lMat thenO
    rw [List.map_map, List.length_map, hl]; rfl
  rw [e2]
  refine List.map_congr_left fun v hv => ?_
  show ((List.range o.length).map fun (j : Nat) => (List.range o.length).map fun (x : Nat) => if at0 o (x : Int) = (j : Int) then (1 : Int) else 0).map (fun c => rowsProd p ((List.range o.length).map fun (x : Nat) => if (x : Int) = v then (1 : Int) else 0) c) = _
  rw [List.map_map]
  refine List.map_congr_left fun j hj => ?_
  show rowsProd p _ _ = _
  unfold rowsProd
  rw [zip_map2, List.map_map]
  have hv2 := hf v hv
  show ((List.range o.length).map fun (x : Nat) => (if (x : Int) = v then (1 : Int) else 0) * (if at0 o (x : Int) = (j : Int) then 1 else 0)).sum % p = _
  rw [sum_range_one (k := v.toNat) (by omega)]
  · rw [show ((v.toNat : Nat) : Int) = v by omega, if_pos rfl, Int.one_mul]
    by_cases e : at0 o v = (j : Int)
    · rw [if_pos e, if_pos e.symm]; exact Int.emod_eq_of_lt (by omega) hp
    · rw [if_neg e, if_neg (fun z => e z.symm)]; exact Int.zero_emod _
  · intro i hi hk
    rw [if_neg (by omega), Int.zero_mul]
structure Pm (q : Int) (o : List Int) : Prop where
  len : (o.length : Int) = q
  nd : o.Nodup
  rng : ∀ x ∈ o, 0 ≤ x ∧ x < q
  all : ∀ x : Int, 0 ≤ x → x < q → x ∈ o
theorem plain_mem {q x : Int} : x ∈ plain q ↔ 0 ≤ x ∧ x < q := by
  unfold plain
  rw [List.mem_map]
  constructor
  · rintro ⟨i, hi, rfl⟩
    have := List.mem_range.mp hi
    omega
  · intro h
    exact ⟨x.toNat, List.mem_range.mpr (by omega), by omega⟩
theorem plain_nd (q : Int) : (plain q).Nodup := by
  unfold plain
  rw [List.nodup_iff_pairwise_ne, List.pairwise_map]
  exact (List.nodup_iff_pairwise_ne.mp List.nodup_range).imp fun h z => h (by omega)
theorem Pm.of_perm {q : Int} {o : List Int} (hq : 0 ≤ q) (h : o.Perm (plain q)) : Pm q o :=
  ⟨by rw [h.length_eq, plain_len]; omega, h.nodup_iff.mpr (plain_nd q), fun x hx => plain_mem.mp (h.mem_iff.mp hx), fun x h0 h1 => h.mem_iff.mpr (plain_mem.mpr ⟨h0, h1⟩)⟩
theorem Pm.plain {q : Int} (hq : 0 ≤ q) : Pm q (plain q) := .of_perm hq (List.Perm.refl _)
theorem map_at0_plain {q : Int} {o : List Int} (h : (o.length : Int) = q) : (K87.plain q).map (at0 o) = o := by
  unfold K87.plain
  rw [List.map_map]
  apply List.ext_getElem
  · simp; omega
  · intro i h1 h2
    rw [List.getElem_map, List.getElem_range]
    exact at0_nat h2
theorem Pm.perm {q : Int} {o : List Int} (h : Pm q o) : o.Perm (K87.plain q) := by
  rw [List.perm_ext_iff_of_nodup h.nd (plain_nd q)]
  intro x
  rw [plain_mem]
  exact ⟨h.rng x, fun z => h.all x z.1 z.2⟩
theorem Pm.then {q : Int} {f o : List Int} (hq : 0 ≤ q) (hf : Pm q f) (ho : Pm q o) : Pm q (thenO f o) := by
  refine .of_perm hq ?_
  have h1 : (thenO f o).Perm ((K87.plain q).map (at0 o)) := hf.perm.map _
  rw [map_at0_plain ho.len] at h1
  exact h1.trans ho.perm
theorem comes_pm {q : Int} (hq : 0 ≤ q) : ∀ (os : List (List Int)) (s : List Int), (∀ o ∈ os, Pm q o) → Pm q s → Pm q (os.foldl thenO s)
  | [], _, _, h => h
  | o :: os, s, h, hs => comes_pm hq os _ (fun x m => h x (List.mem_cons_of_mem _ m)) (hs.then hq (h o List.mem_cons_self))
theorem Pm.comes {q : Int} {os : List (List Int)} (hq : 0 ≤ q) (h : ∀ o ∈ os, Pm q o) : Pm q (comes q os) := comes_pm hq os _ h (Pm.plain hq)
theorem wordOrds_is {q : Int} {tw : List Tn} {b : List Int} : lst0 (wordOrds q tw b) = comes q (tw.map (own b)) := by
  have : ∀ (tw : List Tn) (s : List (List Int)), lst0 (tw.foldl (oStep b) s) = (tw.map (own b)).foldl thenO (lst0 s) := by
    intro tw
    induction tw with
    | nil => intro s; rfl
    | cons t tw ih =>
      intro s
      rw [List.foldl_cons, ih, List.map_cons, List.foldl_cons]
      congr 1
      unfold oStep thenO own
      rw [lst0_snoc]
  exact this tw [plain q]
theorem wordMat_is {p q : Int} {tw : List Tn} {b : List Int} (hp : 1 < p) (hq : 0 ≤ q) (h : ∀ t ∈ tw, Pm q (own b t)) : wordMat p q tw b = lMat (comes q (tw.map (own b))) := by
  have : ∀ (tw : List Tn) (s : List Int), (∀ t ∈ tw, Pm q (own b t)) → Pm q s → (turnMats tw b).foldl (matProd p) (lMat s) = lMat ((tw.map (own b)).foldl thenO s) := by
    intro tw
    induction tw with
    | nil => intro s _ _; rfl
    | cons t tw ih =>
      intro s ht hs
      have h1 := ht t List.mem_cons_self
      show (turnMats tw b).foldl (matProd p) (matProd p (lMat s) (ordMat (own b t))) = _
      rw [ordMat_is, matProd_is hp (by have := hs.len; have := h1.len; omega) (fun x hx => by have := hs.rng x hx; have := h1.len; omega)]
      exact ih _ (fun u m => ht u (List.mem_cons_of_mem _ m)) (hs.then hq h1)
  unfold wordMat
  rw [unitM_eq]
  exact this tw _ h (Pm.plain hq)
theorem turnMats_is {tw : List Tn} {b : List Int} : turnMats tw b = (tw.map (own b)).map lMat := by
  unfold turnMats
  rw [List.map_map]
  exact List.map_congr_left fun t _ => ordMat_is _
theorem back_go {x : Int} : ∀ (o : List Int) (k : Nat) (s : List Int), o.Nodup → (∀ y ∈ o, 0 ≤ y ∧ y < s.length) → 0 ≤ x → x < s.length →
    at0 ((o.zipIdx k).foldl bStep s) x = if x ∈ o then ((k + o.idxOf x : Nat) : Int) else at0 s x
  | [], k, s, _, _, _, _ => by simp
  | a :: o, k, s, nd, hr, h0, h1 => by
    obtain ⟨n1, n2⟩ := List.nodup_cons.mp nd
    have ha := hr a List.mem_cons_self
    rw [List.zipIdx_cons, List.foldl_cons]
    rw [back_go o (k + 1) _ n2 (fun y hy => by unfold bStep; rw [List.length_set]; exact hr y (List.mem_cons_of_mem _ hy)) h0 (by unfold bStep; rw [List.length_set]; exact h1)]
    by_cases hx : x ∈ o
    · have hne : ¬ a = x := fun z => n1 (z ▸ hx)
      rw [if_pos hx, if_pos (List.mem_cons_of_mem _ hx), List.idxOf_cons]
      have : (a == x) = false := by simpa using hne
      rw [this]
      simp only [cond_false]
      omega
    · rw [if_neg hx]
      obtain ⟨j, rfl⟩ : ∃ j : Nat, x = j := ⟨x.toNat, by omega⟩
      unfold bStep
      rw [at0_set _ _ _ _ (by omega)]
      by_cases e : a = (j : Int)
      · rw [if_pos (by show a.toNat = j; omega), if_pos (by rw [e]; exact List.mem_cons_self), List.idxOf_cons]
        have : (a == (j : Int)) = true := by simpa using e
        rw [this]
        simp
      · rw [if_neg (by show ¬ a.toNat = j; omega), if_neg]
        intro z
        rcases List.mem_cons.mp z with z | z
        · exact e z.symm
        · exact hx z
theorem backLen' (o : List Int) : (back o).length = o.length := by
  have : ∀ (l : List (Int × Nat)) (s : List Int), (l.foldl bStep s).length = s.length := by
    intro l
    induction l with
    | nil => intro s; rfl
    | cons a l ih => intro s; rw [List.foldl_cons, ih]; unfold bStep; rw [List.length_set]
  unfold back
  rw [this]; simp
theorem back_is {q : Int} {o : List Int} (h : Pm q o) : back o = undone o := by
  apply List.ext_getElem
  · rw [backLen']; unfold undone; simp
  · intro i h1 h2
    rw [backLen'] at h1
    have hm : (i : Int) ∈ o := h.all i (by omega) (by have := h.len; omega)
    have e := back_go (x := (i : Int)) o 0 (List.replicate o.length 0) h.nd (fun y hy => by have := h.rng y hy; have := h.len; simp; omega) (by omega) (by simp; omega)
    rw [if_pos hm, Nat.zero_add] at e
    have e2 : at0 (back o) (i : Int) = (back o)[i] := at0_nat (by rw [backLen']; exact h1)
    rw [← e2]
    have e3 : (undone o)[i] = ((o.idxOf (i : Int) : Nat) : Int) := by simp [undone]
    rw [e3]
    exact e
theorem undone_at {q : Int} {o : List Int} (h : Pm q o) {x : Int} (hx : 0 ≤ x ∧ x < q) : at0 (undone o) x = ((o.idxOf x : Nat) : Int) := by
  obtain ⟨k, rfl⟩ : ∃ k : Nat, x = k := ⟨x.toNat, by omega⟩
  have hl := h.len
  unfold undone
  rw [at0_nat (by simp; omega), List.getElem_map, List.getElem_range]
theorem undone_len (o : List Int) : (undone o).length = o.length := by unfold undone; simp
theorem at_undone {q : Int} {o : List Int} (h : Pm q o) {x : Int} (hx : 0 ≤ x ∧ x < q) : at0 o (at0 (undone o) x) = x := by
  rw [undone_at h hx]
  have hm := h.all x hx.1 hx.2
  have hlt := List.idxOf_lt_length_iff.mpr hm
  rw [at0_nat hlt]
  exact List.getElem_idxOf hlt
theorem undone_rng {q : Int} {o : List Int} (h : Pm q o) {x : Int} (hx : 0 ≤ x ∧ x < q) : 0 ≤ at0 (undone o) x ∧ at0 (undone o) x < q := by
  rw [undone_at h hx]
  have := List.idxOf_lt_length_iff.mpr (h.all x hx.1 hx.2)
  have := h.len
  omega
theorem ext_at {a b : List Int} {q : Int} (ha : (a.length : Int) = q) (hb : (b.length : Int) = q) (h : ∀ x, 0 ≤ x → x < q → at0 a x = at0 b x) : a = b := by
  apply List.ext_getElem
  · omega
  · intro i h1 h2
    have := h i (by omega) (by omega)
    rwa [at0_nat h1, at0_nat h2] at this
theorem at_inj {q : Int} {o : List Int} (h : Pm q o) {x y : Int} (hx : 0 ≤ x ∧ x < q) (hy : 0 ≤ y ∧ y < q) (e : at0 o x = at0 o y) : x = y := by
  obtain ⟨i, rfl⟩ : ∃ k : Nat, x = k := ⟨x.toNat, by omega⟩
  obtain ⟨j, rfl⟩ : ∃ k : Nat, y = k := ⟨y.toNat, by omega⟩
  have hl := h.len
  rw [at0_nat (by omega), at0_nat (by omega)] at e
  have hp := List.pairwise_iff_getElem.mp (List.nodup_iff_pairwise_ne.mp h.nd)
  rcases Nat.lt_trichotomy i j with z | z | z
  · exact absurd e (hp i j (by omega) (by omega) z)
  · omega
  · exact absurd e.symm (hp j i (by omega) (by omega) z)
theorem undone_pm {q : Int} {o : List Int} (hq : 0 ≤ q) (h : Pm q o) : Pm q (undone o) := by
  have hl := h.len
  have hrng : ∀ x ∈ undone o, 0 ≤ x ∧ x < q := by
    intro x hx
    obtain ⟨i, hi, rfl⟩ := List.getElem_of_mem hx
    rw [← at0_nat hi]
    rw [undone_len] at hi
    exact undone_rng h ⟨by omega, by omega⟩
  refine ⟨by rw [undone_len]; exact hl, ?_, hrng, fun x h0 h1 => ?_⟩
  · unfold undone
    rw [List.nodup_iff_pairwise_ne, List.pairwise_map]
    refine (List.pairwise_lt_range).imp_of_mem ?_
    intro a b ha hb hab z
    have ha2 := List.mem_range.mp ha
    have hb2 := List.mem_range.mp hb
    have e1 := at_undone h (x := (a : Int)) ⟨by omega, by omega⟩
    have e2 := at_undone h (x := (b : Int)) ⟨by omega, by omega⟩
    rw [undone_at h ⟨by omega, by omega⟩] at e1 e2
    rw [z, e2] at e1
    omega
  · have hm : 0 ≤ at0 o x ∧ at0 o x < q := h.rng _ (at0_mem' (by omega))
    have e : at0 (undone o) (at0 o x) = x := at_inj h (undone_rng h hm) ⟨h0, h1⟩ (at_undone h hm)
    rw [← e]
    exact at0_mem' (by rw [undone_len]; omega)
theorem undone_at2 {q : Int} {o : List Int} (h : Pm q o) {x : Int} (hx : 0 ≤ x ∧ x < q) : at0 (undone o) (at0 o x) = x := by
  have hl := h.len
  have hm : 0 ≤ at0 o x ∧ at0 o x < q := h.rng _ (at0_mem' (by omega))
  exact at_inj h (undone_rng h hm) hx (at_undone h hm)
structure Gd (n : Nat) (q : Int) (t : Tn) : Prop where
  k : 0 ≤ t.k ∧ t.k < n
  z : Pm q t.z
  o : Pm q t.o
theorem Gd.own {n : Nat} {q : Int} {t : Tn} {b : List Int} (h : Gd n q t) : Pm q (own b t) := by
  unfold K87.own; split
  · exact h.o
  · exact h.z
theorem Gd.wok {n : Nat} {q : Int} {tw : List Tn} (h : ∀ t ∈ tw, Gd n q t) : WOk q n tw :=
  ⟨fun t m => (h t m).k, fun t m => ⟨(h t m).z.len, (h t m).z.rng⟩, fun t m => ⟨(h t m).o.len, (h t m).o.rng⟩⟩
theorem own_back {q : Int} {n : Nat} {b : List Int} {t : Tn} (h : Gd n q t) : own b (backT t) = undone (own b t) := by
  unfold own backT
  show (if at0 b t.k = 1 then back t.o else back t.z) = _
  split
  · exact back_is h.o
  · exact back_is h.z
theorem own_behind {b : List Int} {t : Tn} {o : List Int} : own b (behindT t o) = thenO (own b t) o := by
  unfold own behindT thenO
  show (if at0 b t.k = 1 then t.o.map (at0 o) else t.z.map (at0 o)) = _
  split <;> rfl
theorem own_ledH {b : List Int} {t : Tn} {by_ : List Int} : own b (ledH t by_) = thenO (back by_) (own b t) := by
  unfold own ledH thenO
  show (if at0 b t.k = 1 then (back by_).map (at0 t.o) else (back by_).map (at0 t.z)) = _
  split <;> rfl
theorem Gd.back {n : Nat} {q : Int} {t : Tn} (hq : 0 ≤ q) (h : Gd n q t) : Gd n q (backT t) := by
  unfold backT
  exact ⟨h.k, by show Pm q (K87.back t.z); rw [back_is h.z]; exact undone_pm hq h.z, by show Pm q (K87.back t.o); rw [back_is h.o]; exact undone_pm hq h.o⟩
theorem Gd.behind {n : Nat} {q : Int} {t : Tn} {o : List Int} (hq : 0 ≤ q) (h : Gd n q t) (ho : Pm q o) : Gd n q (behindT t o) := by
  unfold behindT
  exact ⟨h.k, h.z.then hq ho, h.o.then hq ho⟩
theorem Gd.ledH {n : Nat} {q : Int} {t : Tn} {o : List Int} (hq : 0 ≤ q) (h : Gd n q t) (ho : Pm q o) : Gd n q (ledH t o) := by
  unfold K87.ledH
  rw [back_is ho]
  exact ⟨h.k, (undone_pm hq ho).then hq h.z, (undone_pm hq ho).then hq h.o⟩
theorem comes_len {q : Int} (hq : 0 ≤ q) (os : List (List Int)) : ((comes q os).length : Int) = q := by
  have : ∀ (os : List (List Int)) (s : List Int), (os.foldl thenO s).length = s.length := by
    intro os
    induction os with
    | nil => intro s; rfl
    | cons o os ih => intro s; rw [List.foldl_cons, ih]; unfold thenO; rw [List.length_map]
  unfold comes
  rw [this, plain_len]; omega
theorem thenO_len (f o : List Int) : (thenO f o).length = f.length := by unfold thenO; rw [List.length_map]
theorem ledTo_append (b : List Int) (u v : List Tn) (x : Int) : ledTo b (u ++ v) x = ledTo b v (ledTo b u x) := by unfold ledTo; rw [List.foldl_append]
theorem ledTo_cons (b : List Int) (t : Tn) (v : List Tn) (x : Int) : ledTo b (t :: v) x = ledTo b v (at0 (own b t) x) := rfl
theorem joined_is {q : Int} {n : Nat} {b : List Int} {u v : List Tn} (hq : 0 ≤ q) (hu : ∀ t ∈ u, Gd n q t) : comes q ((u ++ v).map (own b)) = thenO (comes q (u.map (own b))) (comes q (v.map (own b))) := by
  have hl := comes_len hq (u.map (own b))
  refine ext_at (comes_len hq _) (by rw [thenO_len]; exact hl) fun x h0 h1 => ?_
  rw [comes_led ⟨h0, h1⟩, ledTo_append, thenO_at (by omega), comes_led ⟨h0, h1⟩, comes_led (ledTo_rng ⟨h0, h1⟩ (Gd.wok hu))]
theorem back_led {q : Int} {n : Nat} {b : List Int} (hq : 0 ≤ q) : ∀ (tw : List Tn), (∀ t ∈ tw, Gd n q t) → ∀ x, 0 ≤ x → x < q → (0 ≤ ledTo b (tw.reverse.map backT) x ∧ ledTo b (tw.reverse.map backT) x < q) ∧ ledTo b tw (ledTo b (tw.reverse.map backT) x) = x
  | [], _, x, h0, h1 => ⟨⟨h0, h1⟩, rfl⟩
  | t :: tw, h, x, h0, h1 => by
    obtain ⟨h2, h3⟩ := back_led hq tw (fun u m => h u (List.mem_cons_of_mem _ m)) x h0 h1
    have ht := h t List.mem_cons_self
    rw [List.reverse_cons, List.map_append, ledTo_append]
    have e : ∀ y, ledTo b ([t].map backT) y = at0 (undone (own b t)) y := fun y => by
      show at0 (own b (backT t)) y = _
      rw [own_back ht]
    rw [e]
    refine ⟨undone_rng ht.own h2, ?_⟩
    rw [ledTo_cons, at_undone ht.own h2, h3]
theorem backs_gd {q : Int} {n : Nat} {tw : List Tn} (hq : 0 ≤ q) (h : ∀ t ∈ tw, Gd n q t) : ∀ t ∈ tw.reverse.map backT, Gd n q t := by
  intro t m
  obtain ⟨u, hu, rfl⟩ := List.mem_map.mp m
  exact (h u (List.mem_reverse.mp hu)).back hq
theorem back_word {q : Int} {n : Nat} {b : List Int} {tw : List Tn} (hq : 0 ≤ q) (h : ∀ t ∈ tw, Gd n q t) : comes q ((tw.reverse.map backT).map (own b)) = undone (comes q (tw.map (own b))) := by
  have hP : Pm q (comes q (tw.map (own b))) := Pm.comes hq fun o m => by
    obtain ⟨t, ht, rfl⟩ := List.mem_map.mp m
    exact (h t ht).own
  refine ext_at (comes_len hq _) (by rw [undone_len]; exact comes_len hq _) fun x h0 h1 => ?_
  rw [comes_led ⟨h0, h1⟩]
  obtain ⟨h2, h3⟩ := back_led (b := b) hq tw h x h0 h1
  refine at_inj hP h2 (undone_rng hP ⟨h0, h1⟩) ?_
  rw [at_undone hP ⟨h0, h1⟩, comes_led h2, h3]
theorem ledW_led {q : Int} {n : Nat} {b : List Int} {t : Tn} {r : List Tn} {by_ : List Int} (hq : 0 ≤ q) (h : ∀ u ∈ t :: r, Gd n q u) (hb : Pm q by_) {x : Int} (hx : 0 ≤ x ∧ x < q) :
    ledTo b (ledW t r by_) x = at0 by_ (ledTo b (t :: r) (at0 (undone by_) x)) := by
  have e : ledTo b (ledH t by_ :: r) x = ledTo b (t :: r) (at0 (undone by_) x) := by
    rw [ledTo_cons, ledTo_cons, own_ledH, back_is hb, thenO_at (by rw [undone_len]; have := hb.len; omega)]
  rw [← e]
  unfold ledW
  have hne : ledH t by_ :: r ≠ [] := by simp
  have hsplit : ledH t by_ :: r = (ledH t by_ :: r).dropLast ++ [lst0 (ledH t by_ :: r)] := by
    conv => lhs; rw [← List.dropLast_concat_getLast hne]
    congr 1
    unfold lst0
    rw [List.getLast_eq_getElem, List.getD_eq_getElem?_getD, List.getElem?_eq_getElem (by simp)]
    rfl
  have hall : ∀ u ∈ ledH t by_ :: r, Gd n q u := by
    intro u m
    rcases List.mem_cons.mp m with rfl | m
    · exact (h t List.mem_cons_self).ledH hq hb
    · exact h u (List.mem_cons_of_mem _ m)
  generalize hL : lst0 (ledH t by_ :: r) = L at hsplit ⊢
  have hLm : L ∈ ledH t by_ :: r := by rw [hsplit]; simp
  generalize ledH t by_ :: r = w at hsplit hall hLm ⊢
  generalize w.dropLast = w' at hsplit ⊢
  subst hsplit
  rw [ledTo_append, ledTo_append]
  have hr : 0 ≤ ledTo b w' x ∧ ledTo b w' x < q := ledTo_rng hx (Gd.wok fun u m => hall u (List.mem_append_left _ m))
  show at0 (own b (behindT L by_)) (ledTo b w' x) = at0 by_ (at0 (own b L) (ledTo b w' x))
  rw [own_behind, thenO_at]
  have := (hall L hLm).own (b := b)
  have := this.len
  omega
theorem ledW_gd {q : Int} {n : Nat} {t : Tn} {r : List Tn} {by_ : List Int} (hq : 0 ≤ q) (h : ∀ u ∈ t :: r, Gd n q u) (hb : Pm q by_) : ∀ u ∈ ledW t r by_, Gd n q u := by
  have hall : ∀ u ∈ ledH t by_ :: r, Gd n q u := by
    intro u m
    rcases List.mem_cons.mp m with rfl | m
    · exact (h t List.mem_cons_self).ledH hq hb
    · exact h u (List.mem_cons_of_mem _ m)
  intro u m
  unfold ledW at m
  rcases List.mem_append.mp m with m | m
  · exact hall u ((List.dropLast_sublist _).subset m)
  · rw [List.mem_singleton.mp m]
    refine (hall _ ?_).behind hq hb
    unfold lst0
    rw [List.getD_eq_getElem?_getD, List.getElem?_eq_getElem (by simp)]
    exact List.getElem_mem _
theorem led_word {q : Int} {n : Nat} {b : List Int} {t : Tn} {r : List Tn} {by_ : List Int} (hq : 0 ≤ q) (h : ∀ u ∈ t :: r, Gd n q u) (hb : Pm q by_) :
    comes q ((ledW t r by_).map (own b)) = thenO (thenO (undone by_) (comes q ((t :: r).map (own b)))) by_ := by
  have hl := hb.len
  refine ext_at (comes_len hq _) (by rw [thenO_len, thenO_len, undone_len]; exact hl) fun x h0 h1 => ?_
  rw [comes_led ⟨h0, h1⟩, ledW_led hq h hb ⟨h0, h1⟩, thenO_at (by rw [thenO_len, undone_len]; omega), thenO_at (by rw [undone_len]; omega), comes_led (undone_rng hb ⟨h0, h1⟩)]
def lawSt (os : List (List Int)) (x : Int) : List Int × Int := os.foldl (fun s o => (s.1 ++ [at0 o s.2], at0 o s.2)) ([], x)
theorem lawSt_is {q : Int} {tw : List Tn} {b : List Int} {x : Int} (hx : 0 ≤ x ∧ x < q) : (lawSt (plain q :: tw.map (own b)) x).1 = states tw b x := by
  have : ∀ (tw : List Tn) (s : List Int) (y : Int), 0 < s.length → lst0 s = y → ((tw.map (own b)).foldl (fun (s : List Int × Int) o => (s.1 ++ [at0 o s.2], at0 o s.2)) (s, y)).1 = tw.foldl (sStep b) s := by
    intro tw
    induction tw with
    | nil => intro s y _ _; rfl
    | cons t tw ih =>
      intro s y h0 hy
      rw [List.map_cons, List.foldl_cons, List.foldl_cons]
      show ((tw.map (own b)).foldl _ (s ++ [at0 (own b t) y], at0 (own b t) y)).1 = _
      rw [ih _ _ (by simp) (lst0_snoc _ _)]
      unfold sStep
      rw [hy]; rfl
  unfold lawSt
  rw [List.foldl_cons]
  show ((tw.map (own b)).foldl _ ([at0 (plain q) x], at0 (plain q) x)).1 = _
  rw [plain_at hx]
  exact this tw [x] x (by simp) rfl
theorem aGet_put {κ β : Type} [DecidableEq κ] (s : List (κ × β)) (k j : κ) (v : β) : aGet (aPut s k v) j = if k = j then some v else aGet s j := by
  unfold aPut
  split
  · rename_i h
    induction s with
    | nil => simp at h
    | cons e s ih =>
      unfold aGet at ih ⊢
      rw [List.map_cons, List.find?_cons, List.find?_cons]
      by_cases hk : e.1 = k
      · rw [if_pos hk]
        by_cases hj : k = j
        · have h1 : decide ((e.1, v).1 = j) = true := by simp [hk, hj]
          rw [h1, if_pos hj]; rfl
        · have h1 : decide ((e.1, v).1 = j) = false := by simp [hk, hj]
          have h2 : decide (e.1 = j) = false := by simp [hk, hj]
          rw [h1, if_neg hj]
          try rw [h2]
          by_cases ha : (s.any fun e => decide (e.1 = k)) = true
          · have := ih ha
            rw [if_neg hj] at this; exact this
          · -- nothing else of this key
            have hs : s.map (fun e => if e.1 = k then (e.1, v) else e) = s := by
              conv => rhs; rw [← List.map_id s]
              refine List.map_congr_left fun x hx => ?_
              rw [if_neg]; · rfl
              intro z
              exact ha (List.any_eq_true.mpr ⟨x, hx, by simpa using z⟩)
            simp only [hs]
      · rw [if_neg hk]
        have ha : (s.any fun e => decide (e.1 = k)) = true := by
          rw [List.any_cons] at h
          have : decide (e.1 = k) = false := by simp [hk]
          rwa [this, Bool.false_or] at h
        have := ih ha
        by_cases hj : e.1 = j
        · have h1 : decide (e.1 = j) = true := by simp [hj]
          rw [h1, if_neg (fun z => hk (hj.trans z.symm))]
        · have h1 : decide (e.1 = j) = false := by simp [hj]
          rw [h1]; exact this
  · rename_i h
    unfold aGet
    rw [List.find?_append]
    by_cases hj : k = j
    · rw [if_pos hj]
      have : s.find? (fun e => decide (e.1 = j)) = none := by
        refine List.find?_eq_none.mpr fun x hx z => h (List.any_eq_true.mpr ⟨x, hx, ?_⟩)
        rw [hj]; exact z
      rw [this]
      have h1 : decide ((k, v).1 = j) = true := by simp [hj]
      simp [List.find?_cons, hj]
    · rw [if_neg hj]
      have h1 : [(k, v)].find? (fun e => decide (e.1 = j)) = none := by simp [hj]
      rw [h1]; simp
def cIn (o b : List Int) (s : List ((Int × Int) × List (List Int))) (x : Nat) : List ((Int × Int) × List (List Int)) := aPut s ((x : Int), at0 o (x : Int)) ((aGet s ((x : Int), at0 o (x : Int))).getD [] ++ [b])
def cStep (q : Int) (tw : List Tn) (s : List ((Int × Int) × List (List Int))) (b : List Int) : List ((Int × Int) × List (List Int)) := (List.range q.toNat).foldl (cIn (comes q (tw.map (own b))) b) s
def cAll (n : Nat) (q : Int) (tw : List Tn) : List ((Int × Int) × List (List Int)) := (allRows 2 n).foldl (cStep q tw) []
def byRows (rows : List (List Int)) (tw : List Tn) (x y : Int) : List (List Int) := rows.filter fun b => decide (ledTo b tw x = y)
def opt {β : Type} : List β → Option (List β)
  | [] => none
  | l => some l
theorem opt_getD {β : Type} (l : List β) : (opt l).getD [] = l := by cases l <;> rfl
theorem opt_snoc {β : Type} (l : List β) (v : β) : opt (l ++ [v]) = some (l ++ [v]) := by cases l <;> rfl
theorem cIn_all {q : Int} {tw : List Tn} {b : List Int} {rows : List (List Int)} : ∀ (xs : List Nat) (s : List ((Int × Int) × List (List Int))) (done : List Nat), (done ++ xs).Nodup → (∀ x ∈ xs, (x : Int) < q) →
    (∀ x y : Int, 0 ≤ x → x < q → aGet s (x, y) = opt (byRows (if x.toNat ∈ done then rows ++ [b] else rows) tw x y)) →
    ∀ x y : Int, 0 ≤ x → x < q → aGet (xs.foldl (cIn (comes q (tw.map (own b))) b) s) (x, y) = opt (byRows (if x.toNat ∈ done ++ xs then rows ++ [b] else rows) tw x y)
  | [], s, done, _, _, h, x, y, h0, h1 => by rw [List.append_nil]; exact h x y h0 h1
  | a :: xs, s, done, nd, hr, h, x, y, h0, h1 => by
    rw [List.foldl_cons]
    have e : done ++ a :: xs = (done ++ [a]) ++ xs := by simp
    rw [e] at nd ⊢
    refine cIn_all xs _ (done ++ [a]) nd (fun z m => hr z (List.mem_cons_of_mem _ m)) (fun x y h0 h1 => ?_) x y h0 h1
    have ha : (a : Int) < q := hr a List.mem_cons_self
    have hnd : a ∉ done := fun z => (List.nodup_append.mp (List.nodup_append.mp nd).1).2.2 a z a (by simp) rfl
    have hled := comes_led (tw := tw) (b := b) (x := (a : Int)) (q := q) ⟨by omega, ha⟩
    have hga := h a (at0 (comes q (tw.map (own b))) a) (by omega) ha
    rw [if_neg (show (a : Int).toNat ∉ done by simpa using hnd)] at hga
    unfold cIn
    rw [aGet_put, hga, opt_getD]
    by_cases hk : ((a : Int), at0 (comes q (tw.map (own b))) (a : Int)) = (x, y)
    · rw [if_pos hk]
      obtain ⟨rfl, rfl⟩ := Prod.mk.inj hk
      rw [if_pos (by simp), ← opt_snoc]
      congr 1
      unfold byRows
      rw [List.filter_append, hled]
      simp
    · rw [if_neg hk, h x y h0 h1]
      congr 1
      by_cases hxa : x.toNat = a
      · -- x is a, y another thing
        have hx : x = (a : Int) := by omega
        subst hx
        rw [if_neg (by simpa using hnd), if_pos (by simp)]
        unfold byRows
        rw [List.filter_append]
        have : ¬ ledTo b tw (a : Int) = y := fun z => hk (by rw [hled, z])
        simp [this]
      · have : (x.toNat ∈ done ++ [a]) ↔ x.toNat ∈ done := by simp [hxa]
        by_cases hd : x.toNat ∈ done
        · rw [if_pos hd, if_pos (this.mpr hd)]
        · rw [if_neg hd, if_neg (fun z => hd (this.mp z))]
theorem cAll_go {q : Int} {tw : List Tn} (hq : 0 ≤ q) : ∀ (bs rows : List (List Int)) (s : List ((Int × Int) × List (List Int))), (∀ x y : Int, 0 ≤ x → x < q → aGet s (x, y) = opt (byRows rows tw x y)) →
    ∀ x y : Int, 0 ≤ x → x < q → aGet (bs.foldl (cStep q tw) s) (x, y) = opt (byRows (rows ++ bs) tw x y)
  | [], rows, s, h, x, y, h0, h1 => by rw [List.append_nil]; exact h x y h0 h1
  | b :: bs, rows, s, h, x, y, h0, h1 => by
    rw [List.foldl_cons, show rows ++ b :: bs = (rows ++ [b]) ++ bs by simp]
    refine cAll_go hq bs (rows ++ [b]) _ (fun x y h0 h1 => ?_) x y h0 h1
    have := cIn_all (q := q) (tw := tw) (b := b) (rows := rows) (List.range q.toNat) s [] (by simpa using List.nodup_range) (fun z m => by have := List.mem_range.mp m; omega) (fun x y h0 h1 => by rw [if_neg (by simp)]; exact h x y h0 h1) x y h0 h1
    rw [List.nil_append, if_pos (List.mem_range.mpr (by omega))] at this
    exact this
theorem cAll_get {n : Nat} {q : Int} {tw : List Tn} {x y : Int} (hx : 0 ≤ x ∧ x < q) : aGet (cAll n q tw) (x, y) = opt (byRows (allRows 2 n) tw x y) := by
  have := cAll_go (q := q) (tw := tw) (by omega) (allRows 2 n) [] [] (fun x y _ _ => rfl) x y hx.1 hx.2
  rwa [List.nil_append] at this
theorem ldIn_all' {q : Int} {tw : List Tn} {b : List Int} {rows : List (List Int)} (hl : ∀ x : Int, 0 ≤ x → x < q → 0 ≤ ledTo b tw x ∧ ledTo b tw x < q) : ∀ (xs : List Nat) (s : List (List Int)) (done : List Nat), (done ++ xs).Nodup → (∀ x ∈ xs, (x : Int) < q) → Sq q s →
    (∀ x y : Nat, (x : Int) < q → (y : Int) < q → at0 (at0 s (x : Int)) (y : Int) = ((byRows (if x ∈ done then rows ++ [b] else rows) tw x y).length : Int)) →
    Sq q (xs.foldl (ldIn tw b) s) ∧ ∀ x y : Nat, (x : Int) < q → (y : Int) < q → at0 (at0 (xs.foldl (ldIn tw b) s) (x : Int)) (y : Int) = ((byRows (if x ∈ done ++ xs then rows ++ [b] else rows) tw x y).length : Int)
  | [], s, done, _, _, hs, h => by rw [List.append_nil]; exact ⟨hs, h⟩
  | a :: xs, s, done, nd, hr, hs, h => by
    rw [List.foldl_cons]
    have e : done ++ a :: xs = (done ++ [a]) ++ xs := by simp
    rw [e] at nd ⊢
    have ha : (a : Int) < q := hr a List.mem_cons_self
    have hnd : a ∉ done := fun z => (List.nodup_append.mp (List.nodup_append.mp nd).1).2.2 a z a (by simp) rfl
    have hL := hl a (by omega) ha
    have hlen := hs.1
    have hrow := hs.2 a ha
    have hsq : Sq q (ldIn tw b s a) := by
      unfold ldIn
      refine ⟨by rw [List.length_set]; exact hs.1, fun i hi => ?_⟩
      rw [at0_set _ _ _ _ (by omega)]
      split
      · rename_i z; subst z; rw [List.length_set]; exact hrow
      · exact hs.2 i hi
    refine ldIn_all' hl xs _ (done ++ [a]) nd (fun z m => hr z (List.mem_cons_of_mem _ m)) hsq fun x y hx hy => ?_
    unfold ldIn
    rw [states_last, at0_set _ _ _ _ (by omega)]
    by_cases hxa : a = x
    · subst hxa
      rw [if_pos rfl, if_pos (by simp), at0_set _ _ _ _ (by omega)]
      have h1 := h a y ha hy
      rw [if_neg hnd] at h1
      have hbr : byRows (rows ++ [b]) tw a y = byRows rows tw a y ++ if ledTo b tw a = y then [b] else [] := by
        unfold byRows
        rw [List.filter_append]
        by_cases z : ledTo b tw a = y <;> simp [z]
      rw [hbr, List.length_append]
      by_cases hz : ledTo b tw a = (y : Int)
      · rw [if_pos (by omega), if_pos hz, hz, h1]; simp
      · rw [if_neg (by omega), if_neg hz, h1]; simp
    · rw [if_neg hxa, h x y hx hy]
      have : (x ∈ done ++ [a]) ↔ x ∈ done := by
        rw [List.mem_append, List.mem_singleton]
        exact ⟨fun z => z.resolve_right fun z => hxa z.symm, .inl⟩
      by_cases hd : x ∈ done
      · rw [if_pos hd, if_pos (this.mpr hd)]
      · rw [if_neg hd, if_neg (fun z => hd (this.mp z))]
theorem ld_go {q : Int} {tw : List Tn} (hl : ∀ b : List Int, ∀ x : Int, 0 ≤ x → x < q → 0 ≤ ledTo b tw x ∧ ledTo b tw x < q) : ∀ (bs rows : List (List Int)) (s : List (List Int)), Sq q s →
    (∀ x y : Nat, (x : Int) < q → (y : Int) < q → at0 (at0 s (x : Int)) (y : Int) = ((byRows rows tw x y).length : Int)) →
    Sq q (bs.foldl (ldStep q tw) s) ∧ ∀ x y : Nat, (x : Int) < q → (y : Int) < q → at0 (at0 (bs.foldl (ldStep q tw) s) (x : Int)) (y : Int) = ((byRows (rows ++ bs) tw x y).length : Int)
  | [], rows, s, hs, h => by rw [List.append_nil]; exact ⟨hs, h⟩
  | b :: bs, rows, s, hs, h => by
    rw [List.foldl_cons, show rows ++ b :: bs = (rows ++ [b]) ++ bs by simp]
    obtain ⟨h1, h2⟩ := ldIn_all' (q := q) (tw := tw) (b := b) (rows := rows) (hl b) (List.range q.toNat) s [] (by simpa using List.nodup_range) (fun z m => by have := List.mem_range.mp m; omega) hs (fun x y hx hy => by rw [if_neg (by simp)]; exact h x y hx hy)
    refine ld_go hl bs (rows ++ [b]) _ h1 fun x y hx hy => ?_
    have := h2 x y hx hy
    rw [List.nil_append, if_pos (List.mem_range.mpr (by omega))] at this
    exact this
def lawNum (q : Int) (c : List ((Int × Int) × List (List Int))) : List (List Int) := (List.range q.toNat).map fun (x : Nat) => (List.range q.toNat).map fun (y : Nat) => ((((aGet c ((x : Int), (y : Int))).getD []).length : Nat) : Int)
theorem numbers_are {n : Nat} {q : Int} {tw : List Tn} (hq : 0 ≤ q) (hl : ∀ b : List Int, ∀ x : Int, 0 ≤ x → x < q → 0 ≤ ledTo b tw x ∧ ledTo b tw x < q) : ldRows n q tw = lawNum q (cAll n q tw) := by
  have h0 : Sq q ((List.range q.toNat).map fun (_ : Nat) => List.replicate q.toNat (0 : Int)) := by
    refine ⟨by simp; omega, fun i hi => ?_⟩
    rw [at0_nat (by simp; omega)]
    simp; omega
  obtain ⟨h1, h2⟩ := ld_go hl (allRows 2 n) [] _ h0 fun x y hx hy => by
    rw [at0_nat (l := (List.range q.toNat).map fun (_ : Nat) => List.replicate q.toNat (0 : Int)) (by simp; omega), List.getElem_map, at0_nat (by simp; omega)]
    simp [byRows]
  rw [List.nil_append] at h2
  show (allRows 2 n).foldl (ldStep q tw) _ = _
  generalize (allRows 2 n).foldl (ldStep q tw) ((List.range q.toNat).map fun (_ : Nat) => List.replicate q.toNat (0 : Int)) = s at h1 h2 ⊢
  have hlen := h1.1
  unfold lawNum
  apply List.ext_getElem
  · simp; omega
  · intro i hi hi2
    have hrow := h1.2 i (by omega)
    rw [at0_nat hi] at hrow
    rw [List.getElem_map, List.getElem_range]
    apply List.ext_getElem
    · simp; omega
    · intro j hj hj2
      have := h2 i j (by omega) (by omega)
      rw [at0_nat hi, at0_nat hj] at this
      rw [this, List.getElem_map, List.getElem_range]
      rw [cAll_get ⟨by omega, by omega⟩, opt_getD]
theorem find_head {rows : List (List Int)} {tw : List Tn} {x y : Int} : rows.find? (fun b => decide (lst0 (states tw b x) = y)) = (byRows rows tw x y).head? := by
  unfold byRows
  rw [List.head?_filter]
  congr 1
  funext b
  rw [states_last]
end K87
end
section
set_option Elab.async false
set_option linter.all false
set_option maxRecDepth 100000
set_option maxHeartbeats 4000000
local macro_rules | `(tactic| walk_at "imm") => `(tactic| first
  | exact DL.imm_int
  | exact DL.imm_str
  | exact DL.imm_non
  | exact DL.imm_bl
  | exact DL.imm_nt
  | exact DL.immAll_nil
  | assumption
  | (refine DL.immAll_map ?_; intro _; walk_at "imm")
  | (refine DL.immAll_cons ?_ ?_ <;> walk_at "imm")
  | (refine DL.immAll_append ?_ ?_ <;> walk_at "imm")
  | (refine DL.immAll_rep ?_; walk_at "imm")
  | (refine DL.immAll_mem ?_; walk_at "imm")
  | (intro _ _; walk_at "imm")
  | (refine ⟨?_, ?_⟩ <;> walk_at "imm")
  | (refine DL.immT ?_; assumption))
local macro_rules | `(tactic| walk_at "hu") => `(tactic| exact L2.Room.units (by assumption))
local macro_rules | `(tactic| walk_at "loc") => `(tactic| first | exact Or.inl rfl | exact Or.inr rfl)
local macro_rules | `(tactic| walk_at "room") => `(tactic| first | assumption | exact L2.Room.mono (by assumption) (by decide))
local macro_rules | `(tactic| walk_at "side") => `(tactic| first | assumption | omega | (unfold L2.CMul; omega) | (unfold L2.CDiv; omega) | (have sizeLine_eq1 := PySem.sizeLine_eq; simp only [List.length_map]; omega) | (have sizeLine_eq' := PySem.sizeLine_eq; omega) | (simp; done) | rfl)
local macro_rules | `(tactic| walk_at "size") => `(tactic| ((show _ ≤ 16777216); exact Nat.le_of_ble_eq_true rfl))
local macro_rules | `(tactic| walk_at "sh") => `(tactic| first
  | exact DL.sh_int
  | exact DL.sh_bl
  | exact DL.sh_non
  | exact DL.sh_str (by decide +kernel)
  | exact DL.shA_nil
  | assumption
  | (refine DL.sh_of ?_; walk_at "sh")
  | (refine DL.shA_map ?_; intro _; walk_at "sh")
  | (refine DL.shA_cons ?_ ?_ <;> walk_at "sh")
  | (refine DL.shA_app ?_ ?_ <;> walk_at "sh")
  | (refine DL.sh_tup ?_; walk_at "sh")
  | (refine DL.sh_lst ?_; walk_at "sh"))
namespace K87
open PySem PySem.Spec L2 DL
section
variable {P : Program} {w : World} {K : PySem.W.Frag} {mg : Str → Option Value} {base : Heap}
abbrev s_pt : Stmt := top 9
abbrev N_pt : List Str := ["p", "arrows", "found", "i", "j", "k", "c", "key"]
theorem sc_pt : FnScope N_pt ["p", "arrows"] (defScope s_pt) := ⟨rfl, rfl, rfl, by decide +kernel, rfl, by decide +kernel, by decide +kernel⟩
def arK (a : Ar) : List Int := [a.i, a.j, a.k]
def dAr (t : List Ar) : List (List Int × Int) := t.map fun a => (arK a, a.c)
theorem arK_iff {a b : Ar} : arK b = arK a ↔ sameK a b = true := by
  rw [sameK_iff]
  unfold arK
  simp only [List.cons.injEq, and_true]
  constructor
  · rintro ⟨h1, h2, h3⟩; exact ⟨h1.symm, h2.symm, h3.symm⟩
  · rintro ⟨h1, h2, h3⟩; exact ⟨h1.symm, h2.symm, h3.symm⟩
theorem dAr_get (a : Ar) : ∀ t : List Ar, aGet (dAr t) (arK a) = (t.find? (sameK a)).map (·.c)
  | [] => rfl
  | b :: t => by
    show aGet ((arK b, b.c) :: dAr t) (arK a) = _
    rw [aGet_cons, List.find?_cons]
    by_cases h : sameK a b = true
    · rw [if_pos (arK_iff.mpr h), h]; rfl
    · rw [if_neg (fun z => h (arK_iff.mp z)), dAr_get a t, show sameK a b = false by simpa using h]
theorem dAr_put (p : Int) (t : List Ar) (a : Ar) : aPut (dAr t) (arK a) ((getC t a + a.c) % p) = dAr (putAr p t a) := by
  have hany : ((dAr t).any fun e => decide (e.1 = arK a)) = t.any (sameK a) := by
    unfold dAr
    rw [List.any_map]
    congr 1
    funext b
    show decide (arK b = arK a) = sameK a b
    by_cases h : sameK a b = true
    · rw [h, decide_eq_true (arK_iff.mpr h)]
    · rw [show sameK a b = false by simpa using h, decide_eq_false (fun z => h (arK_iff.mp z))]
  unfold aPut putAr
  rw [hany]
  split
  · unfold dAr
    rw [List.map_map, List.map_map]
    refine List.map_congr_left fun b _ => ?_
    show (if arK b = arK a then (arK b, (getC t a + a.c) % p) else (arK b, b.c)) = (arK (if sameK a b = true then ⟨b.i, b.j, b.k, (getC t a + a.c) % p⟩ else b), (if sameK a b = true then ⟨b.i, b.j, b.k, (getC t a + a.c) % p⟩ else b).c)
    by_cases h : sameK a b = true
    · rw [if_pos (arK_iff.mpr h), if_pos h]; rfl
    · rw [if_neg (fun z => h (arK_iff.mp z)), if_neg h]
  · unfold dAr
    rw [List.map_append]; rfl
theorem dAr_nd {t : List Ar} (h : KNd t) : ((dAr t).map (·.1)).Nodup := by
  unfold dAr
  rw [List.map_map, List.nodup_iff_pairwise_ne, List.pairwise_map]
  refine h.imp ?_
  intro a b hab z
  have := arK_iff.mp (show arK b = arK a from z.symm)
  rw [hab] at this; cases this
theorem le4_is : PySem.W.dataLe false dA = le4 := by
  funext a b
  rw [PySem.W.dataLe_eq]
  show (!PySem.W.dataLt (dA b) (dA a)) = le4 a b
  have e : ∀ x y : Ar, PySem.W.dataLt (dA x) (dA y) = decide ([x.i, x.j, x.k, x.c] < [y.i, y.j, y.k, y.c]) := fun x y => PySem.W.dataLt_ints [x.i, x.j, x.k, x.c] [y.i, y.j, y.k, y.c]
  rw [e]
  have h : ([b.i, b.j, b.k, b.c] < [a.i, a.j, a.k, a.c]) ↔ le4 a b = false := by
    simp only [List.cons_lt_cons_iff, List.not_lt_nil, and_false, or_false]
    unfold le4
    (repeat' split) <;> simp only [decide_eq_false_iff_not] <;> omega
  by_cases q : [b.i, b.j, b.k, b.c] < [a.i, a.j, a.k, a.c]
  · rw [decide_eq_true q, h.mp q]; rfl
  · rw [decide_eq_false q]
    cases z : le4 a b with
    | true => rfl
    | false => exact absurd (h.mpr z) q
theorem units_ok {X : Cx} {k : Nat} (hu : X.A.units + 64 < cLine) (h : k ≤ 1) : X.A.units + 2 + k < cLine := by omega
def S_pt (ds : List PyData) (d : PyData) : Prop := ∃ (p : Int) (as : List Ar), ds = [.int p, .list (as.map dA)] ∧ 0 < p ∧ as.length ≤ 1000000 ∧ d = .tuple ((putTog p as).map dA)
theorem ok_pt (T : Txt mg) {f : Addr} {fd : FuncData} (F : Fun K "put_together" "put_together" s_pt f fd) : FnOk P w K mg base CX0 1 f fd ["p", "arrows"] (spD K S_pt) := by
  refine fn_pure F sc_pt (fun ds d h => ?_) fun cdv A outer s H E hr ds d h => ?_
  · obtain ⟨p, as, rfl, _⟩ := h
    rfl
  obtain ⟨p, as, rfl, hp, hl, rfl⟩ := h
  have hu := hr.units
  have hz := PySem.sizeLine_eq
  refine dss_seq (ds_set 2 sc_pt.nd rfl (by walk_at "loc") (pf_dicT0 (vf := PyData.int))) ?_
  rintro _ _ ⟨rfl, rfl⟩
  refine dss_seq (ds_foldS [3, 4, 5, 6] 1 2 (fun t : List Ar => dicT .int (dAr t)) (putAr p) [] PassesOwn.never rfl (pi_list (pv 1)) rfl (by walk_at "imm") rfl (by rfl) ?_) ?_
  · rintro pre1 b1 post1 hl1
    have hnd : KNd (pre1.foldl (putAr p) []) := fold_nd pre1 [] List.Pairwise.nil
    have hln := fold_len (p := p) pre1 []
    have hpl : pre1.length ≤ as.length := by rw [hl1]; simp
    generalize pre1.foldl (putAr p) [] = t at hnd hln ⊢
    have hlt : (dAr t).length = t.length := by unfold dAr; simp
    refine ⟨_, gst_tup rfl (gsts_cons (gst_name (pg_name (i := 3) sc_pt.nd rfl (by walk_at "loc"))) (gsts_cons (gst_name (pg_name (i := 4) sc_pt.nd rfl (by walk_at "loc"))) (gsts_cons (gst_name (pg_name (i := 5) sc_pt.nd rfl (by walk_at "loc"))) (gsts_cons (gst_name (pg_name (i := 6) sc_pt.nd rfl (by walk_at "loc"))) gsts_nil)))), ?_⟩
    refine dss_seq (ds_putT (l := arK b1) (v := (getC t b1 + b1.c) % p) 2 hu (pv 2) rfl (ky_tup (pas_cons (pp_var 3 (pv 3)) (pas_cons (pp_var 4 (pv 4)) (pas_cons (pp_var 5 (pv 5)) pas_nil))) (by unfold arK; simp; omega))
      (pf_mod (toP (pf_add (cP (pp_getT (l := arK b1) hu (pp_var 2 (pv 2)) (ky_tup (pas_cons (pp_var 3 (pv 3)) (pas_cons (pp_var 4 (pv 4)) (pas_cons (pp_var 5 (pv 5)) pas_nil))) (by unfold arK; simp; omega)) (toP (pf_int (i := 0)))) (d1 := .int (getC t b1)) ?_) (pp_var 6 (pv 6)))) (pp_var 0 (pv 0)) hp) ?_ (dAr_nd hnd)) ?_
    · rw [dAr_get]; unfold getC; cases t.find? (sameK b1) <;> rfl
    · rw [hlt]; simp at hln; omega
    rintro _ _ ⟨rfl, rfl⟩
    refine dss_nil (.keep (.keep (.keep (.drop (.drop (.drop (.drop (.keep .nil)))))))) ⟨rfl, _, rfl, ?_⟩
    · rw [dAr_put]
  rintro _ _ ⟨rfl, rfl⟩
  refine dss_lockT 2 ?_ rfl
  have hkl := fold_len (p := p) as []
  have hkept : as.foldl (putAr p) [] = as.foldl (putAr p) [] := rfl
  have e1 : ((dAr (as.foldl (putAr p) [])).filter fun e => !decide (e.2 = 0)).map (fun e => PyData.tuple (e.1.map .int ++ [.int e.2])) = (kept p as).map dA := by
    unfold dAr kept
    rw [List.filter_map, List.map_map]
    have e2 : ((fun e : List Int × Int => !decide (e.2 = 0)) ∘ fun a : Ar => (arK a, a.c)) = fun a => decide (a.c ≠ 0) := by
      funext a
      show (!decide (a.c = 0)) = decide (a.c ≠ 0)
      by_cases h : a.c = 0 <;> simp [h]
    rw [e2]; rfl
  generalize hT : as.foldl (putAr p) [] = t at hkl e1 ⊢
  have hlt : (dAr t).length = t.length := by unfold dAr; simp
  have hw : ∀ e ∈ dAr t, e.1.length ≤ sizeLine := by
    intro e he
    unfold dAr at he
    obtain ⟨a, _, rfl⟩ := List.mem_map.mp he
    show 3 ≤ sizeLine
    omega
  have hw3 : ∀ e ∈ dAr t, e.1.length = 3 := by
    intro e he
    unfold dAr at he
    obtain ⟨a, _, rfl⟩ := List.mem_map.mp he
    rfl
  refine ds_one (ds_ret (pf_tuple (cF (pf_sorted (enc := dA) (bs := kept p as) (cP (toP (pf_lcIf (l := dAr t) (g := fun e : List Int × Int => PyData.tuple (e.1.map .int ++ [.int e.2])) (own := [("key", 7), ("c", 6)]) (q := fun e => !decide (e.2 = 0)) rfl sc_pt.nd (toI (pi_itemsTD (pp_var 2 (pv 2)) (by rw [hlt]; simp at hkl; omega) hw)) (blkOk_by (own := [("key", 7), ("c", 6)]) (N := N_pt) (sc := defScope s_pt) (by decide +kernel))
      (fun _ _ _ _ _ a1 h1 => gd_tup rfl (gds_cons (gd_name (pg_name (i := 7) sc_pt.nd rfl (by walk_at "loc"))) (gds_cons (gd_name (pg_name (i := 6) sc_pt.nd rfl (by walk_at "loc"))) gds_nil)))
      (fun _ _ _ _ _ a1 h1 => pts_one (pt_c c_neI (pp_var 6 (pv 6)) (toP pf_int)))
      (fun _ _ _ _ _ a1 h1 hq1 => toF (pp_catT (pp_var 7 (pv 7)) (toP (pf_tup (fas_cons (toF (pp_var 6 (pv 6)) (by walk_at "imm")) fas_nil) (by walk_at "size"))) (by rw [List.length_map, hw3 a1 h1]; simp; omega)) (by walk_at "imm")))) (congrArg PyData.list e1)) (by walk_at "imm") (fun b _ => by simp [dA, PyData.canLay0, PyData.canLayAll0]) (PySem.W.AllAlike.of fun a b => by simp [dA, PySem.W.alike, PySem.W.alikeAll]) (PySem.W.Sortable.tuples fun b => ⟨_, _, rfl⟩) (fun b _ => by
        have : (dA b).depth ≤ 1 := by simp [dA, PyData.depth, PyData.depthAll]
        exact units_ok hu this) rfl T.sorted) (d1 := .list ((putTog p as).map dA)) (by rw [le4_is]; rfl)) rfl T.tuple) ?_)
  rfl
end
end K87
end
section
set_option Elab.async false
set_option linter.all false
set_option maxRecDepth 100000
set_option maxHeartbeats 4000000
local macro_rules | `(tactic| walk_at "imm") => `(tactic| first
  | exact DL.imm_int
  | exact DL.imm_str
  | exact DL.imm_non
  | exact DL.imm_bl
  | exact DL.imm_nt
  | exact DL.immAll_nil
  | assumption
  | (refine DL.immAll_map ?_; intro _; walk_at "imm")
  | (refine DL.immAll_cons ?_ ?_ <;> walk_at "imm")
  | (refine DL.immAll_append ?_ ?_ <;> walk_at "imm")
  | (refine DL.immAll_rep ?_; walk_at "imm")
  | (refine DL.immAll_mem ?_; walk_at "imm")
  | (intro _ _; walk_at "imm")
  | (refine ⟨?_, ?_⟩ <;> walk_at "imm")
  | (refine DL.immT ?_; assumption))
local macro_rules | `(tactic| walk_at "hu") => `(tactic| exact L2.Room.units (by assumption))
local macro_rules | `(tactic| walk_at "loc") => `(tactic| first | exact Or.inl rfl | exact Or.inr rfl)
local macro_rules | `(tactic| walk_at "room") => `(tactic| first | assumption | exact L2.Room.mono (by assumption) (by decide))
local macro_rules | `(tactic| walk_at "side") => `(tactic| first | assumption | omega | (unfold L2.CMul; omega) | (unfold L2.CDiv; omega) | (have sizeLine_eq1 := PySem.sizeLine_eq; simp only [List.length_map]; omega) | (have sizeLine_eq' := PySem.sizeLine_eq; omega) | (simp; done) | rfl)
local macro_rules | `(tactic| walk_at "size") => `(tactic| ((show _ ≤ 16777216); exact Nat.le_of_ble_eq_true rfl))
local macro_rules | `(tactic| walk_at "sh") => `(tactic| first
  | exact DL.sh_int
  | exact DL.sh_bl
  | exact DL.sh_non
  | exact DL.sh_str (by decide +kernel)
  | exact DL.shA_nil
  | assumption
  | (refine DL.sh_of ?_; walk_at "sh")
  | (refine DL.shA_map ?_; intro _; walk_at "sh")
  | (refine DL.shA_cons ?_ ?_ <;> walk_at "sh")
  | (refine DL.shA_app ?_ ?_ <;> walk_at "sh")
  | (refine DL.sh_tup ?_; walk_at "sh")
  | (refine DL.sh_lst ?_; walk_at "sh"))
namespace K87
open PySem PySem.Spec L2 DL
section
variable {P : Program} {w : World} {K : PySem.W.Frag} {mg : Str → Option Value} {base : Heap}
abbrev s_pb : Stmt := top 12
abbrev N_pb : List Str := ["word", "first", "last", "t", "d", "turns", "x"]
theorem sc_pb : FnScope N_pb ["word", "first", "last", "t"] (defScope s_pb) := ⟨rfl, rfl, rfl, by decide +kernel, rfl, by decide +kernel, by decide +kernel⟩
def S_pb (ds : List PyData) (d : PyData) : Prop := ∃ (q : Int) (tw : List Tn) (x y : Int) (t : Nat), ds = [dW q tw, .int x, .int y, .int (t : Int)] ∧ (0 ≤ q ∧ q < 1000) ∧ d = dicI .int (plBeh q tw x y t)
theorem ok_pb (T : Txt mg) (G_wp : Fu P w K mg base "word_places" ["word"] 1 S_wp) {f : Addr} {fd : FuncData} (F : Fun K "places_behind" "places_behind" s_pb f fd) : FnOk P w K mg base CX0 2 f fd ["word", "first", "last", "t"] (spD K S_pb) := by
  refine fn_pure F sc_pb (fun ds d h => ?_) fun cdv A outer s H E hr ds d h => ?_
  · obtain ⟨q, tw, x, y, t, rfl, _⟩ := h
    rfl
  obtain ⟨q, tw, x, y, t, rfl, hq, rfl⟩ := h
  have hz := PySem.sizeLine_eq
  refine dss_seq (ds_asg (pp_var 0 (pv 0)) (by walk_at "imm") (gst_tup rfl (gsts_cons (gst_name (pg_name (i := 4) sc_pb.nd rfl (by walk_at "loc"))) (gsts_cons (gst_name (pg_name (i := 5) sc_pb.nd rfl (by walk_at "loc"))) gsts_nil)))) ?_
  rintro _ _ ⟨rfl, rfl⟩
  refine dss_ifR (pt_c c_eqI (pp_var 3 (pv 3)) (toP pf_int)) (fun hw => ?_) (fun hw => ?_)
  · refine ds_one (ds_ret (pf_dicI1 (pp_var 1 (pv 1)) (toP pf_int)) ?_)
    have : t = 0 := by simpa using hw
    subst this
    unfold plBeh
    rw [if_pos rfl]
  refine dss_ifR (pt_c c_eqI (pp_var 3 (pv 3)) (toP (pf_lenT (pp_var 5 (pv 5)) rfl T.len))) (fun hw2 => ?_) (fun hw2 => ?_)
  · refine ds_one (ds_ret (pf_dicI1 (j := places q tw) (pp_var 2 (pv 2)) (toP (pf_call G_wp (by walk_at "room") (pas_cons (pp_var 0 (pv 0)) pas_nil) (by exact ⟨q, tw, rfl, hq.1, hq.2, rfl⟩)))) ?_)
    have h1 : ¬ t = 0 := by simpa using hw
    have h2 : t = tw.length := by
      have := of_decide_eq_true hw2
      rw [List.length_map] at this
      omega
    unfold plBeh
    rw [if_neg h1, if_pos h2]
  refine ds_one (ds_ret (pf_dcI (l := List.range q.toNat) (kf := fun (x : Nat) => (x : Int)) (gf := fun (x : Nat) => 1 + q * ((t : Int) - 1) + (x : Int)) (own := [("x", 6)]) rfl sc_pb.nd (toI (pi_rng1 rfl T.range (pp_var 4 (pv 4)) hq.1 (by omega))) (blkOk_by (own := [("x", 6)]) (N := N_pb) (sc := defScope s_pb) (by decide +kernel))
    (fun _ _ _ _ _ a1 h1 => gd_name (pg_name (i := 6) sc_pb.nd rfl (by walk_at "loc")))
    (fun _ _ _ _ _ a1 h1 => pp_var 6 (pv 6))
    (fun _ _ _ _ _ a1 h1 => toP (pf_add (toP (pf_add (toP pf_int) (toP (pf_mul (pp_var 4 (pv 4)) (toP (pf_sub (pp_var 3 (pv 3)) (toP pf_int))) (by unfold L2.CMul; omega))))) (pp_var 6 (pv 6)))) ?_) ?_)
  · rw [List.nodup_iff_pairwise_ne, List.pairwise_map]
    exact (List.nodup_iff_pairwise_ne.mp List.nodup_range).imp fun h z => h (by omega)
  have h1 : ¬ t = 0 := by simpa using hw
  have h2 : ¬ t = tw.length := by
    have := of_decide_eq_false hw2
    rw [List.length_map] at this
    omega
  unfold plBeh
  rw [if_neg h1, if_neg h2]
end
end K87
end
section
set_option Elab.async false
set_option linter.all false
set_option maxRecDepth 100000
set_option maxHeartbeats 4000000
local macro_rules | `(tactic| walk_at "imm") => `(tactic| first
  | exact DL.imm_int
  | exact DL.imm_str
  | exact DL.imm_non
  | exact DL.imm_bl
  | exact DL.imm_nt
  | exact DL.immAll_nil
  | assumption
  | (refine DL.immAll_map ?_; intro _; walk_at "imm")
  | (refine DL.immAll_cons ?_ ?_ <;> walk_at "imm")
  | (refine DL.immAll_append ?_ ?_ <;> walk_at "imm")
  | (refine DL.immAll_rep ?_; walk_at "imm")
  | (refine DL.immAll_mem ?_; walk_at "imm")
  | (intro _ _; walk_at "imm")
  | (refine ⟨?_, ?_⟩ <;> walk_at "imm")
  | (refine DL.immT ?_; assumption))
local macro_rules | `(tactic| walk_at "hu") => `(tactic| exact L2.Room.units (by assumption))
local macro_rules | `(tactic| walk_at "loc") => `(tactic| first | exact Or.inl rfl | exact Or.inr rfl)
local macro_rules | `(tactic| walk_at "room") => `(tactic| first | assumption | exact L2.Room.mono (by assumption) (by decide))
local macro_rules | `(tactic| walk_at "side") => `(tactic| first | assumption | omega | (unfold L2.CMul; omega) | (unfold L2.CDiv; omega) | (have sizeLine_eq1 := PySem.sizeLine_eq; simp only [List.length_map]; omega) | (have sizeLine_eq' := PySem.sizeLine_eq; omega) | (simp; done) | rfl)
local macro_rules | `(tactic| walk_at "size") => `(tactic| ((show _ ≤ 16777216); exact Nat.le_of_ble_eq_true rfl))
local macro_rules | `(tactic| walk_at "sh") => `(tactic| first
  | exact DL.sh_int
  | exact DL.sh_bl
  | exact DL.sh_non
  | exact DL.sh_str (by decide +kernel)
  | exact DL.shA_nil
  | assumption
  | (refine DL.sh_of ?_; walk_at "sh")
  | (refine DL.shA_map ?_; intro _; walk_at "sh")
  | (refine DL.shA_cons ?_ ?_ <;> walk_at "sh")
  | (refine DL.shA_app ?_ ?_ <;> walk_at "sh")
  | (refine DL.sh_tup ?_; walk_at "sh")
  | (refine DL.sh_lst ?_; walk_at "sh"))
namespace K87
open PySem PySem.Spec L2 DL
section
variable {P : Program} {w : World} {K : PySem.W.Frag} {mg : Str → Option Value} {base : Heap}
abbrev s_ta : Stmt := top 13
abbrev N_ta : List Str := ["turn", "here", "behind", "k", "zero", "one", "found", "x", "place"]
theorem sc_ta : FnScope N_ta ["turn", "here", "behind"] (defScope s_ta) := ⟨rfl, rfl, rfl, by decide +kernel, rfl, by decide +kernel, by decide +kernel⟩
def S_ta (ds : List PyData) (d : PyData) : Prop := ∃ (t : Tn) (here beh : List (Int × Int)), ds = [dT t, lkI here, lkI beh] ∧ here.length ≤ 1000 ∧ (∀ e ∈ here, (0 ≤ e.1 ∧ e.1 < t.z.length) ∧ 0 ≤ e.1 ∧ e.1 < t.o.length) ∧ d = .list ((turnAr t here beh).map dA)
theorem ok_ta (T : Txt mg) {f : Addr} {fd : FuncData} (F : Fun K "turn_arrows" "turn_arrows" s_ta f fd) : FnOk P w K mg base CX0 1 f fd ["turn", "here", "behind"] (spD K S_ta) := by
  refine fn_pure F sc_ta (fun ds d h => ?_) fun cdv A outer s H E hr ds d h => ?_
  · obtain ⟨t, here, beh, rfl, _⟩ := h
    rfl
  obtain ⟨t, here, beh, rfl, hl, hh, rfl⟩ := h
  have hu := hr.units
  have hz := PySem.sizeLine_eq
  refine dss_seq (ds_asg (pp_var 0 (pv 0)) (by walk_at "imm") (gst_tup rfl (gsts_cons (gst_name (pg_name (i := 3) sc_ta.nd rfl (by walk_at "loc"))) (gsts_cons (gst_name (pg_name (i := 4) sc_ta.nd rfl (by walk_at "loc"))) (gsts_cons (gst_name (pg_name (i := 5) sc_ta.nd rfl (by walk_at "loc"))) gsts_nil))))) ?_
  rintro _ _ ⟨rfl, rfl⟩
  refine dss_seq (ds_set 6 sc_ta.nd rfl (by walk_at "loc") (pf_lst fas_nil (by walk_at "size"))) ?_
  rintro _ _ ⟨rfl, rfl⟩
  refine dss_seq (ds_fold1 (l := here) (f := fun e : Int × Int => PyData.tuple [.int e.1, .int e.2]) [7, 8] 6 (fun s : List Ar => .list (s.map dA)) (taStep t beh) [] PassesOwn.never rfl (pi_itemsI (pp_var 1 (pv 1)) (by omega)) (by walk_at "imm") rfl rfl ?_) ?_
  · rintro pre1 b1 post1 hl1
    have hm1 := mem_at hl1
    have hb1 := hh b1 hm1
    have hpl : pre1.length ≤ here.length := by rw [hl1]; simp
    have hsz : (pre1.foldl (taStep t beh) []).length ≤ pre1.length * 3 := turnAr_len t pre1 beh
    generalize pre1.foldl (taStep t beh) [] = s1 at hsz ⊢
    refine ⟨_, gst_tup rfl (gsts_cons (gst_name (pg_name (i := 7) sc_ta.nd rfl (by walk_at "loc"))) (gsts_cons (gst_name (pg_name (i := 8) sc_ta.nd rfl (by walk_at "loc"))) gsts_nil)), ?_⟩
    refine dss_ifS 6 (.list ((s1 ++ taZ t beh b1).map dA)) (pt_c (c_inL (i := at0 t.z b1.1) hu) (pp_ixM (f := PyData.int) (pp_var 4 (pv 4)) (pp_var 7 (pv 7)) hb1.1) (pp_var 2 (pv 2))) (fun hw => ?_) (fun hw => ?_) ?_
    · obtain ⟨y, hy⟩ := Option.isSome_iff_exists.mp hw
      have e1 : taZ t beh b1 = [⟨b1.2, y, -1, 1⟩, ⟨b1.2, y, t.k, -1⟩] := by unfold taZ; rw [show dLook beh (at0 t.z b1.1) = some y from hy]
      refine dss_seq (ds_ext 6 (pv 6) rfl (pf_lst (ds := [dA ⟨b1.2, y, -1, 1⟩, dA ⟨b1.2, y, t.k, -1⟩]) (fas_cons (pf_tup (fas_cons (toF (pp_var 8 (pv 8)) (by walk_at "imm")) (fas_cons (toF (pp_dixL hu (pp_var 2 (pv 2)) (pp_ixM (f := PyData.int) (pp_var 4 (pv 4)) (pp_var 7 (pv 7)) hb1.1) hy) (by walk_at "imm")) (fas_cons (pf_neg (toP pf_int)) (fas_cons pf_int fas_nil)))) (by walk_at "size"))
        (fas_cons (pf_tup (fas_cons (toF (pp_var 8 (pv 8)) (by walk_at "imm")) (fas_cons (toF (pp_dixL hu (pp_var 2 (pv 2)) (pp_ixM (f := PyData.int) (pp_var 4 (pv 4)) (pp_var 7 (pv 7)) hb1.1) hy) (by walk_at "imm")) (fas_cons (toF (pp_var 3 (pv 3)) (by walk_at "imm")) (fas_cons (pf_neg (toP pf_int)) fas_nil)))) (by walk_at "size")) fas_nil)) (by walk_at "size")) (by rw [List.length_map]; simp; omega)) ?_
      rintro _ _ ⟨rfl, rfl⟩
      refine dss_nil (Le.refl _) ⟨rfl, ?_⟩
      rw [e1, List.map_append]; rfl
    · have e1 : taZ t beh b1 = [] := by
        unfold taZ
        rw [show dLook beh (at0 t.z b1.1) = none by cases q : dLook beh (at0 t.z b1.1) with | none => rfl | some y => rw [show aGet beh (at0 t.z b1.1) = some y from q] at hw; cases hw]
      rw [e1, List.append_nil]; rfl
    have hsz2 : (taZ t beh b1).length ≤ 2 := by unfold taZ; cases dLook beh (at0 t.z b1.1) <;> simp
    refine dss_ifS 6 (.list ((taStep t beh s1 b1).map dA)) (pt_c (c_inL (i := at0 t.o b1.1) hu) (pp_ixM (f := PyData.int) (pp_var 5 (pv 5)) (pp_var 7 (pv 7)) hb1.2) (pp_var 2 (pv 2))) (fun hw => ?_) (fun hw => ?_) ?_
    · obtain ⟨y, hy⟩ := Option.isSome_iff_exists.mp hw
      have e1 : taO t beh b1 = [⟨b1.2, y, t.k, 1⟩] := by unfold taO; rw [show dLook beh (at0 t.o b1.1) = some y from hy]
      refine dss_seq (ds_app 6 (pv 6) rfl (d := dA ⟨b1.2, y, t.k, 1⟩) (pf_tup (fas_cons (toF (pp_var 8 (pv 8)) (by walk_at "imm")) (fas_cons (toF (pp_dixL hu (pp_var 2 (pv 2)) (pp_ixM (f := PyData.int) (pp_var 5 (pv 5)) (pp_var 7 (pv 7)) hb1.2) hy) (by walk_at "imm")) (fas_cons (toF (pp_var 3 (pv 3)) (by walk_at "imm")) (fas_cons pf_int fas_nil)))) (by walk_at "size")) (by rw [List.length_map, List.length_append]; omega)) ?_
      rintro _ _ ⟨rfl, rfl⟩
      refine dss_nil (Le.refl _) ⟨rfl, ?_⟩
      unfold taStep
      rw [e1, List.map_append (l₂ := [_])]; rfl
    · have e1 : taO t beh b1 = [] := by
        unfold taO
        rw [show dLook beh (at0 t.o b1.1) = none by cases q : dLook beh (at0 t.o b1.1) with | none => rfl | some y => rw [show aGet beh (at0 t.o b1.1) = some y from q] at hw; cases hw]
      unfold taStep
      rw [e1, List.append_nil]; rfl
    refine dss_nil (.keep (.keep (.keep (.keep (.keep (.keep (.keep (.drop (.drop .nil))))))))) ⟨rfl, _, rfl, rfl⟩
  rintro _ _ ⟨rfl, rfl⟩
  exact ds_one (ds_retV 6 (pv 6) rfl rfl)
end
end K87
end
section
set_option Elab.async false
set_option linter.all false
set_option maxRecDepth 100000
set_option maxHeartbeats 4000000
local macro_rules | `(tactic| walk_at "imm") => `(tactic| first
  | exact DL.imm_int
  | exact DL.imm_str
  | exact DL.imm_non
  | exact DL.imm_bl
  | exact DL.imm_nt
  | exact DL.immAll_nil
  | assumption
  | (refine DL.immAll_map ?_; intro _; walk_at "imm")
  | (refine DL.immAll_cons ?_ ?_ <;> walk_at "imm")
  | (refine DL.immAll_append ?_ ?_ <;> walk_at "imm")
  | (refine DL.immAll_rep ?_; walk_at "imm")
  | (refine DL.immAll_mem ?_; walk_at "imm")
  | (intro _ _; walk_at "imm")
  | (refine ⟨?_, ?_⟩ <;> walk_at "imm")
  | (refine DL.immT ?_; assumption))
local macro_rules | `(tactic| walk_at "hu") => `(tactic| exact L2.Room.units (by assumption))
local macro_rules | `(tactic| walk_at "loc") => `(tactic| first | exact Or.inl rfl | exact Or.inr rfl)
local macro_rules | `(tactic| walk_at "room") => `(tactic| first | assumption | exact L2.Room.mono (by assumption) (by decide))
local macro_rules | `(tactic| walk_at "side") => `(tactic| first | assumption | omega | (unfold L2.CMul; omega) | (unfold L2.CDiv; omega) | (have sizeLine_eq1 := PySem.sizeLine_eq; simp only [List.length_map]; omega) | (have sizeLine_eq' := PySem.sizeLine_eq; omega) | (simp; done) | rfl)
local macro_rules | `(tactic| walk_at "size") => `(tactic| ((show _ ≤ 16777216); exact Nat.le_of_ble_eq_true rfl))
local macro_rules | `(tactic| walk_at "sh") => `(tactic| first
  | exact DL.sh_int
  | exact DL.sh_bl
  | exact DL.sh_non
  | exact DL.sh_str (by decide +kernel)
  | exact DL.shA_nil
  | assumption
  | (refine DL.sh_of ?_; walk_at "sh")
  | (refine DL.shA_map ?_; intro _; walk_at "sh")
  | (refine DL.shA_cons ?_ ?_ <;> walk_at "sh")
  | (refine DL.shA_app ?_ ?_ <;> walk_at "sh")
  | (refine DL.sh_tup ?_; walk_at "sh")
  | (refine DL.sh_lst ?_; walk_at "sh"))
namespace K87
open PySem PySem.Spec L2 DL
section
variable {P : Program} {w : World} {K : PySem.W.Frag} {mg : Str → Option Value} {base : Heap}
abbrev s_ti : Stmt := (C8.clsBody (top 7)).getD 0 (.Pass ⟨0, 0, 0, 0⟩)
abbrev N_ti : List Str := ["self", "limit", "__class__"]
abbrev F_ti (cc cda : Addr) : NdefX.NF := NdefX.NF.of s_ti "__init__" "TooMany.__init__" [(("__class__" : Str), cc)] cda
theorem sc_ti : NdefX.NScope N_ti ["self", "limit"] [("__class__" : Str)] (C8.fnScope s_ti) := NdefX.nscope_by (by decide +kernel)
theorem sc_ti1 : (C8.fnScope s_ti).names.lookup ("super" : Str) = some NameKind.globalImplicit := by decide +kernel
theorem sc_ti2 : (C8.fnScope s_ti).names.lookup ("__class__" : Str) = some NameKind.free := by decide +kernel
theorem sc_ti3 : (C8.fnScope s_ti).names.lookup ("self" : Str) = some NameKind.local := by decide +kernel
theorem sc_ti4 : (C8.fnScope s_ti).names.lookup ("limit" : Str) = some NameKind.local := by decide +kernel
def sp_ti (C : Addr) : Sp := fun vs H Q _ => ∃ (a : Addr) (v : V), vs = [.ref a, v] ∧ H a = some (exo a C none) ∧ ∀ dx, H dx = none → dx ≠ a → Q .non (upd (upd H dx (exd dx [("limit", v)])) a (exo a C (some dx)))
theorem ok_ti {C cda cc f : Addr} {doc pm ctv oc : Value} {od : Option Addr} {osl : Array (Option Value)} (S : SupC P K mg C cda cc) (lk : K.lookup f = some ⟨oc, od, .func ((F_ti cc cda).fd doc pm ctv), osl⟩) (hcd : PySem.W.codeIn K (.ref cda) "TooMany.__init__" = true) (hl : PySem.W.findIn K (.ref C) "limit" = some none) :
    FnOk P w K mg base CX0 1 f ((F_ti cc cda).fd doc pm ctv) ["self", "limit"] (sp_ti C) := by
  refine fn_cell (F := F_ti cc cda) (cc := cc) lk hcd sc_ti rfl (let ⟨cl, cld, csl, h⟩ := S.cell; ⟨cl, cld, csl, _, h⟩) (fun vs H Q E ⟨a, v, h, _⟩ => by rw [h]; rfl) fun A outer s H vs Q E hr ⟨a, v, hv, ha, q⟩ s1 I => ?_
  subst hv
  refine ks_wpAt_execs_cons (ks_wpAt_mono (super_init (F := F_ti cc cda) (f := f) (L := s.heap.objs.size) (a := a) (C := C) (cc := cc) I rfl S rfl lk rfl rfl rfl sc_ti1 sc_ti2 sc_ti3 rfl rfl ha (fun u s2 I2 => ?_) rfl rfl) (fun fl s2 hs => ?_) fun _ _ z => z)
  · obtain ⟨m, ul, hns, hm, _⟩ := Inv.locIs I2 (i := 1) (x := "limit") (v := v) rfl rfl sc_ti4
    exact PySem.Calls.evalArgs_plain (PySem.Calls.spliced_cons (PySem.ESX.ldL hns hm (PySem.Calls.spliced_nil ⟨rfl, rfl, (show 1 ≤ 16777216 by decide)⟩)))
  · obtain ⟨rfl, I2⟩ := hs
    have st2 : PSs (NdefX.ncx CX0 P w K mg base N_ti (F_ti cc cda) f A outer s H E) [(C8.fnBody s_ti).getD 1 (.Pass ⟨0, 0, 0, 0⟩)] (tOst K "limit" (tVar 0) (tVar 1)) := pss_one (ps_ost (f := "limit") (to := tVar 0) (te := tVar 1) (pv 0) (pv 1))
    refine wpAt_of_wpAny (wpAny_mono (st2.run [] s2 _ H { nx := fun _ H' => Q .non H', rt := fun _ _ => False, bk := fun _ _ => False, ct := fun _ _ => False } I2 ⟨v, rfl, .ref a, rfl, a, C, rfl, S.oex, hl, .inl ⟨ha, fun dx h1 h2 => q dx h1 h2⟩⟩) (fun fl s3 hs => ?_) fun _ _ z => z)
    cases fl with
    | next => obtain ⟨σ', H', J, q'⟩ := hs; exact ⟨rfl, σ', H', J, q'⟩
    | ret u => obtain ⟨_, _, _, _, _, z⟩ := hs; exact z.elim
    | brk => obtain ⟨_, _, _, z⟩ := hs; exact z.elim
    | cont => obtain ⟨_, _, _, z⟩ := hs; exact z.elim
end
end K87
end
section
set_option Elab.async false
set_option linter.all false
set_option maxRecDepth 100000
set_option maxHeartbeats 4000000
local macro_rules | `(tactic| walk_at "imm") => `(tactic| first
  | exact DL.imm_int
  | exact DL.imm_str
  | exact DL.imm_non
  | exact DL.imm_bl
  | exact DL.imm_nt
  | exact DL.immAll_nil
  | assumption
  | (refine DL.immAll_map ?_; intro _; walk_at "imm")
  | (refine DL.immAll_cons ?_ ?_ <;> walk_at "imm")
  | (refine DL.immAll_append ?_ ?_ <;> walk_at "imm")
  | (refine DL.immAll_rep ?_; walk_at "imm")
  | (refine DL.immAll_mem ?_; walk_at "imm")
  | (intro _ _; walk_at "imm")
  | (refine ⟨?_, ?_⟩ <;> walk_at "imm")
  | (refine DL.immT ?_; assumption))
local macro_rules | `(tactic| walk_at "hu") => `(tactic| exact L2.Room.units (by assumption))
local macro_rules | `(tactic| walk_at "loc") => `(tactic| first | exact Or.inl rfl | exact Or.inr rfl)
local macro_rules | `(tactic| walk_at "room") => `(tactic| first | assumption | exact L2.Room.mono (by assumption) (by decide))
local macro_rules | `(tactic| walk_at "side") => `(tactic| first | assumption | omega | (unfold L2.CMul; omega) | (unfold L2.CDiv; omega) | (have sizeLine_eq1 := PySem.sizeLine_eq; simp only [List.length_map]; omega) | (have sizeLine_eq' := PySem.sizeLine_eq; omega) | (simp; done) | rfl)
local macro_rules | `(tactic| walk_at "size") => `(tactic| ((show _ ≤ 16777216); exact Nat.le_of_ble_eq_true rfl))
local macro_rules | `(tactic| walk_at "sh") => `(tactic| first
  | exact DL.sh_int
  | exact DL.sh_bl
  | exact DL.sh_non
  | exact DL.sh_str (by decide +kernel)
  | exact DL.shA_nil
  | assumption
  | (refine DL.sh_of ?_; walk_at "sh")
  | (refine DL.shA_map ?_; intro _; walk_at "sh")
  | (refine DL.shA_cons ?_ ?_ <;> walk_at "sh")
  | (refine DL.shA_app ?_ ?_ <;> walk_at "sh")
  | (refine DL.sh_tup ?_; walk_at "sh")
  | (refine DL.sh_lst ?_; walk_at "sh"))
namespace K87
open PySem PySem.Spec L2 DL
section
variable {P : Program} {w : World} {K : PySem.W.Frag} {mg : Str → Option Value} {base : Heap}
theorem pbLen {q : Int} {tw : List Tn} {x y : Int} {t : Nat} (h : q ≤ 100) : (plBeh q tw x y t).length ≤ 100 := by
  unfold plBeh
  split
  · simp
  · split
    · simp
    · rw [List.length_map, List.length_range]; omega
theorem pbRng {q : Int} {tw : List Tn} {x y : Int} {t : Nat} (hx : 0 ≤ x ∧ x < q) (ht : t < tw.length) : ∀ e ∈ plBeh q tw x y t, 0 ≤ e.1 ∧ e.1 < q := fun e he => by
  unfold plBeh at he
  split at he
  · rw [List.mem_singleton.mp he]; exact hx
  · split at he
    · omega
    · obtain ⟨k, hk, rfl⟩ := List.mem_map.mp he
      have := List.mem_range.mp hk
      exact ⟨by omega, by show (k : Int) < q; omega⟩
theorem waLen {q : Int} {tw : List Tn} {x y : Int} (h : q ≤ 100) : ∀ (l : List (Tn × Nat)) (acc : List Ar), (l.foldl (waStep q tw x y) acc).length ≤ acc.length + l.length * 300
  | [], acc => by simp
  | e :: l, acc => by
    rw [List.foldl_cons]
    have h1 := waLen (x := x) (y := y) (tw := tw) h l (waStep q tw x y acc e)
    have h2 : (waStep q tw x y acc e).length ≤ acc.length + 300 := by
      unfold waStep
      rw [List.length_append]
      have h3 : (turnAr e.1 (plBeh q tw x y e.2) (plBeh q tw x y (e.2 + 1))).length ≤ (plBeh q tw x y e.2).length * 3 := turnAr_len _ _ _
      have h4 := pbLen (q := q) (tw := tw) (x := x) (y := y) (t := e.2) h
      omega
    rw [List.length_cons]
    omega
abbrev s_pw : Stmt := top 14
abbrev N_pw : List Str := ["p", "n", "word", "first", "last", "length", "turns", "found", "t", "turn", "here", "behind"]
theorem sc_pw : FnScope N_pw ["p", "n", "word", "first", "last"] (defScope s_pw) := ⟨rfl, rfl, rfl, by decide +kernel, rfl, by decide +kernel, by decide +kernel⟩
structure PwOk (p q : Int) (n : Nat) (tw : List Tn) (x : Int) : Prop where
  p0 : 0 < p
  hx : 0 ≤ x ∧ x < q
  ht : WOk q n tw
  hq : q ≤ 100
  hT : tw.length ≤ 100
def dsPW (p q : Int) (n : Nat) (tw : List Tn) (x y : Int) : List PyData := [.int p, .int (n : Int), dW q tw, .int x, .int y]
def spPW (K : PySem.W.Frag) (CT : Addr) : Sp := fun vs H Q E => ∃ (p q : Int) (n : Nat) (tw : List Tn) (x y : Int) (C : List Addr), OwnL K H vs (dsPW p q n tw x y) C ∧ PwOk p q n tw x ∧
  (places q tw ≤ 40 → ∀ v H' B, Same H H' → Own K H' v (dP p n (places q tw) (wordPr p q tw x y)) B → B.Nodup → (∀ b ∈ B, H b = none) → Q v H') ∧
  (40 < places q tw → ∀ d H', Same H H' → H d = none → H' d = some (.xd [("limit", .int 40)]) → E (.ref CT) (some d) H')
structure Err (P : Program) (K : PySem.W.Frag) (mg : Str → Option Value) (CT fT cda cc : Addr) : Prop where
  sup : SupC P K mg CT cda cc
  ini : PySem.W.findIn K (.ref CT) "__init__" = some (some (.ref fT))
  typ : PySem.W.typeIn K (.ref fT) = some (.type "function")
  lk : ∃ (oc : Value) (od : Option Addr) (doc pm ctv : Value) (osl : Array (Option Value)), K.lookup fT = some ⟨oc, od, .func ((F_ti cc cda).fd doc pm ctv), osl⟩
  cod : PySem.W.codeIn K (.ref cda) "TooMany.__init__" = true
  lim : PySem.W.findIn K (.ref CT) "limit" = some none
  mT : mg "TooMany" = some (.ref CT)
theorem ok_pw (T : Txt mg) (G_wp : Fu P w K mg base "word_places" ["word"] 1 S_wp) (G_pb : Fu P w K mg base "places_behind" ["word", "first", "last", "t"] 2 S_pb) (G_ta : Fu P w K mg base "turn_arrows" ["turn", "here", "behind"] 1 S_ta) (G_pt : Fu P w K mg base "put_together" ["p", "arrows"] 1 S_pt)
    {CT fT cda cc f : Addr} (U : Err P K mg CT fT cda cc) {fd : FuncData} (F : Fun K "program_of_word" "program_of_word" s_pw f fd) : FnOk P w K mg base (L2.CX P w) 3 f fd ["p", "n", "word", "first", "last"] (spPW K CT) := by
  refine F.okX sc_pw (fun vs H Q E h => ?_) fun cdv A outer s H vs Q E hr h => ?_
  · obtain ⟨p, q, n, tw, x, y, C, ol, _⟩ := h
    rw [ol.length]; rfl
  obtain ⟨p, q, n, tw, x, y, C, ol, ok, hle, hgt⟩ := h
  have hu := hr.units
  have hz := PySem.sizeLine_eq
  obtain ⟨u40, h40⟩ := T.MAX_LENGTH
  by_cases h : places q tw ≤ 40
  · -- no error
    have hd := hle h
    have key : PSs (cxOf (L2.CX P w) P w K mg base N_pw "program_of_word" (defScope s_pw) f cdv A outer s H E).nox (defBody s_pw) (tS K 0 (ent 12 (dsPW p q n tw x y)) (fun _ _ => False) (fun _ d' => d' = dP p n (places q tw) (wordPr p q tw x y))) := by
      refine dss_seq (ds_par 5 6 rfl sc_pw.nd rfl rfl (by decide) rfl rfl (fas_cons (pf_call G_wp (by walk_at "room") (pas_cons (pp_var 2 (pv 2)) pas_nil) (by exact ⟨q, tw, rfl, by have := ok.hx; omega, by have := ok.hq; omega, rfl⟩)) (fas_cons (toF (pp_fix1 (pp_var 2 (pv 2))) (by walk_at "imm")) fas_nil))) ?_
      rintro _ _ ⟨rfl, rfl⟩
      show PSs _ _ (tS K 0 [.sh (.int p), .sh (.int (n : Int)), .sh (dW q tw), .sh (.int x), .sh (.int y), .ow (.int (places q tw)), .ow (.tuple (tw.map dT)), .un, .un, .un, .un, .un] _ _)
      refine dss_ifR (pt_c c_gt (pp_var 5 (pv 5)) (toP (pf_glob (v := .int 40) rfl h40 ⟨_, rfl⟩ (.int _)))) (fun hw => ?_) (fun hw => ?_)
      · exfalso
        have := of_decide_eq_true hw
        omega
      refine dss_ifR (pt_eqD (by walk_at "hu") (pp_var 6 (pv 6)) (toP (pf_tup fas_nil (by walk_at "size"))) (by walk_at "sh") (by walk_at "sh")) (fun hw => ?_) (fun hw => ?_)
      · have e : tw = [] := by
          cases tw with
          | nil => rfl
          | cons a l => simp [PyData.eqv, PyData.eqvAll] at hw
        subst e
        refine ds_one (ds_ret (pf_tup (fas_cons (toF (pp_var 0 (pv 0)) (by walk_at "imm")) (fas_cons (toF (pp_var 1 (pv 1)) (by walk_at "imm")) (fas_cons pf_int (fas_cons (pf_if (pt_c c_eqI (pp_var 3 (pv 3)) (pp_var 4 (pv 4))) (fun hw => pf_tup (fas_cons (pf_tup (fas_cons pf_int (fas_cons pf_int (fas_cons (pf_neg (toP pf_int)) (fas_cons pf_int fas_nil)))) (by walk_at "size")) fas_nil) (by walk_at "size")) (fun hw => pf_tup fas_nil (by walk_at "size"))) fas_nil)))) (by walk_at "size")) ?_)
        unfold wordPr
        rw [if_pos rfl]
        by_cases hxy : x = y
        · rw [decide_eq_true hxy, if_pos hxy]; rfl
        · rw [decide_eq_false hxy, if_neg hxy]; rfl
      have e : tw ≠ [] := fun z => by
        subst z
        simp [PyData.eqv, PyData.eqvAll] at hw
      refine dss_seq (ds_set 7 sc_pw.nd rfl (by walk_at "loc") (pf_lst fas_nil (by walk_at "size"))) ?_
      rintro _ _ ⟨rfl, rfl⟩
      show PSs _ _ (tS K 0 [.sh (.int p), .sh (.int (n : Int)), .sh (dW q tw), .sh (.int x), .sh (.int y), .ow (.int (places q tw)), .ow (.tuple (tw.map dT)), .ow (.list []), .un, .un, .un, .un] _ _)
      refine dss_seq (ds_fold1 (l := tw.zipIdx) (f := fun e : Tn × Nat => PyData.tuple [.int (e.2 : Nat), dT e.1]) [8, 9, 10, 11] 7 (fun s : List Ar => .list (s.map dA)) (waStep q tw x y) [] PassesOwn.never rfl (pi_enumTM (f := dT) (pp_var 6 (pv 6)) rfl T.enumerate (by walk_at "imm")) (by walk_at "imm") rfl rfl ?_) ?_
      · rintro pre1 b1 post1 hl1
        have hm1 := mem_at hl1
        have hb1 : tw[b1.2]? = some b1.1 := List.mem_zipIdx_iff_getElem?.mp hm1
        have hlt : b1.2 < tw.length := (List.getElem?_eq_some_iff.mp hb1).1
        have hmt : b1.1 ∈ tw := List.mem_of_getElem? hb1
        have hpl : pre1.length ≤ tw.length := by
          have := congrArg List.length hl1
          rw [List.length_zipIdx, List.length_append] at this
          omega
        have hsz := waLen (q := q) (tw := tw) (x := x) (y := y) ok.hq pre1 []
        have hT := ok.hT
        generalize pre1.foldl (waStep q tw x y) [] = s1 at hsz ⊢
        have hsz2 : s1.length ≤ 30000 := by
          simp at hsz
          omega
        have htl : (turnAr b1.1 (plBeh q tw x y b1.2) (plBeh q tw x y (b1.2 + 1))).length ≤ 300 := by
          have h3 := turnAr_len b1.1 (plBeh q tw x y b1.2) (plBeh q tw x y (b1.2 + 1))
          have h4 := pbLen (q := q) (tw := tw) (x := x) (y := y) (t := b1.2) ok.hq
          omega
        refine ⟨_, gst_tup rfl (gsts_cons (gst_name (pg_name (i := 8) sc_pw.nd rfl (by walk_at "loc"))) (gsts_cons (gst_name (pg_name (i := 9) sc_pw.nd rfl (by walk_at "loc"))) gsts_nil)), ?_⟩
        show PSs _ _ (tS K 0 [.sh (.int p), .sh (.int (n : Int)), .sh (dW q tw), .sh (.int x), .sh (.int y), .ow (.int (places q tw)), .ow (.tuple (tw.map dT)), .ow (.list (s1.map dA)), .ow (.int (b1.2 : Nat)), .ow (dT b1.1), .un, .un] _ _)
        refine dss_seq (ds_par 10 11 rfl sc_pw.nd rfl rfl (by decide) rfl rfl
          (fas_cons (pf_call G_pb (by walk_at "room") (pas_cons (pp_var 2 (pv 2)) (pas_cons (pp_var 3 (pv 3)) (pas_cons (pp_var 4 (pv 4)) (pas_cons (pp_var 8 (pv 8)) pas_nil)))) (by exact ⟨q, tw, x, y, b1.2, rfl, ⟨by have := ok.hx; omega, by have := ok.hq; omega⟩, rfl⟩))
          (fas_cons (pf_call G_pb (by walk_at "room") (pas_cons (pp_var 2 (pv 2)) (pas_cons (pp_var 3 (pv 3)) (pas_cons (pp_var 4 (pv 4)) (pas_cons (toP (pf_add (pp_var 8 (pv 8)) (toP pf_int))) pas_nil)))) (by exact ⟨q, tw, x, y, b1.2 + 1, rfl, ⟨by have := ok.hx; omega, by have := ok.hq; omega⟩, rfl⟩)) fas_nil))) ?_
        rintro _ _ ⟨rfl, rfl⟩
        refine dss_lockI (s := plBeh q tw x y b1.2) 10 (dss_lockI (s := plBeh q tw x y (b1.2 + 1)) 11 ?_)
        show PSs _ _ (tS K 0 [.sh (.int p), .sh (.int (n : Int)), .sh (dW q tw), .sh (.int x), .sh (.int y), .ow (.int (places q tw)), .ow (.tuple (tw.map dT)), .ow (.list (s1.map dA)), .ow (.int (b1.2 : Nat)), .ow (dT b1.1), .ow (lkI (plBeh q tw x y b1.2)), .ow (lkI (plBeh q tw x y (b1.2 + 1)))] _ _)
        refine dss_seq (ds_ext 7 (pv 7) rfl (pf_call G_ta (by walk_at "room") (pas_cons (pp_var 9 (pv 9)) (pas_cons (pp_var 10 (pv 10)) (pas_cons (pp_var 11 (pv 11)) pas_nil))) (by exact ⟨b1.1, _, _, rfl, (by have := pbLen (q := q) (tw := tw) (x := x) (y := y) (t := b1.2) ok.hq; omega), (fun e he => by
            have h1 := pbRng (y := y) ok.hx hlt e he
            have h2 := (ok.ht.z _ hmt).1
            have h3 := (ok.ht.o _ hmt).1
            omega), rfl⟩)) (by rw [List.length_map, List.length_map]; omega)) ?_
        rintro _ _ ⟨rfl, rfl⟩
        refine dss_nil (.keep (.keep (.keep (.keep (.keep (.keep (.keep (.keep (.drop (.drop (.drop (.drop .nil)))))))))))) ⟨rfl, _, rfl, ?_⟩
        unfold waStep
        rw [List.map_append]
      rintro _ _ ⟨rfl, rfl⟩
      show PSs _ _ (tS K 0 [.sh (.int p), .sh (.int (n : Int)), .sh (dW q tw), .sh (.int x), .sh (.int y), .ow (.int (places q tw)), .ow (.tuple (tw.map dT)), .ow (.list ((tw.zipIdx.foldl (waStep q tw x y) []).map dA)), .un, .un, .un, .un] _ _)
      have hwl := waLen (q := q) (tw := tw) (x := x) (y := y) ok.hq tw.zipIdx []
      have hT := ok.hT
      refine ds_one (ds_ret (pf_tup (fas_cons (toF (pp_var 0 (pv 0)) (by walk_at "imm")) (fas_cons (toF (pp_var 1 (pv 1)) (by walk_at "imm")) (fas_cons (toF (pp_var 5 (pv 5)) (by walk_at "imm")) (fas_cons (pf_call G_pt (by walk_at "room") (pas_cons (pp_var 0 (pv 0)) (pas_cons (pp_var 7 (pv 7)) pas_nil)) (by exact ⟨p, _, rfl, ok.p0, (by rw [List.length_zipIdx] at hwl; simp at hwl; omega), rfl⟩)) fas_nil)))) (by walk_at "size")) ?_)
      unfold wordPr
      rw [if_neg e]
      rfl
    refine ⟨_, key.nox, ef0, H, [], ⟨?_, List.nodup_nil, (fun _ z => by cases z), (fun _ z => by cases z), .refl H, ⟨(fun _ _ z => by cases z), (fun _ z => by cases z)⟩⟩, (fun _ _ _ _ _ _ _ _ z => z.elim), ?_⟩
    · have := slots_ent (K := K) (He := H) 7 ol
      unfold L2.start
      rw [ol.length]
      exact this
    · intro v H' m' d' B k p' o' n' f' e'
      subst e'
      exact hd v H' B k.same o' n' f'
  · -- refused
    have hg := hgt (by omega)
    let X := cxOf (L2.CX P w) P w K mg base N_pw "program_of_word" (defScope s_pw) f cdv A outer s H E
    have k1 : PS X ((defBody s_pw).getD 0 (.Pass ⟨0, 0, 0, 0⟩)) (tS K 0 (ent 12 (dsPW p q n tw x y)) (fun m1 ρ1 => m1 = 0 ∧ ρ1 = ((ent 12 (dsPW p q n tw x y)).set 5 (.ow (.int (places q tw)))).set 6 (.ow (.tuple (tw.map dT)))) (fun _ _ => False)) :=
      ds_par 5 6 rfl sc_pw.nd rfl rfl (by decide) rfl rfl (fas_cons (pf_call G_wp (by walk_at "room") (pas_cons (pp_var 2 (pv 2)) pas_nil) (by exact ⟨q, tw, rfl, by have := ok.hx; omega, by have := ok.hq; omega, rfl⟩)) (fas_cons (toF (pp_fix1 (pp_var 2 (pv 2))) (by walk_at "imm")) fas_nil))
    have key : ∃ t, PSs X (defBody s_pw) t ∧ (t { nx := fun _ H' => Q .non H', rt := Q } (L2.start N_pw vs) H) := by
      obtain ⟨oc, od, doc, pm, ctv, osl, lkT⟩ := U.lk
      refine ⟨_, pss_cons k1 (pss_cons (ps_if (pt_c (r := (((ent 12 (dsPW p q n tw x y)).set 5 (.ow (.int (places q tw)))).set 6 (.ow (.tuple (tw.map dT)))).map pu) c_gt (pp_var 5 (pv 5)) (toP (pf_glob (v := .int 40) rfl h40 ⟨_, rfl⟩ (.int _))))
        (pss_one (ps_raise rfl (takes_of rfl rfl rfl rfl) (pmk_oex (ta := tPs K ((((ent 12 (dsPW p q n tw x y)).set 5 (.ow (.int (places q tw)))).set 6 (.ow (.tuple (tw.map dT)))).map pu) [.int 40]) U.sup.oex U.ini U.typ (ok_ti U.sup lkT U.cod U.lim) (by walk_at "room") (.all fun us hl => match us, hl with | [_, _], _ => rfl) .nil pass0 rfl U.mT (pas_cons (toP (pf_glob (v := .int 40) rfl h40 ⟨_, rfl⟩ (.int _))) pas_nil)))) pss_never) pss_never), ?_⟩
      refine ⟨ef0, H, [], ⟨?_, List.nodup_nil, (fun _ z => by cases z), (fun _ z => by cases z), .refl H, ⟨(fun _ _ z => by cases z), (fun _ z => by cases z)⟩⟩, (fun He' σ' H' m' ρ' A' k en hn => ?_), (fun _ _ _ _ _ _ _ _ _ _ z => z.elim)⟩
      · have := slots_ent (K := K) (He := H) 7 ol
        unfold L2.start
        rw [ol.length]
        exact this
      obtain ⟨rfl, rfl⟩ := hn
      refine ⟨en.envP, fun H1 s1 => ?_⟩
      rw [decide_eq_true (show (40 : Int) < places q tw by omega)]
      refine iteT ⟨(en.same s1).envP, fun xs H2 B s2 ol2 => ⟨by rw [ol2.length]; decide, fun a ha => ⟨a, .int 40, ?_, upd_same, fun dx hd hda => ⟨rfl, dx, [("limit", .int 40)], upd_same, ?_, ?_, ?_⟩⟩⟩⟩
      · cases ol2 with
        | cons o l =>
          cases l
          rw [o.int_inv]; rfl
      · rw [upd_ne hda, upd_same]
      · rw [upd_ne hda] at hd; exact hd
      rw [upd_ne hda] at hd
      refine hg dx _ ?_ ?_ upd_same
      · have sm : Same H H2 := ((k.trans en.kp).same).trans (s1.trans s2)
        intro b o hb
        have hb2 := sm b o hb
        have nb1 : b ≠ a := fun z => by rw [z, ha] at hb2; cases hb2
        have nb2 : b ≠ dx := fun z => by rw [z, hd] at hb2; cases hb2
        rw [upd_ne nb2, del_ne nb1, upd_ne nb1, upd_ne nb2, upd_ne nb1]
        exact hb2
      · have sm : Same H H2 := ((k.trans en.kp).same).trans (s1.trans s2)
        exact sm.free hd
    exact key
end
end K87
end
section
set_option Elab.async false
set_option linter.all false
set_option maxRecDepth 100000
set_option maxHeartbeats 4000000
namespace DL
open PySem PySem.Spec L2
open PyProof.Rows (envOfC)
structure FnG (P : Program) (w : World) (K : PySem.W.Frag) (mg : Str → Option Value) (base : Heap) (CX : CXT) (k : Nat) (f : Addr) (fd : FuncData) (ps : List Str) (sp : Sp) : Prop where
  len : ∀ vs H Q E, sp vs H Q E → vs.length = ps.length
  go : ∀ (A : Around) (outer : List PySem.Env) (s : Shared) (H : Hp) (args : Args) (us : List Value) (vs : List V) (Q : VK) (E : XK), A.guards = some [] → Room k A → Env0 P w K mg base A outer s H → BindsTo s fd args (ps.zip us) → Vals vs us → sp vs H Q E →
    codeAny (model P w) A (.call (.ref f) args) (CR CX outer P w H s Q E) s
section
variable {P : Program} {w : World} {K : PySem.W.Frag} {mg : Str → Option Value} {base : Heap}
theorem FnG.of {x qual : Str} {st : Stmt} {f : Addr} {fd : FuncData} {N ps : List Str} {k : Nat} {sp : Sp} (F : Fun K x qual st f fd) (S : FnScope N ps (defScope st)) (len : ∀ vs H Q E, sp vs H Q E → vs.length = ps.length)
    (hbody : ∀ (cdv : Value) (A : Around) (outer : List PySem.Env) (s : Shared) (H : Hp) (vs : List V) (Q : VK) (E : XK), A.guards = some [] → Room k (A.deeper (envOfC qual (defScope st) s.heap.objs.size f cdv)) → sp vs H Q E →
      ∃ t, PSs (cxOf L2.CX0 P w K mg base N qual (defScope st) f cdv A outer s H E).nox (defBody st) t ∧ t { nx := fun _ H' => Q .non H', rt := Q } (L2.start N vs) H) : FnG P w K mg base L2.CX0 (k + 1) f fd ps sp := by
  obtain ⟨oc, od, kV, doc, pm, an, cdv, ct, osl, rfl, lk, hcd⟩ := F.ex
  refine ⟨len, fun A outer s H args us vs Q E hg hr e0 hb r hsp => LamX.run_ofS lk hcd S hr e0 hb r (len _ _ _ _ hsp) fun hr' => ?_⟩
  obtain ⟨t, h, q⟩ := hbody cdv A outer s H vs Q E hg hr' hsp
  exact ⟨t, h.nox, q⟩
end
section
variable {X : Cx} {k : Nat} {f : Addr} {fd : FuncData} {ps : List Str} {sp : Sp} {x : Str} {p pos : Pos} {e : Expr} {es : List Expr} {t : TA}
theorem pe_callG (F : FnG X.prog X.w X.K X.mg X.base L2.CX0 k f fd ps sp) (hgu : X.A.guards = some []) (hr : Room k X.A) (hg : Gl X x) (hm : X.mg x = some (.ref f)) (hk : PySem.W.keepIn X.K (.ref f) = true) (hb : Binds X.K fd ps [])
    (ha : PA X (e :: es) t) (hdb : (x == ("__debug__" : Str)) = false := by decide) (he : starEach (e :: es) X.env = (false, eval e X.env) :: starEach es X.env := by rfl) (hpl : (backTo pos (starEach es X.env)).any (·.1) = false := by rfl) :
    PE X (.Call (.Name x p) (e :: es) [] pos) (fun σ H Q => t σ H fun vs H1 => sp vs H1 Q E0) := by
  refine ⟨fun pins s σ H Q I h => wpAny_Call_Name_kw (ld_glob I hg hm (PySem.W.callWith_K (h₀ := X.base) I.ok.mod.kin hk (thn (ha.run pos pins s σ H _ I h) fun us s1 ⟨vs, H1, I1, r, q⟩ => ⟨I1.kIn, ?_⟩) he hpl) hdb)⟩
  have hl : us.length = ps.length := by rw [← Paired.length r]; exact F.len _ _ _ _ q
  have hbi := hb s1 us I1.kIn (by rw [List.append_nil]; exact hl)
  rw [List.append_nil] at hbi
  refine wpAny_call (codeAny_mono (F.go X.A X.stack s1 H1 ⟨us, []⟩ us vs Q E0 hgu hr I1.env0 hbi r q) fun r s' hq => ?_)
  cases r with
  | error e => exact False.elim hq
  | ok fl =>
    cases fl with
    | ret u => exact I1.after hq
    | next => exact False.elim hq
    | brk => exact False.elim hq
    | cont => exact False.elim hq
end
theorem Slots.tabs {K : PySem.W.Frag} {Pt : Ef} {He H : Hp} {T : List (Addr × Str)} : ∀ {σ : St} {ρ : Rh} {A : List Addr}, Slots K Pt He H σ ρ A → ∀ j : Nat, ρ[j]? = some (.tb T) → Pt.tabs = some T
  | _, _, _, .nil, j, h => by simp at h
  | _, _, _, .un s, 0, h => by cases h
  | _, _, _, .un s, j + 1, h => Slots.tabs s j (by simpa using h)
  | _, _, _, .ow _ s, 0, h => by cases h
  | _, _, _, .ow _ s, j + 1, h => Slots.tabs s j (by simpa using h)
  | _, _, _, .sh _ _ s, 0, h => by cases h
  | _, _, _, .sh _ _ s, j + 1, h => Slots.tabs s j (by simpa using h)
  | _, _, _, .pot _ s, 0, h => by cases h
  | _, _, _, .pot _ s, j + 1, h => Slots.tabs s j (by simpa using h)
  | _, _, _, .tb e s, 0, h => by cases h; exact e
  | _, _, _, .tb _ s, j + 1, h => Slots.tabs s j (by simpa using h)
structure FuG (P : Program) (w : World) (K : PySem.W.Frag) (mg : Str → Option Value) (base : Heap) (x : Str) (ps : List Str) (k : Nat) (Tn : Ef → Prop) (Pre : List PyData → Nat → Prop) (Post : List PyData → PyData → Prop) : Prop where
  ex : ∃ f fd, At K mg x f fd ps ∧ FnG P w K mg base L2.CX0 k f fd ps (spE K Tn Pre Post)
section
variable {X : Cx} {m m1 m' c i : Nat} {ρ : Rh} {e pe : Expr} {es : List Expr} {pos p : Pos} {P : PyData → Prop} {Ps : List PyData → Prop} {Tn : Ef → Prop} {Pre : List PyData → Nat → Prop} {Post : List PyData → PyData → Prop} {x : Str} {ps : List Str} {k : Nat}
theorem e_callG (F : FuG X.prog X.w X.K X.mg X.base x ps k Tn Pre Post) (hgu : X.A.guards = some []) (hT : ∀ Pt He H σ A, Slots X.K Pt He H σ ρ A → Tn Pt) (hr : Room k X.A) (hv : PE X pe (tVar i)) (hi : ρ[i]? = some .pot) (ha : PA X es (tEs X.K m ρ m1 Ps)) (hm : m1 = m' + c) (hPre : ∀ ds, Ps ds → Pre ds c) (hPost : ∀ ds d, Ps ds → Post ds d → P d)
    (hg : Gl X x := by rfl) (hdb : (x == ("__debug__" : Str)) = false := by decide)
    (he : starEach (pe :: es) X.env = (false, eval pe X.env) :: starEach es X.env := by rfl) (hpl : (backTo pos (starEach es X.env)).any (·.1) = false := by rfl) : PE X (.Call (.Name x p) (pe :: es) [] pos) (tE X.K m ρ m' P) := by
  obtain ⟨f, fd, At', G⟩ := F.ex
  subst hm
  refine PE.imp (pe_callG G hgu hr hg At'.gl At'.kp At'.bd (pa_cons hv ha he) hdb he hpl) fun σ H Q ⟨Pt, He, A, en, kq⟩ => ?_
  obtain ⟨v, A1, C, A2, h1, hA, h3, _⟩ := en.sl.split i _ hi
  cases h3 with
  | pot hp q =>
    rename_i p0 g0
    refine ⟨_, h1, Pt, He, A, en, fun xs H1 ds B hps en1 k1 ol n f => ?_⟩
    refine ⟨Pt, p0, g0, m', c, ds, B, xs, hp, hT _ _ _ _ _ en.sl, rfl, en1.pt, hPre ds hps, ol, fun b hb z => en.pt.some b z (f b hb), fun y H2 d D hpost k2 pt2 o2 n2 f2 => ?_⟩
    exact kq y H2 d D (hPost ds d hps hpost) (en1.potted k2 pt2) (k1.trans k2) o2 n2 fun b hb => k1.dom b (f2 b hb)
end
section
variable {P : Program} {w : World} {K : PySem.W.Frag} {mg : Str → Option Value} {base : Heap}
theorem fn_potG {x qual : Str} {st : Stmt} {f : Addr} {fd : FuncData} {N ps : List Str} {k : Nat} {Pre : List PyData → Nat → Prop} {Post : List PyData → PyData → Prop} (F : Fun K x qual st f fd) (Sc : FnScope N ps (defScope st)) (hl : ∀ ds c, Pre ds c → ds.length + 1 = ps.length)
    (hb : ∀ (cdv : Value) (A : Around) (outer : List PySem.Env) (s : Shared) (H : Hp) (E : XK), A.guards = some [] → Room k (A.deeper (envOfC qual (defScope st) s.heap.objs.size f cdv)) → ∀ m ds c, Pre ds c →
      PSs (cxOf L2.CX0 P w K mg base N qual (defScope st) f cdv A outer s H E).nox (defBody st) (tS K (m + c) (.pot :: ent (N.length - 1) ds) (fun m' _ => m ≤ m' ∧ Post ds .none) (fun m' d' => m ≤ m' ∧ Post ds d'))) : FnG P w K mg base L2.CX0 (k + 1) f fd ps (spE K (fun _ => True) Pre Post) := by
  refine FnG.of F Sc (fun vs H Q E ⟨Pt, p, g, m, c, ds, C, xs, hp, _, hv, pt, hpre, ol, _⟩ => by rw [hv, List.length_cons, ol.length]; exact hl ds c hpre) fun cdv A outer s H vs Q E hg hr ⟨Pt, p, g, m, c, ds, C, xs, hp, _, hv, pt, hpre, ol, dj, q⟩ => ?_
  subst hv
  refine ⟨_, hb cdv A outer s H E hg hr m ds c hpre, Pt, H, [], ⟨?_, List.nodup_nil, (fun _ z => by cases z), (fun _ z => by cases z), .refl H, pt⟩, ?_, ?_⟩
  · unfold L2.start ent
    have e : N.length - (V.ref p :: xs).length = N.length - 1 - ds.length := by rw [List.length_cons, ol.length]; omega
    rw [List.map_cons, List.cons_append, e]
    exact .pot hp (slots_sh _ ol dj)
  · intro He' σ' H' m' ρ' A' kk en ⟨l, n⟩
    exact q .non H' .none [] n (kk.trans en.kp) (en.pt.mono l) .non List.nodup_nil fun _ z => by cases z
  · intro y H' m' d' B kk pt' o n f ⟨l, r⟩
    exact q y H' d' B r kk (pt'.mono l) o n f
theorem fn_tabG {T : List (Addr × Str)} {x qual : Str} {st : Stmt} {f : Addr} {fd : FuncData} {N ps : List Str} {k : Nat} {Pre : List PyData → Nat → Prop} {Post : List PyData → PyData → Prop} (F : Fun K x qual st f fd) (Sc : FnScope N ps (defScope st)) (hl : ∀ ds c, Pre ds c → ds.length + 1 = ps.length)
    (hb : ∀ (cdv : Value) (A : Around) (outer : List PySem.Env) (s : Shared) (H : Hp) (E : XK), A.guards = some [] → Room k (A.deeper (envOfC qual (defScope st) s.heap.objs.size f cdv)) → ∀ m ds c, Pre ds c →
      PSs (cxOf L2.CX0 P w K mg base N qual (defScope st) f cdv A outer s H E).nox (defBody st) (tS K (m + c) (.tb T :: ent (N.length - 1) ds) (fun m' _ => m ≤ m' ∧ Post ds .none) (fun m' d' => m ≤ m' ∧ Post ds d'))) : FnG P w K mg base L2.CX0 (k + 1) f fd ps (spE K (fun Pt => Pt.tabs = some T) Pre Post) := by
  refine FnG.of F Sc (fun vs H Q E ⟨Pt, p, g, m, c, ds, C, xs, hp, _, hv, pt, hpre, ol, _⟩ => by rw [hv, List.length_cons, ol.length]; exact hl ds c hpre) fun cdv A outer s H vs Q E hg hr ⟨Pt, p, g, m, c, ds, C, xs, hp, ht, hv, pt, hpre, ol, dj, q⟩ => ?_
  subst hv
  refine ⟨_, hb cdv A outer s H E hg hr m ds c hpre, Pt, H, [], ⟨?_, List.nodup_nil, (fun _ z => by cases z), (fun _ z => by cases z), .refl H, pt⟩, ?_, ?_⟩
  · unfold L2.start ent
    have e : N.length - (V.ref p :: xs).length = N.length - 1 - ds.length := by rw [List.length_cons, ol.length]; omega
    rw [List.map_cons, List.cons_append, e]
    exact .tb ht (slots_sh _ ol dj)
  · intro He' σ' H' m' ρ' A' kk en ⟨l, n⟩
    exact q .non H' .none [] n (kk.trans en.kp) (en.pt.mono l) .non List.nodup_nil fun _ z => by cases z
  · intro y H' m' d' B kk pt' o n f ⟨l, r⟩
    exact q y H' d' B r kk (pt'.mono l) o n f
end
end DL
end
section
set_option Elab.async false
set_option linter.all false
set_option maxRecDepth 100000
set_option maxHeartbeats 4000000
namespace DL
open PySem PySem.Spec L2 LamX
open PyProof.Rows (envOfC)
section
variable {X : Cx} {pins : List (Addr × Obj)} {σ : L2.St} {H : Hp} {s : Shared}
def LamTold (X : Cx) (pins : List (Addr × Obj)) (σ : L2.St) (H : Hp) (T : List (Addr × Str)) (params : Arguments) (body : Expr) (scope : Scope) (Q : Value → Shared → Prop) : Prop :=
  ∀ (f c' : Addr) (pm ctv : Value) (H1 : Hp) (s' : Shared), Inv X pins σ H1 s' → ExtN H H1 → (∀ b, H1 b = none → H b = none) → Tabs T H1 →
    s'.heap.get? f = some (PySem.W.kla_obj "<lambda>" (X.env.qual ++ "<lambda>") params body scope (cloFrom X.env.cells scope.names []) pm c' ctv) → H1 f = none → f ∉ frs X.stack → H1 c' = some (CodeO c' (X.env.qual ++ "<lambda>")) → Q (.ref f) s'
theorem lam_new {T : List (Addr × Str)} {c P : Addr} {params : Arguments} {body : Expr} {scope : Scope} {pos : Pos} {E : Value → Shared → Prop} {Q : Value → Shared → Prop} (I : Inv X pins σ H s) (TB : TabB X.base X.mg c P) (hcode : X.env.code = .ref c)
    (hm : (P, X.env.qual ++ "<lambda>") ∈ T) (hu : ∀ p ∈ T, p.1 = P → p.2 = X.env.qual ++ "<lambda>") (hT : Tabs T H) (hdef : defaultsOf params X.env = ([], [])) (hfree : ∀ y ∈ scope.names, y.2 = .free → ∃ c, X.env.cells.lookup y.1 = some c)
    (h : LamTold X pins σ H T params body scope Q) : wpAny (model X.prog X.w) X.A (eval (.Lambda params body scope pos) X.env) Q E s := by
  obtain ⟨ps, tP, tO, tC⟩ := hT _ hm
  have bm : s.heap.BuiltinsAt X.mg P := TB.bm.keeps I.bk
  have oP : s.heap.get? P = some { cls := .none, data := .fields ps } := I.hok P _ tP
  have apart : ∀ f, s.heap.objs.size ≤ f → f ∉ frs X.stack := fun f hf z => by
    rcases List.mem_cons.mp (I.stkSub _ z) with e | e
    · exact Nat.lt_irrefl _ (Nat.lt_of_lt_of_le (by rw [e]; exact I.lt) hf)
    · exact I.nofs hf e
  refine PySem.W.kla_eval hdef ?_
  cases hc : codeAmong pos ps.toList with
  | some cv =>
    obtain ⟨c', rfl, hco⟩ := tC pos cv hc
    exact PySem.W.kla_makeFunctionHit (mg := X.mg) (c := c) (P := P) (ps := ps) (closure_ok hfree) I.ok.glob (I.mod.glob.keeps I.bk) hcode (TB.code.keeps I.bk) oP tO hc bm fun ctv h' tk hx hsz =>
      h h'.objs.size c' ((X.mg "__name__").getD .none) ctv H _ (I.kept (t' := tk) fun b o e => Heap.get?_push_of_some _ (hx b o e)) (ExtN.refl H) (fun _ z => z) hT (Heap.get?_push_size _ rfl) (I.hok.fresh hsz) (apart _ hsz) hco
  | none =>
    refine PySem.W.kla_makeFunction (mg := X.mg) (c := c) (P := P) (ps := ps) (closure_ok hfree) I.ok.glob (I.mod.glob.keeps I.bk) hcode (TB.code.keeps I.bk) oP tO hc TB.gP bm fun c' ctv h' tk hx hge hlt hrec htb => ?_
    obtain ⟨c2, oc, vs, t, e2, hoc, hd, hv⟩ := hrec
    cases e2
    have hsz : s.heap.objs.size ≤ h'.objs.size := Nat.le_trans hge (Nat.le_of_lt hlt)
    have fc : H c' = none := I.hok.fresh hge
    let ps2 := ps ++ #[rawInt pos.line, rawInt pos.col, .ref c']
    let H1 : Hp := upd (upd H P (.tbl ps2)) c' (CodeO c' (X.env.qual ++ "<lambda>"))
    have I1 : Inv X pins σ H1 _ := inv_table (t' := tk) (more := #[rawInt pos.line, rawInt pos.col, .ref c']) (h' := h'.push (PySem.W.kla_obj "<lambda>" (X.env.qual ++ "<lambda>") params body scope (cloFrom X.env.cells scope.names []) ((X.mg "__name__").getD .none) c' ctv)) I tP
      (fun b o hb e => Heap.get?_push_of_some _ (hx b o hb e)) (Heap.get?_push_of_some _ htb) hge ⟨oc, vs, t, Heap.get?_push_of_some _ hoc, hd, hv⟩
    have at1 : ∀ {b : Addr}, b ≠ c' → b ≠ P → H1 b = H b := fun h1 h2 => by show upd (upd H P _) c' _ _ = _; rw [upd_ne h1, upd_ne h2]
    have atC : H1 c' = some (CodeO c' (X.env.qual ++ "<lambda>")) := upd_same
    have atP : H1 P = some (.tbl ps2) := by show upd (upd H P _) c' _ _ = _; rw [upd_ne (ne_of_none tP fc), upd_same]
    have ex : ExtN H H1 := fun b o e n => by
      rw [at1 (ne_of_none e fc) fun z => n ps (Option.some.inj (e.symm.trans (by rw [z]; exact tP)))]
      exact e
    refine h h'.objs.size c' ((X.mg "__name__").getD .none) ctv H1 _ I1 ex (fun b z => ?_) (fun p hp => ?_) (Heap.get?_push_size _ rfl) ?_ (apart _ hsz) atC
    · by_cases h1 : b = c'
      · rw [h1]; exact fc
      · by_cases h2 : b = P
        · rw [h2, atP] at z; cases z
        · rw [at1 h1 h2] at z; exact z
    · by_cases hb : p.1 = P
      · have eL : ps2.toList = ps.toList ++ [rawInt pos.line, rawInt pos.col, .ref c'] := by simp [ps2]
        rw [hu p hp hb, hb]
        refine ⟨ps2, atP, by rw [eL]; exact PySem.TriplesOk_snoc _ _ _ _ tO, fun p' cv hcv => ?_⟩
        rw [eL] at hcv
        rcases among_app _ tO hcv with z | z
        · obtain ⟨c0, e1, e2⟩ := tC p' cv z
          exact ⟨c0, e1, ex _ _ e2 codeO_ne⟩
        · exact ⟨c', z, atC⟩
      · obtain ⟨ps', a1, a2, a3⟩ := hT p hp
        refine ⟨ps', by rw [at1 (ne_of_none a1 fc) hb]; exact a1, a2, fun p' cv hcv => ?_⟩
        obtain ⟨c0, e1, e2⟩ := a3 p' cv hcv
        exact ⟨c0, e1, ex _ _ e2 codeO_ne⟩
    · have e := I.hok.fresh (H := H) hsz
      rw [at1 (Nat.ne_of_gt hlt) (Nat.ne_of_gt (Nat.lt_of_lt_of_le (Heap.lt_size oP) hsz))]
      exact e
end
def tLam2 (T : List (Addr × Str)) (TT : (XK → Hp → VK → Prop) → Hp → VK → Prop) (t : XK → TE) : TE := fun σ H Q => Tabs T H ∧ ∀ H1, ExtN H H1 → (∀ b, H1 b = none → H b = none) → Tabs T H1 → TT (fun E H' Q' => t E σ H' Q') H1 Q
section
variable {X : Cx}
theorem pe_lam2 {T : List (Addr × Str)} {TT : (XK → Hp → VK → Prop) → Hp → VK → Prop} {x a : Str} {st : Stmt} {g c P : Addr} {k : Nat} {fd : FuncData} {Ng : List Str}
    {params : Arguments} {body : Expr} {scope : Scope} {t : XK → TE} {p lpos pos : Pos} (F : Fun X.K x x st g fd) (Sg : FnScope Ng [a] (defScope st)) (hNg : Ng[0]? = some a) (hva : Vis (defScope st) a) (hb : L2.Binds X.K fd [a] []) (hm : X.mg x = some (.ref g))
    (hG : ∀ cdg, GivesTo X Ng x (defScope st) g cdg (defBody st) a (X.env.qual ++ "<lambda>") TT)
    (TB : TabB X.base X.mg c P) (hcode : X.env.code = .ref c) (hmT : (P, X.env.qual ++ "<lambda>") ∈ T) (hu : ∀ p ∈ T, p.1 = P → p.2 = X.env.qual ++ "<lambda>") (hr : Room (k + 2) X.A) (hg : Gl X x) (L : LamS X.env.scope scope) (hdef : defaultsOf params X.env = ([], []))
    (hbind : ∀ (q : Str) (cl : List (Str × Addr)) (pm cv ctv : Value), bindArgs (PySem.W.kla_fn "<lambda>" q params body scope cl pm cv ctv) ⟨[], []⟩ = pure [])
    (hbody : ∀ (A : Around) (outer : List PySem.Env) (s : Shared) (H : Hp) (E : XK) (f c' : Addr), Room k (A.deeper (lamEnv X scope s.heap.objs.size f c')) → PE (lamCx X A outer s H E scope f c') body (t E))
    (hdb : (x == ("__debug__" : Str)) = false := by decide) (hd : (a == ("__debug__" : Str)) = false := by decide) (hcd : (a == ("__classdict__" : Str)) = false := by decide) :
    PE X (.Call (.Name x p) [.Lambda params body scope lpos] [] pos) (tLam2 T TT t) := by
  have kp := F.kp
  obtain ⟨oc, od, kV, doc, pm0, an, cdv, ct, osl, rfl, lk, hcg⟩ := F.ex
  refine ⟨fun pins s σ H Q I ⟨hT, h⟩ => wpAny_Call_Name_kw (ld_glob I hg hm (PySem.W.callWith_K (h₀ := X.base) I.ok.mod.kin kp ?_ (by rfl) (by rfl)) hdb)⟩
  show wpAny _ _ (spliced ((false, eval (.Lambda params body scope lpos) X.env) :: backTo pos (starEach [] X.env))) _ _ s
  refine Calls.spliced_cons (lam_new I TB hcode hmT hu hT hdef (L.has I.ok) fun f c' pm' ctv H1 s' I1 eN dm T1 hf hfn hfr hco => Calls.spliced_nil ⟨I1.kIn, wpAny_call (codeAny_mono (?_ : codeAny (model X.prog X.w) X.A (.call (.ref g) ⟨[.ref f], []⟩) (CR C8.CX0 X.stack X.prog X.w H1 s' Q C8.E0) s') fun r s2 hq => ?_)⟩)
  · refine run_ofS (N := Ng) (ps := [a]) (us := [.ref f]) (vs := [.ref f]) lk hcg Sg hr I1.env0 (hb s' [.ref f] I1.kIn rfl) (.cons rfl .nil) rfl fun hr' => ?_
    obtain ⟨t', ht', hq'⟩ := hG cdv f c' s' H1 Q (fun E H' Q' => t E σ H' Q') (fun W pn xe E p1 p2 tk hW => pe_act (i := 0) I1 L hf hfn hfr (hbind _ _ _ _ _) tk hW hr' (fun A outer s H hr2 => hbody A outer s H E f c' hr2) hNg hva hd hcd) hco (h H1 eN dm T1)
    exact ⟨t', ht'.nox, hq'⟩
  · cases r with
    | error e => exact (show False from hq).elim
    | ok fl =>
      cases fl with
      | ret u => exact I1.after hq
      | next => exact False.elim hq
      | brk => exact False.elim hq
      | cont => exact False.elim hq
end
end DL
end
section
set_option Elab.async false
set_option linter.all false
set_option maxRecDepth 100000
set_option maxHeartbeats 4000000
local macro_rules | `(tactic| walk_at "imm") => `(tactic| first
  | exact DL.imm_int
  | exact DL.imm_str
  | exact DL.imm_non
  | exact DL.imm_bl
  | exact DL.imm_nt
  | exact DL.immAll_nil
  | assumption
  | (refine DL.immAll_map ?_; intro _; walk_at "imm")
  | (refine DL.immAll_cons ?_ ?_ <;> walk_at "imm")
  | (refine DL.immAll_append ?_ ?_ <;> walk_at "imm")
  | (refine DL.immAll_rep ?_; walk_at "imm")
  | (refine DL.immAll_mem ?_; walk_at "imm")
  | (intro _ _; walk_at "imm")
  | (refine ⟨?_, ?_⟩ <;> walk_at "imm")
  | (refine DL.immT ?_; assumption))
local macro_rules | `(tactic| walk_at "hu") => `(tactic| exact L2.Room.units (by assumption))
local macro_rules | `(tactic| walk_at "loc") => `(tactic| first | exact Or.inl rfl | exact Or.inr rfl)
local macro_rules | `(tactic| walk_at "room") => `(tactic| first | assumption | exact L2.Room.mono (by assumption) (by decide))
local macro_rules | `(tactic| walk_at "side") => `(tactic| first | assumption | omega | (unfold L2.CMul; omega) | (unfold L2.CDiv; omega) | (have sizeLine_eq1 := PySem.sizeLine_eq; simp only [List.length_map]; omega) | (have sizeLine_eq' := PySem.sizeLine_eq; omega) | (simp; done) | rfl)
local macro_rules | `(tactic| walk_at "size") => `(tactic| ((show _ ≤ 16777216); exact Nat.le_of_ble_eq_true rfl))
local macro_rules | `(tactic| walk_at "sh") => `(tactic| first
  | exact DL.sh_int
  | exact DL.sh_bl
  | exact DL.sh_non
  | exact DL.sh_str (by decide +kernel)
  | exact DL.shA_nil
  | assumption
  | (refine DL.sh_of ?_; walk_at "sh")
  | (refine DL.shA_map ?_; intro _; walk_at "sh")
  | (refine DL.shA_cons ?_ ?_ <;> walk_at "sh")
  | (refine DL.shA_app ?_ ?_ <;> walk_at "sh")
  | (refine DL.sh_tup ?_; walk_at "sh")
  | (refine DL.sh_lst ?_; walk_at "sh"))
namespace K87
open PySem PySem.Spec L2 DL
section
variable {P : Program} {w : World} {K : PySem.W.Frag} {mg : Str → Option Value} {base : Heap}
abbrev s_lh : Stmt := top 70
abbrev N_lh : List Str := ["call", "error"]
theorem sc_lh : FnScope N_lh ["call"] (defScope s_lh) := ⟨rfl, rfl, rfl, by decide +kernel, rfl, by decide +kernel, by decide +kernel⟩
structure Err2 (K : PySem.W.Frag) (mg : Str → Option Value) (CS CU CT : Addr) : Prop where
  mU : mg "Unfit" = some (.ref CU)
  mT : mg "TooMany" = some (.ref CT)
  mS : mg "SayError" = some (.ref CS)
  exU : PySem.W.exmOne K (.ref CT) (.ref CU) = some false
  exT : PySem.W.exmOne K (.ref CT) (.ref CT) = some true
  kit : PySem.W.kitOne K (.ref CT) (.ref CS) = some true
  lim : PySem.W.findIn K (.ref CT) "limit" = some none
  xf : XfC K CT
  isa : IsaC K CT
def TTH (CT : Addr) : (XK → Hp → VK → Prop) → Hp → VK → Prop := fun tl H Q =>
  tl (fun cls d H' => ∃ dd, cls = .ref CT ∧ d = some dd ∧ H' dd = some (.xd [("limit", .int 40)]) ∧ ∀ l, H' l = none → Q (.ref l) (upd H' l (.lst [.str "many", .int 40, .bl true]))) H (fun v H' => [V.str "told", v].length ≤ sizeLine ∧ ∀ l, H' l = none → Q (.ref l) (upd H' l (.lst [.str "told", v])))
def ts2 (CT : Addr) (a : Addr) (cls : Value) (d : Option Addr) : TS := fun D σ H => ∃ dd, cls = .ref CT ∧ d = some dd ∧ H dd = some (.xd [("limit", .int 40)]) ∧ σ[1]? = some (some (.ref a)) ∧ ∀ l, H l = none → D.rt (.ref l) (upd H l (.lst [.str "many", .int 40, .bl true]))
abbrev lhCx (X : Cx) (g : Addr) (cdg : Value) (s : Shared) (H : Hp) : Cx := (cxOf C8.CX0 X.prog X.w X.K X.mg X.base N_lh "_law_heard" (defScope s_lh) g cdg X.A X.stack s H C8.E0).nox
theorem heard_gives {X : Cx} {CS CU CT g : Addr} {cdg : Value} {q : Str} (U : Err2 X.K X.mg CS CU CT) (hi : X.mg "isinstance" = none) :
    LamX.GivesTo X N_lh "_law_heard" (defScope s_lh) g cdg (defBody s_lh) "call" q (TTH CT) := by
  intro f c' s H Q tl act hc h
  have Z : ∀ {x : Str} {C : Addr}, (defScope s_lh).names.lookup x = some .globalImplicit → X.mg x = some (.ref C) → (x == ("__debug__" : Str)) = false → Names (lhCx X g cdg s H) x (.ref C) := fun h1 h2 h3 => ⟨h1, h3, .inl h2⟩
  refine ⟨_, pss_one (ps_try_named (X := (lhCx X g cdg s H)) (i := 1) (n := "error")
      (l := [(.ref CU, fun _ _ _ _ _ _ => False), (.ref CT, ts2 CT)])
      (tb := fun W D σ H => ∃ Ech : XK, (∀ cls d σ' H', Ech cls d H' → W cls d σ' H') ∧ σ[0]? = some (some (.ref f)) ∧ H c' = some (LamX.CodeO c' q) ∧ tl Ech H fun v H1 => [V.str "told", v].length ≤ sizeLine ∧ ∀ l, H1 l = none → D.rt (.ref l) (upd H1 l (.lst [.str "told", v])))
      rfl rfl sc_lh.nd rfl rfl LamX.takes0 (fun W pn xe tk _ => ?_) (.cons (Z rfl U.mU rfl) (fun a oe cls d pn _ _ => pss_never) (.cons (Z rfl U.mT rfl) (fun a oe cls d pn hz hf => ?_) .nil))), ?_⟩
  · refine ⟨fun pins s' σ H' D I ⟨Ech, hW, h1, h2, h3⟩ => ?_⟩
    refine PSs.run (t := fun D σ H => tLst (tCons (tC (V.str "told")) (tCons (fun σZ HZ Q => σZ[0]? = some (some (V.ref f)) ∧ HZ c' = some (LamX.CodeO c' q) ∧ tl Ech HZ Q) tNil)) σ H D.rt) ?_ pins s' σ H' D I ?_
    · exact pss_one (ps_ret (pe_lst (pa_cons pe_str (pa_cons (act W pn xe Ech _ _ tk hW) pa_nil))))
    · exact ⟨h1, h2, h3⟩
  · refine ⟨fun pins s' σ H' D I ⟨dd, e1, e2, h1, h2, h3⟩ => ?_⟩
    subst e1 e2
    refine PSs.run (t := fun D σ H => tLst (tCons (tC (V.str "many")) (tCons (tXf a (.ref CT) (some dd) CT "limit" (tVar 1)) (tCons (tCB (rIsD X.K CT a dd) (tCons (tVar 1) (tCons (tC (V.ref CS)) tNil))) tNil))) σ H D.rt) ?_ pins s' σ H' D I ?_
    · have k1 : ∀ p, PE ((lhCx X g cdg s H).suite a ((a, oe) :: pn)) (.Name "error" p) (tVar 1) := fun p => pv 1
      have k2 : ∀ p, PE ((lhCx X g cdg s H).suite a ((a, oe) :: pn)) (.Name "SayError" p) (tC (V.ref CS)) := fun p => pe_glob rfl U.mS rfl
      exact pss_one (ps_ret (pe_lst (pa_cons pe_str (pa_cons (pe_xf (X := lhCx X g cdg s H) U.xf U.lim hz hf (k1 _)) (pa_cons (pe_callB (x := "isinstance") (call_isD (X := lhCx X g cdg s H) (pn := pn) U.isa hz hf) rfl hi (by decide +kernel) (pa_cons (k1 _) (pa_cons (k2 _) pa_nil))) pa_nil)))))
    · refine ⟨_, h2, rfl, rfl, dd, _, .int 40, rfl, h1, rfl, _, h2, .ref CS, .ref CS, true, _, rfl, fun u r => r, U.kit, h1, by decide, h3⟩
  · refine ⟨_, ?_, rfl, hc, h⟩
    intro cls d σ' H' ⟨dd, e1, e2, h1, h2⟩
    subst e1
    refine ⟨false, U.exU, (fun z => by cases z), fun _ => ⟨true, U.exT, (fun _ a na hl => ⟨dd, rfl, e2, h1, ?_, h2⟩), fun z => by cases z⟩⟩
    have : 1 < σ'.length := by rw [hl]; exact Nat.lt_succ_self 1
    rw [List.getElem?_set_self this]
end
end K87
end
section
set_option Elab.async false
set_option linter.all false
set_option maxRecDepth 100000
set_option maxHeartbeats 4000000
local macro_rules | `(tactic| walk_at "imm") => `(tactic| first
  | exact DL.imm_int
  | exact DL.imm_str
  | exact DL.imm_non
  | exact DL.imm_bl
  | exact DL.imm_nt
  | exact DL.immAll_nil
  | assumption
  | (refine DL.immAll_map ?_; intro _; walk_at "imm")
  | (refine DL.immAll_cons ?_ ?_ <;> walk_at "imm")
  | (refine DL.immAll_append ?_ ?_ <;> walk_at "imm")
  | (refine DL.immAll_rep ?_; walk_at "imm")
  | (refine DL.immAll_mem ?_; walk_at "imm")
  | (intro _ _; walk_at "imm")
  | (refine ⟨?_, ?_⟩ <;> walk_at "imm")
  | (refine DL.immT ?_; assumption))
local macro_rules | `(tactic| walk_at "hu") => `(tactic| exact L2.Room.units (by assumption))
local macro_rules | `(tactic| walk_at "loc") => `(tactic| first | exact Or.inl rfl | exact Or.inr rfl)
local macro_rules | `(tactic| walk_at "room") => `(tactic| first | assumption | exact L2.Room.mono (by assumption) (by decide))
local macro_rules | `(tactic| walk_at "side") => `(tactic| first | assumption | omega | (unfold L2.CMul; omega) | (unfold L2.CDiv; omega) | (have sizeLine_eq1 := PySem.sizeLine_eq; simp only [List.length_map]; omega) | (have sizeLine_eq' := PySem.sizeLine_eq; omega) | (simp; done) | rfl)
local macro_rules | `(tactic| walk_at "size") => `(tactic| ((show _ ≤ 16777216); exact Nat.le_of_ble_eq_true rfl))
local macro_rules | `(tactic| walk_at "sh") => `(tactic| first
  | exact DL.sh_int
  | exact DL.sh_bl
  | exact DL.sh_non
  | exact DL.sh_str (by decide +kernel)
  | exact DL.shA_nil
  | assumption
  | (refine DL.sh_of ?_; walk_at "sh")
  | (refine DL.shA_map ?_; intro _; walk_at "sh")
  | (refine DL.shA_cons ?_ ?_ <;> walk_at "sh")
  | (refine DL.shA_app ?_ ?_ <;> walk_at "sh")
  | (refine DL.sh_tup ?_; walk_at "sh")
  | (refine DL.sh_lst ?_; walk_at "sh"))
namespace K87
open PySem PySem.Spec L2 DL
section
variable {P : Program} {w : World} {K : PySem.W.Frag} {mg : Str → Option Value} {base : Heap}
def heardD (p q : Int) (n : Nat) (tw : List Tn) (x y : Int) : PyData := if places q tw ≤ 40 then .list [.str "told", dP p n (places q tw) (wordPr p q tw x y)] else .list [.str "many", .int 40, .bool true]
theorem e_heard {X : Cx} {CS CU CT fh c0 P0 : Addr} {fdh : FuncData} {T : List (Addr × Str)} {k m j : Nat} {ρ : Rh} {params : Arguments} {body : Expr} {scope : Scope} {pp lpos pos : Pos} {p q : Int} {n : Nat} {tw : List Tn} {x y : Int}
    (U : Err2 X.K X.mg CS CU CT) (hi : X.mg "isinstance" = none) (Fh : Fun X.K "_law_heard" "_law_heard" s_lh fh fdh) (bh : L2.Binds X.K fdh ["call"] []) (mh : X.mg "_law_heard" = some (.ref fh))
    (TB : LamX.TabB X.base X.mg c0 P0) (hcode : X.env.code = .ref c0) (hmT : (P0, X.env.qual ++ "<lambda>") ∈ T) (hu : ∀ p ∈ T, p.1 = P0 → p.2 = X.env.qual ++ "<lambda>") (hr : Room (k + 2) X.A) (hg : Gl X "_law_heard") (hT : ρ[j]? = some (.tb T))
    (L : LamX.LamS X.env.scope scope) (hdef : defaultsOf params X.env = ([], []))
    (hbind : ∀ (q : Str) (cl : List (Str × Addr)) (pm cv ctv : Value), bindArgs (PySem.W.kla_fn "<lambda>" q params body scope cl pm cv ctv) ⟨[], []⟩ = pure [])
    (hbody : ∀ (A : Around) (outer : List PySem.Env) (s : Shared) (H : Hp) (E : XK) (f c' : Addr), Room k (A.deeper (LamX.lamEnv X scope s.heap.objs.size f c')) → PE (LamX.lamCx X A outer s H E scope f c') body (tCall (spPW X.K CT) [] E (tPs X.K (ρ.map pu) (dsPW p q n tw x y))))
    (ok : PwOk p q n tw x) : PE X (.Call (.Name "_law_heard" pp) [.Lambda params body scope lpos] [] pos) (tE X.K m ρ m (· = heardD p q n tw x y)) := by
  refine PE.imp (pe_lam2 (t := fun E => tCall (spPW X.K CT) [] E (tPs X.K (ρ.map pu) (dsPW p q n tw x y))) Fh sc_lh rfl (.inl rfl) bh mh (fun cdg => heard_gives U hi) TB hcode hmT hu hr hg L hdef hbind hbody) fun σ H Q ⟨Pt, He, A, en, kq⟩ => ⟨en.pt.tab T (en.sl.tabs j hT), fun H1 eN dm T1 => ?_⟩
  have hPt := en.sl.tabs j hT
  have k1 : Ke Pt H H1 := ⟨fun a o h _ nt => eN a o h fun ps z => by subst z; exact nt (by rw [hPt]; rfl) trivial, dm⟩
  have en1 : DL.Env X.K Pt m He H1 σ ρ A := en.potted k1 ⟨fun p g e => by
    obtain ⟨gs, st, tn, h1, h2, h3⟩ := (en.pt.pot p g e).ex
    exact ⟨gs, st, tn, eN _ _ h1 (fun ps z => by cases z), eN _ _ h2 (fun ps z => by cases z), h3⟩, fun T' e => by rw [hPt] at e; cases e; exact T1⟩
  refine ⟨en1.envP, fun xs H2 B s2 ol => ⟨p, q, n, tw, x, y, B, by rw [List.append_nil]; exact ol, ok, fun h v H3 B3 s3 o3 n3 f3 => ⟨(show 2 ≤ 16777216 by decide), fun l hl => ?_⟩, fun h d H3 s3 hd hx => ⟨d, rfl, rfl, hx, fun l hl => ?_⟩⟩⟩
  · have f4 : ∀ b ∈ B3, H b = none := fun b hb => dm b (s2.free (f3 b hb))
    refine kq (.ref l) _ _ (l :: B3) (by unfold heardD; rw [if_pos h]) (en1.same ((s2.trans s3).trans (same_new hl))) (k1.trans (.of_same ((s2.trans s3).trans (same_new hl)))) ?_ (List.nodup_cons.mpr ⟨fun z => o3.isS l z hl, n3⟩) fun b hb => ?_
    · have := OwnL.cons (Own.str (K := X.K) (H := upd H3 l (.lst [.str "told", v])) "told") (OwnL.cons (o3.same (same_new hl)) .nil)
      rw [List.nil_append, List.append_nil] at this
      exact .lst upd_same (show 2 ≤ 16777216 by decide) this
    · rcases List.mem_cons.mp hb with rfl | hb
      · exact dm _ (s2.free (s3.free hl))
      · exact f4 b hb
  · refine kq (.ref l) _ _ [l] (by unfold heardD; rw [if_neg (by omega)]) (en1.same ((s2.trans s3).trans (same_new hl))) (k1.trans (.of_same ((s2.trans s3).trans (same_new hl)))) ?_ (List.nodup_cons.mpr ⟨List.not_mem_nil, List.nodup_nil⟩) fun b hb => ?_
    · have := OwnL.cons (Own.str (K := X.K) (H := upd H3 l (.lst [.str "many", .int 40, .bl true])) "many") (OwnL.cons (Own.int 40) (OwnL.cons (Own.bl true) .nil))
      exact .lst upd_same (show 3 ≤ 16777216 by decide) this
    · rcases List.mem_cons.mp hb with rfl | hb
      · exact dm _ (s2.free (s3.free hl))
      · cases hb
end
end K87
end
section
set_option Elab.async false
set_option linter.all false
set_option maxRecDepth 100000
set_option maxHeartbeats 4000000
namespace DL
open PySem PySem.Spec L2
section
variable {K : PySem.W.Frag} {Pt : Ef} {m : Nat} {He H : Hp} {σ : L2.St} {ρ : Rh} {A : List Addr}
theorem Env.setF (en : Env K Pt m He H σ ρ A) {i : Nat} (hil : i < ρ.length) {x : V} {d : PyData} {B : List Addr} (o : Own K H x d B) (nd : B.Nodup) (nA : ∀ b ∈ B, b ∉ A) (nHe : ∀ b ∈ B, He b = none) (nP : ∀ b ∈ B, b ∉ ptA Pt) :
    ∃ A', Env K Pt m He H (σ.set i (some x)) (ρ.set i (.ow d)) A' ∧ ∀ a ∈ A', a ∈ B ∨ a ∈ A := by
  obtain ⟨v, A1, C, A2, h1, hA, h3, h4⟩ := en.sl.split i ρ[i] (by simp [hil])
  have hsl := h4 (some x) (.ow d) B (by have := Slots.ow (K := K) (Pt := Pt) (He := He) o Slots.nil; rwa [List.append_nil] at this)
  have eA := en.nd
  rw [hA] at eA
  have hin : ∀ a ∈ A1 ++ B ++ A2, a ∈ B ∨ a ∈ A := fun a ha => by
    rcases List.mem_append.mp ha with ha | ha
    · rcases List.mem_append.mp ha with ha | ha
      · exact .inr (by rw [hA]; exact List.mem_append_left _ (List.mem_append_left _ ha))
      · exact .inl ha
    · exact .inr (by rw [hA]; exact List.mem_append_right _ ha)
  exact ⟨_, ⟨hsl, nodup_mid eA nd (fun b hb z => nA b hb (by rw [hA]; exact mem_mid z)), fun a ha => (hin a ha).elim (nHe a) (en.fr a), fun a ha => (hin a ha).elim (nP a) (en.dj a), en.kp, en.pt⟩, hin⟩
end
section
variable {X : Cx} {m m1 m' : Nat} {ρ : Rh} {N : Nat → Rh → Prop} {R : Nat → PyData → Prop} {a b c e : Expr} {es : List Expr} {body rest : List Stmt} {pos p : Pos} {d : PyData} {P : PyData → Prop} {Ps : List PyData → Prop} {w : Bool}
theorem ds_par2E (i j : Nat) {x y : Str} {px py pt : Pos} {kt k2 pt2} (hc : X.calm = true) (hN : X.N.Nodup) (hi : X.N[i]? = some x) (hj : X.N[j]? = some y) (hij : i ≠ j)
    (hx : X.env.scope.names.lookup x = some .local) (hy : X.env.scope.names.lookup y = some .local) (ha : PA X [a, b] (tEs X.K m ρ m' Ps)) (hz : ∀ ds, Ps ds → ∃ d1 d2, ds = [d1, d2])
    (hil : i < ρ.length := by (first | exact Nat.le_of_ble_eq_true rfl | decide | simp)) (hjl : j < ρ.length := by (first | exact Nat.le_of_ble_eq_true rfl | decide | simp))
    (hw : swappedStores [.Tuple [.Name x px, .Name y py] kt pt] (.Tuple [a, b] k2 pt2) X.env = pure (some [x, y]) := by rfl)
    (hs : swapsWithSole [.Tuple [.Name x px, .Name y py] kt pt] (.Tuple [a, b] k2 pt2) pos.line X.env = pure false := by rfl) :
    PS X (.Assign [.Tuple [.Name x px, .Name y py] kt pt] (.Tuple [a, b] k2 pt2) pos) (tS X.K m ρ (fun m1 ρ1 => ∃ d1 d2, Ps [d1, d2] ∧ m1 = m' ∧ ρ1 = (ρ.set i (.ow d1)).set j (.ow d2)) R) :=
  PS.imp (ps_par hc hN hi hj hij hx hy ha hw hs) fun D σ H ⟨Pt, He, A, en, k1, _⟩ => ⟨Pt, He, A, en, fun xs H' ds B ps en' kp ol nd f => by
    obtain ⟨d1, d2, rfl⟩ := hz ds ps
    have fr : ∀ b ∈ B, b ∉ A := fun b hb z => mut_some (en.sl.isS b z) (f b hb)
    have fp : ∀ b ∈ B, b ∉ ptA Pt := fun b hb z => en.pt.some b z (f b hb)
    have fh : ∀ b ∈ B, He b = none := fun b hb => en.kp.dom b (f b hb)
    cases ol with
    | cons o1 ol =>
      cases ol with
      | cons o2 ol =>
        cases ol
        rw [List.append_nil] at nd fr fp fh
        obtain ⟨n1, n2, n3⟩ := List.nodup_append.mp nd
        obtain ⟨A1, e1, i1⟩ := en'.setF hil o1 n1 (fun b hb => fr b (List.mem_append_left _ hb)) (fun b hb => fh b (List.mem_append_left _ hb)) fun b hb => fp b (List.mem_append_left _ hb)
        obtain ⟨A2, e2, _⟩ := e1.setF (i := j) (by rw [List.length_set]; exact hjl) o2 n2 (fun b hb z => (i1 b z).elim (fun z => n3 b z b hb rfl) (fr b (List.mem_append_right _ hb))) (fun b hb => fh b (List.mem_append_right _ hb)) fun b hb => fp b (List.mem_append_right _ hb)
        exact ⟨_, _, rfl, k1 He _ H' m' _ A2 (.refl _) e2 ⟨d1, d2, ps, rfl, rfl⟩⟩⟩
theorem ds_par3E (i j l : Nat) {x y z : Str} {px py pz pt : Pos} {kt k2 pt2} (hc : X.calm = true) (hN : X.N.Nodup) (hi : X.N[i]? = some x) (hj : X.N[j]? = some y) (hl : X.N[l]? = some z) (hij : i ≠ j) (hil : i ≠ l) (hjl : j ≠ l)
    (hx : X.env.scope.names.lookup x = some .local) (hy : X.env.scope.names.lookup y = some .local) (hzl : X.env.scope.names.lookup z = some .local) (ha : PA X [a, b, c] (tEs X.K m ρ m' Ps)) (hz : ∀ ds, Ps ds → ∃ d1 d2 d3, ds = [d1, d2, d3])
    (h1 : i < ρ.length := by (first | exact Nat.le_of_ble_eq_true rfl | decide | simp)) (h2 : j < ρ.length := by (first | exact Nat.le_of_ble_eq_true rfl | decide | simp)) (h3 : l < ρ.length := by (first | exact Nat.le_of_ble_eq_true rfl | decide | simp))
    (hw : swappedStores [.Tuple [.Name x px, .Name y py, .Name z pz] kt pt] (.Tuple [a, b, c] k2 pt2) X.env = pure (some [x, y, z]) := by rfl)
    (hs : swapsWithSole [.Tuple [.Name x px, .Name y py, .Name z pz] kt pt] (.Tuple [a, b, c] k2 pt2) pos.line X.env = pure false := by rfl) :
    PS X (.Assign [.Tuple [.Name x px, .Name y py, .Name z pz] kt pt] (.Tuple [a, b, c] k2 pt2) pos) (tS X.K m ρ (fun m1 ρ1 => ∃ d1 d2 d3, Ps [d1, d2, d3] ∧ m1 = m' ∧ ρ1 = ((ρ.set i (.ow d1)).set j (.ow d2)).set l (.ow d3)) R) :=
  PS.imp (ps_par3 hc hN hi hj hl hij hil hjl hx hy hzl ha hw hs) fun D σ H ⟨Pt, He, A, en, k1, _⟩ => ⟨Pt, He, A, en, fun xs H' ds B ps en' kp ol nd f => by
    obtain ⟨d1, d2, d3, rfl⟩ := hz ds ps
    have fr : ∀ b ∈ B, b ∉ A := fun b hb z => mut_some (en.sl.isS b z) (f b hb)
    have fp : ∀ b ∈ B, b ∉ ptA Pt := fun b hb z => en.pt.some b z (f b hb)
    have fh : ∀ b ∈ B, He b = none := fun b hb => en.kp.dom b (f b hb)
    cases ol with
    | cons o1 ol =>
      cases ol with
      | cons o2 ol =>
        cases ol with
        | cons o3 ol =>
          cases ol
          rw [List.append_nil] at nd fr fp fh
          obtain ⟨n1, n23, n3⟩ := List.nodup_append.mp nd
          obtain ⟨n2, n4, n5⟩ := List.nodup_append.mp n23
          obtain ⟨A1, e1, i1⟩ := en'.setF h1 o1 n1 (fun b hb => fr b (List.mem_append_left _ hb)) (fun b hb => fh b (List.mem_append_left _ hb)) fun b hb => fp b (List.mem_append_left _ hb)
          obtain ⟨A2, e2, i2⟩ := e1.setF (i := j) (by rw [List.length_set]; exact h2) o2 n2 (fun b hb z => (i1 b z).elim (fun z => n3 b z b (List.mem_append_left _ hb) rfl) (fr b (List.mem_append_right _ (List.mem_append_left _ hb)))) (fun b hb => fh b (List.mem_append_right _ (List.mem_append_left _ hb))) fun b hb => fp b (List.mem_append_right _ (List.mem_append_left _ hb))
          obtain ⟨A3, e3, _⟩ := e2.setF (i := l) (by rw [List.length_set, List.length_set]; exact h3) o3 n4 (fun b hb z => (i2 b z).elim (fun z => n5 b z b hb rfl) fun z => (i1 b z).elim (fun z => n3 b z b (List.mem_append_right _ hb) rfl) (fr b (List.mem_append_right _ (List.mem_append_right _ hb)))) (fun b hb => fh b (List.mem_append_right _ (List.mem_append_right _ hb))) fun b hb => fp b (List.mem_append_right _ (List.mem_append_right _ hb))
          exact ⟨_, _, _, rfl, k1 He _ H' m' _ A3 (.refl _) e3 ⟨d1, d2, d3, ps, rfl, rfl⟩⟩⟩
def tTE (K : PySem.W.Frag) (m : Nat) (ρ : Rh) (m' : Nat) (w : Bool) : TT := fun σ H Q => ∃ Pt He A, Env K Pt m He H σ ρ A ∧ ∀ H', Env K Pt m' He H' σ ρ A → Ke Pt H H' → Q w H'
theorem pt_ofE (h : PE X e (tE X.K m ρ m' (· = .bool w))) (he : ∀ whole, isTrue e X.env whole = (do let v ← whole; standAt e.pos; holding [v] (truthy v)) := by intro _; rfl) : PT X e (tTE X.K m ρ m' w) :=
  PT.imp (pt_val h he) fun _ H _ ⟨Pt, He, A, en, k⟩ => ⟨Pt, He, A, en, fun x H' d B hd en' kp o _ _ => by
    subst hd
    exact ⟨w, o.bl_inv, k H' en' kp⟩⟩
theorem pt_notE (h : PT X e (tTE X.K m ρ m' w)) : PT X (.UnaryOp .Not e pos) (tTE X.K m ρ m' (!w)) := PT.imp (pt_not h) fun _ H _ ⟨Pt, He, A, en, k⟩ => ⟨Pt, He, A, en, fun H' en' kp => k H' en' kp⟩
theorem dss_ifE (hc : PT X c (tTE X.K m ρ m' w)) (h1 : w = true → PSs X body (tS X.K m' ρ (fun _ _ => False) R)) (h2 : w = false → PSs X rest (tS X.K m' ρ N R)) :
    PSs X (.If c body [] pos :: rest) (tS X.K m ρ N R) := by
  cases w with
  | true => exact PSs.imp (pss_cons (ps_if hc (h1 rfl) pss_never) pss_never) fun D σ H ⟨Pt, He, A, en, k1, k2⟩ => ⟨Pt, He, A, en, fun H' en' kp => iteT ⟨Pt, He, A, en', (fun _ _ _ _ _ _ _ _ z => z.elim), k2⟩⟩
  | false => exact PSs.imp (pss_cons (ps_if hc pss_never pss_nil) (h2 rfl)) fun D σ H ⟨Pt, He, A, en, k1, k2⟩ => ⟨Pt, He, A, en, fun H' en' kp => iteF ⟨Pt, He, A, en', k1, k2⟩⟩
theorem pt_cE {op : CmpOp} {d1 d2 : PyData} (h : CmpD X op d1 d2 w) (hd : imm d1 = true) (ha : PE X a (tE X.K m ρ m' (· = d1))) (hb : PE X b (tP X.K (ρ.map pu) d2)) (hm : behindInMarks op b = false := by rfl) : PT X (.Compare a [op] [b] pos) (tTE X.K m ρ m' w) := by
  obtain ⟨r2, ho, hr⟩ := h.ex
  exact PT.imp (pt_cmpR ho ha hb hm) fun _ H _ ⟨Pt, He, A, en, k⟩ => ⟨Pt, He, A, en, fun x H' d B e en' kp o n f => by
    subst e
    exact ⟨en'.envP, fun y H2 C s2 o2 => hr H2 x y B C (o.same s2) o2 _ ⟨w, rfl, k H2 (en'.same s2) (kp.trans (.of_same s2))⟩⟩⟩
theorem e_repr {d1 : PyData} (hg : X.A.guards = some []) (hu : X.A.units + 64 < cLine) (h : PE X e (tE X.K m ρ m' (· = d))) (hd : nm d = d1) (ho : okD d1 = true) (hz : szD d1 ≤ sizeLine) (hdp : d1.depth ≤ 60) (hr : ∀ (K : PySem.W.Frag) (H : Hp) (x : V) (B : List Addr), Own K H x d B → ∃ a, x = .ref a)
    (hgl : Gl X "repr") (hm : X.mg "repr" = none) (hs : starEach [e] X.env = (false, eval e X.env) :: starEach [] X.env := by rfl) (hpl : (backTo pos (starEach [] X.env)).any (·.1) = false := by rfl) :
    PE X (.Call (.Name "repr" p) [e] [] pos) (tE X.K m ρ m' (· = .str d1.shown)) := by
  subst hd
  obtain ⟨z1, z2, z3⟩ := shown_le (nm d) ho
  exact PE.imp (pe_callB (cr_repr hg hu) hgl hm (by decide +kernel) (pa_cons h pa_nil hs) (he := hs) (hpl := hpl)) fun _ H _ ⟨Pt, He, A, en, k⟩ => ⟨Pt, He, A, en, fun x H1 d0 B e0 en1 kp o n f => by
    subst e0
    obtain ⟨a, rfl⟩ := hr _ _ _ _ o
    exact ⟨a, nm d0, rfl, o.dpN z3, z3, z2, hdp, Nat.le_trans z1 hz, k _ H1 _ [] rfl en1 kp (.str _) List.nodup_nil fun _ q => by cases q⟩⟩
end
end DL
end
section
set_option Elab.async false
set_option linter.all false
set_option maxRecDepth 100000
set_option maxHeartbeats 4000000
namespace DL
open PySem PySem.Spec L2
open PyProof.Rows (envOfC)
structure FunC (K : PySem.W.Frag) (x qual : Str) (st : Stmt) (f : Addr) (fd : FuncData) (c : Addr) : Prop where
  ex : ∃ (oc : Value) (od : Option Addr) (kV doc pm : Value) (an : Option Addr) (ct : Value) (osl : Array (Option Value)),
    fd = PySem.W.fnOf x qual (defArgs st) (defBody st) (defScope st) .none kV doc pm an (.ref c) ct ∧ K.lookup f = some ⟨oc, od, .func fd, osl⟩ ∧ PySem.W.codeIn K (.ref c) qual = true
  kp : PySem.W.keepIn K (.ref f) = true
section
variable {P : Program} {w : World} {K : PySem.W.Frag} {mg : Str → Option Value} {base : Heap}
theorem FnG.ofC {x qual : Str} {st : Stmt} {f c : Addr} {fd : FuncData} {N ps : List Str} {k : Nat} {sp : Sp} (F : FunC K x qual st f fd c) (S : FnScope N ps (defScope st)) (len : ∀ vs H Q E, sp vs H Q E → vs.length = ps.length)
    (hbody : ∀ (A : Around) (outer : List PySem.Env) (s : Shared) (H : Hp) (vs : List V) (Q : VK) (E : XK), A.guards = some [] → Room k (A.deeper (envOfC qual (defScope st) s.heap.objs.size f (.ref c))) → sp vs H Q E →
      ∃ t, PSs (cxOf L2.CX0 P w K mg base N qual (defScope st) f (.ref c) A outer s H E).nox (defBody st) t ∧ t { nx := fun _ H' => Q .non H', rt := Q } (L2.start N vs) H) : FnG P w K mg base L2.CX0 (k + 1) f fd ps sp := by
  obtain ⟨oc, od, kV, doc, pm, an, ct, osl, rfl, lk, hcd⟩ := F.ex
  refine ⟨len, fun A outer s H args us vs Q E hg hr e0 hb r hsp => LamX.run_ofS lk hcd S hr e0 hb r (len _ _ _ _ hsp) fun hr' => ?_⟩
  obtain ⟨t, h, q⟩ := hbody A outer s H vs Q E hg hr' hsp
  exact ⟨t, h.nox, q⟩
theorem fn_tabC {T : List (Addr × Str)} {x qual : Str} {st : Stmt} {f c0 : Addr} {fd : FuncData} {N ps : List Str} {k : Nat} {Pre : List PyData → Nat → Prop} {Post : List PyData → PyData → Prop} (F : FunC K x qual st f fd c0) (Sc : FnScope N ps (defScope st)) (hl : ∀ ds c, Pre ds c → ds.length + 1 = ps.length)
    (hb : ∀ (A : Around) (outer : List PySem.Env) (s : Shared) (H : Hp) (E : XK), A.guards = some [] → Room k (A.deeper (envOfC qual (defScope st) s.heap.objs.size f (.ref c0))) → ∀ m ds c, Pre ds c →
      PSs (cxOf L2.CX0 P w K mg base N qual (defScope st) f (.ref c0) A outer s H E).nox (defBody st) (tS K (m + c) (.tb T :: ent (N.length - 1) ds) (fun m' _ => m ≤ m' ∧ Post ds .none) (fun m' d' => m ≤ m' ∧ Post ds d'))) : FnG P w K mg base L2.CX0 (k + 1) f fd ps (spE K (fun Pt => Pt.tabs = some T) Pre Post) := by
  refine FnG.ofC F Sc (fun vs H Q E ⟨Pt, p, g, m, c, ds, C, xs, hp, _, hv, pt, hpre, ol, _⟩ => by rw [hv, List.length_cons, ol.length]; exact hl ds c hpre) fun A outer s H vs Q E hg hr ⟨Pt, p, g, m, c, ds, C, xs, hp, ht, hv, pt, hpre, ol, dj, q⟩ => ?_
  subst hv
  refine ⟨_, hb A outer s H E hg hr m ds c hpre, Pt, H, [], ⟨?_, List.nodup_nil, (fun _ z => by cases z), (fun _ z => by cases z), .refl H, pt⟩, ?_, ?_⟩
  · unfold L2.start ent
    have e : N.length - (V.ref p :: xs).length = N.length - 1 - ds.length := by rw [List.length_cons, ol.length]; omega
    rw [List.map_cons, List.cons_append, e]
    exact .tb ht (slots_sh _ ol dj)
  · intro He' σ' H' m' ρ' A' kk en ⟨l, n⟩
    exact q .non H' .none [] n (kk.trans en.kp) (en.pt.mono l) .non List.nodup_nil fun _ z => by cases z
  · intro y H' m' d' B kk pt' o n f ⟨l, r⟩
    exact q y H' d' B r kk (pt'.mono l) o n f
end
section
variable {X : Cx} {r : Ro} {ds : List PyData} {pos : Pos}
theorem pe_callRx {CX : CXT} {sp : Sp} {E : XK} {x : Str} {f : Addr} {fd : FuncData} {ps : List Str} {k : Nat} {p : Pos} {kws : List Keyword} (G : FnOk X.prog X.w X.K X.mg X.base CX k f fd ps sp) (A : At X.K X.mg x f fd ps) (hr : Room k X.A) (hx : Passes CX X E) (ha : PK X kws (tPs X.K r ds)) (h0 : ps ≠ [] := by decide)
    (hg : Gl X x := by rfl) (hdb : (x == ("__debug__" : Str)) = false := by decide) (hall : (backToKw pos (keywordEach kws X.env)).all (·.1.isSome) = true := by rfl) (hks : (backToKw pos (keywordEach kws X.env)).filterMap (·.1) = ps.reverse := by rfl)
    (hpl : ((backTo pos (starEach [] X.env)).any (·.1) || (backToKw pos (keywordEach kws X.env)).any (·.1.isNone)) = false := by rfl) : PE X (.Call (.Name x p) [] kws pos) (tCall sp [] E (tPs X.K r ds.reverse)) := by
  refine ⟨fun pins s σ H Q I ⟨he, k⟩ => ?_⟩
  refine wpAny_Call_Name_kw (ld_glob I hg A.gl ?_ hdb)
  refine PySem.W.callWith_KW0 (h₀ := X.base) I.ok.mod.kin A.kp hall (thn (ha.run pos pins s σ H (fun zs H1 => ∃ B, Same H H1 ∧ OwnL X.K H1 zs ds B) I ⟨he, fun zs H1 B s o => ⟨B, s, o⟩⟩) fun ws s2 ⟨zs, H2, I2, rz, B, s02, o⟩ => ⟨I2.kIn, ?_⟩) hpl
  rw [hks]
  obtain ⟨C, oC⟩ := o.reverse
  have q : sp (zs.reverse ++ []) H2 Q E := k zs.reverse H2 C s02 oC
  rw [List.append_nil] at q
  exact run_fnk (us := []) (vs := []) G hr (A.kb h0) hx I2 .nil rz q
end
mutual
theorem nm_ok : ∀ d : PyData, okD d = true → nm d = d
  | .none, _ => nm_non
  | .bool _, _ => nm_bl _
  | .int _, _ => nm_int _
  | .str _, _ => nm_str _
  | .list l, h => by rw [nm_lst, nmAll_ok l (by simpa only [okD] using h)]
  | .tuple l, h => by rw [nm_tup, nmAll_ok l (by simpa only [okD] using h)]
  | .dict _, h => by simp [okD] at h
theorem nmAll_ok : ∀ l : List PyData, okAll l = true → nmAll l = l
  | [], _ => nmAll_nil
  | d :: l, h => by
    simp only [okAll, Bool.and_eq_true] at h
    rw [nmAll_cons, nm_ok d h.1, nmAll_ok l h.2]
end
end DL
end
section
set_option Elab.async false
set_option linter.all false
namespace K87
open PySem PySem.Spec L2 DL
theorem upRng {p : Int} (hp : 0 < p ∧ p < 1000) : ∀ (qs : List (Ar × Int)) (s : List (List Int)), (∀ r ∈ s, ∀ x ∈ r, 0 ≤ x ∧ x < 1000) → ∀ r ∈ qs.foldl (upStep p) s, ∀ x ∈ r, 0 ≤ x ∧ x < 1000
  | [], s, h => h
  | q :: qs, s, h => by
    rw [List.foldl_cons]
    refine upRng hp qs _ fun r hr x hx => ?_
    unfold upStep at hr
    rcases List.mem_or_eq_of_mem_set hr with hr | hr
    · exact h r hr x hx
    · subst hr
      rcases List.mem_or_eq_of_mem_set hx with hx | hx
      · by_cases hi : q.1.i.toNat < s.length
        · refine h (at0 s q.1.i) ?_ x hx
          unfold at0
          rw [List.getD_eq_getElem?_getD, List.getElem?_eq_getElem hi]
          exact List.getElem_mem hi
        · unfold at0 at hx
          rw [List.getD_eq_getElem?_getD, List.getElem?_eq_none (by omega)] at hx
          exact absurd (show x ∈ ([] : List Int) from hx) (by simp)
      · subst hx
        have h1 := Int.emod_nonneg (at0 (at0 s q.1.i) (q.1.j - 1 - q.1.i) + q.2) (show p ≠ 0 by omega)
        have h2 := Int.emod_lt_of_pos (at0 (at0 s q.1.i) (q.1.j - 1 - q.1.i) + q.2) hp.1
        omega
theorem upTri {p l : Int} (hp : 0 < p ∧ p < 1000) (hl : 0 ≤ l ∧ l ≤ 1000) (as : List Ar) (ws : List Int) : Tri (upOf p l as ws) ∧ (upOf p l as ws).length ≤ 1000 := by
  obtain ⟨h1, h2⟩ := upInv (p := p) (as.zip ws) (upRows l) (upRows_len hl)
  have e : ((upOf p l as ws).length : Int) = l := h1
  refine ⟨⟨fun i hi => ?_, upRng hp _ _ fun r hr x hx => ?_⟩, by omega⟩
  · have := h2 i (by show (i : Int) < ((upOf p l as ws).length : Int); omega)
    have h3 : ((at0 (upOf p l as ws) (i : Int)).length : Int) = l - i := this
    omega
  · unfold upRows at hr
    obtain ⟨i, _, rfl⟩ := List.mem_map.mp hr
    obtain ⟨_, rfl⟩ := List.mem_replicate.mp hx
    omega
theorem rIn_rng {p : Nat} : ∀ (l : List (List Int)) (s : List (List Int)), (∀ r ∈ l, ∀ x ∈ r, 0 ≤ x ∧ x < p) → (∀ r ∈ s, ∀ x ∈ r, 0 ≤ x ∧ x < p) → ∀ r ∈ l.foldl (rIn p) s, ∀ x ∈ r, 0 ≤ x ∧ x < (p : Int)
  | [], s, _, h => h
  | a :: l, s, hl, h => by
    rw [List.foldl_cons]
    refine rIn_rng l _ (fun r m => hl r (List.mem_cons_of_mem _ m)) fun r m x hx => ?_
    unfold rIn at m
    rcases List.mem_append.mp m with m | m
    · exact h r m x hx
    · obtain ⟨k, hk, rfl⟩ := List.mem_map.mp m
      rcases List.mem_append.mp hx with hx | hx
      · exact hl a List.mem_cons_self x hx
      · rw [List.mem_singleton.mp hx]
        have := List.mem_range.mp hk
        omega
theorem rSt_rng {p : Nat} : ∀ (js : List Nat) (s : List (List Int)), (∀ r ∈ s, ∀ x ∈ r, 0 ≤ x ∧ x < p) → ∀ r ∈ js.foldl (rStep p) s, ∀ x ∈ r, 0 ≤ x ∧ x < (p : Int)
  | [], s, h => h
  | j :: js, s, h => by
    rw [List.foldl_cons]
    exact rSt_rng js _ (rIn_rng s [] h fun r m => by cases m)
theorem allRows_bits {n : Nat} {b : List Int} (h : b ∈ allRows 2 n) : Bits b := fun x hx => by
  have := rSt_rng (p := 2) (List.range n) [[]] (fun r m x hx => by rw [List.mem_singleton.mp m] at hx; cases hx) b h x hx
  omega
theorem lplaces_eq {q : Int} {tw : List Tn} : lplaces q tw = places q tw := by
  unfold lplaces places
  by_cases h : (tw.length : Int) < 2
  · rw [if_pos h, if_pos (by omega)]
  · rw [if_neg h, if_neg (by omega)]
end K87
end
section
set_option Elab.async false
set_option linter.all false
set_option maxRecDepth 100000
set_option maxHeartbeats 4000000
local macro_rules | `(tactic| walk_at "imm") => `(tactic| first
  | exact DL.imm_int
  | exact DL.imm_str
  | exact DL.imm_non
  | exact DL.imm_bl
  | exact DL.imm_nt
  | exact DL.immAll_nil
  | assumption
  | (refine DL.immAll_map ?_; intro _; walk_at "imm")
  | (refine DL.immAll_cons ?_ ?_ <;> walk_at "imm")
  | (refine DL.immAll_append ?_ ?_ <;> walk_at "imm")
  | (refine DL.immAll_rep ?_; walk_at "imm")
  | (refine DL.immAll_mem ?_; walk_at "imm")
  | (intro _ _; walk_at "imm")
  | (refine ⟨?_, ?_⟩ <;> walk_at "imm")
  | (refine DL.immT ?_; assumption))
local macro_rules | `(tactic| walk_at "hu") => `(tactic| exact L2.Room.units (by assumption))
local macro_rules | `(tactic| walk_at "loc") => `(tactic| first | exact Or.inl rfl | exact Or.inr rfl)
local macro_rules | `(tactic| walk_at "room") => `(tactic| first | assumption | exact L2.Room.mono (by assumption) (by decide))
local macro_rules | `(tactic| walk_at "side") => `(tactic| first | assumption | omega | (unfold L2.CMul; omega) | (unfold L2.CDiv; omega) | (have sizeLine_eq1 := PySem.sizeLine_eq; simp only [List.length_map]; omega) | (have sizeLine_eq' := PySem.sizeLine_eq; omega) | (simp; done) | rfl)
local macro_rules | `(tactic| walk_at "size") => `(tactic| ((show _ ≤ 16777216); exact Nat.le_of_ble_eq_true rfl))
local macro_rules | `(tactic| walk_at "sh") => `(tactic| first
  | exact DL.sh_int
  | exact DL.sh_bl
  | exact DL.sh_non
  | exact DL.sh_str (by decide +kernel)
  | exact DL.shA_nil
  | assumption
  | (refine DL.sh_of ?_; walk_at "sh")
  | (refine DL.shA_map ?_; intro _; walk_at "sh")
  | (refine DL.shA_cons ?_ ?_ <;> walk_at "sh")
  | (refine DL.shA_app ?_ ?_ <;> walk_at "sh")
  | (refine DL.sh_tup ?_; walk_at "sh")
  | (refine DL.sh_lst ?_; walk_at "sh"))
namespace K87
open PySem PySem.Spec L2 DL
section
variable {P : Program} {w : World} {K : PySem.W.Frag} {mg : Str → Option Value} {base : Heap}
abbrev s_ip : Stmt := top 83
abbrev N_ip : List Str := ["pot", "n", "word", "p", "first", "last", "due", "length", "told", "program", "bits", "value"]
theorem sc_ip : FnScope N_ip ["pot", "n", "word", "p", "first", "last"] (defScope s_ip) := ⟨rfl, rfl, rfl, by decide +kernel, rfl, by decide +kernel, by decide +kernel⟩
def qLam : Str := "_law_is_program_right.<locals>.<lambda>"
structure IpOk (p q : Int) (n : Nat) (tw : List Tn) (x : Int) : Prop where
  hp : p = 2 ∨ p = 3 ∨ p = 5 ∨ p = 7
  hn : n ≤ 6
  pw : PwOk p q n tw x
def PreIp (ds : List PyData) (c : Nat) : Prop := ∃ (n : Nat) (q : Int) (tw : List Tn) (p x y : Int), ds = [.int (n : Int), dW q tw, .int p, .int x, .int y] ∧ IpOk p q n tw x ∧ c = 0
def PostIp (_ : List PyData) (d : PyData) : Prop := d = .bool true
structure IpG (P : Program) (w : World) (K : PySem.W.Frag) (mg : Str → Option Value) (base : Heap) : Prop where
  lp : Fu P w K mg base "_law_places" ["word"] 1 S_lp
  lr : Fu P w K mg base "_law_rows" ["p", "n"] 1 S_lr
  lc : Fu P w K mg base "_law_comes" ["d", "orders"] 2 S_lc
  ld : Fu P w K mg base "_law_done" ["word", "items"] 1 S_ld
  pe : Fu P w K mg base "program_error" ["value"] 3 S_pe
  pv : Fu P w K mg base "program_value" ["program", "items"] 3 S_pv
  lpv : Fu P w K mg base "_law_program_value" ["program", "items"] 2 S_lpv
  de : Fu P w K mg base "determinant" ["p", "upper"] 3 S_de
  so : Fu P w K mg base "stair_of" ["program", "items"] 3 S_so
theorem heard_ok {p q : Int} {n : Nat} {tw : List Tn} {x y : Int} (h : IpOk p q n tw x) : okD (heardD p q n tw x y) = true ∧ szD (heardD p q n tw x y) ≤ sizeLine ∧ (heardD p q n tw x y).depth ≤ 60 := by
  have hz := PySem.sizeLine_eq
  unfold heardD
  split
  · rename_i hl
    obtain ⟨hv, _, _⟩ := word_prog (last := y) h.hp h.hn h.pw.hx h.pw.ht hl h.pw.hq h.pw.hT
    have a1 : okAll ((wordPr p q tw x y).map dA) = true := okAll_map _ fun a ha => by
      have := hv.a a ha
      have := hv.hl
      have := hv.hn
      have := hv.hp
      simp only [dA, okD, okAll, Bool.and_eq_true, decide_eq_true_eq, and_true]
      refine ⟨?_, ?_, ?_, ?_⟩ <;> omega
    have a2 : szAll ((wordPr p q tw x y).map dA) ≤ (wordPr p q tw x y).length * (107 + 2) := szAll_map _ fun a ha => by simp [dA, szD, szAll]
    have a3 : PyData.depthAll ((wordPr p q tw x y).map dA) ≤ 5 := depth_map _ fun a ha => by simp [dA, PyData.depth, PyData.depthAll]
    have hlen := hv.len
    have e1 := hv.hl
    have e2 := hv.hn
    have e3 := hv.hp
    refine ⟨?_, ?_, ?_⟩
    · simp only [dP, okD, okAll, Bool.and_eq_true, decide_eq_true_eq, and_true, a1]
      refine ⟨by decide +kernel, ?_, ?_, ?_⟩ <;> omega
    · simp only [dP, szD, szAll]
      have : (reprText "told").length ≤ 10 := by decide +kernel
      omega
    · simp only [dP, PyData.depth, PyData.depthAll]
      omega
  · refine ⟨by decide +kernel, ?_, by decide +kernel⟩
    simp only [szD, szAll]
    have : (reprText "many").length ≤ 10 := by decide +kernel
    omega
theorem heard_ref {p q : Int} {n : Nat} {tw : List Tn} {x y : Int} (K : PySem.W.Frag) (H : Hp) (v : V) (B : List Addr) (o : Own K H v (heardD p q n tw x y) B) : ∃ a, v = .ref a := by
  unfold heardD at o
  split at o <;> exact ref_lst _ _ _ _ o
theorem ok_ip (T : Txt mg) (G : IpG P w K mg base) {CS CU CT fT cda cc fh fp f c0 P0 : Addr} {fdh fdp fd : FuncData} (U : Err2 K mg CS CU CT) (Fh : Fun K "_law_heard" "_law_heard" s_lh fh fdh) (bh : L2.Binds K fdh ["call"] []) (mh : mg "_law_heard" = some (.ref fh))
    (Ap : At K mg "program_of_word" fp fdp ["p", "n", "word", "first", "last"]) (Gp : FnOk P w K mg base (L2.CX P w) 3 fp fdp ["p", "n", "word", "first", "last"] (spPW K CT)) (TB : LamX.TabB base mg c0 P0)
    (F : FunC K "_law_is_program_right" "_law_is_program_right" s_ip f fd c0) : FnG P w K mg base CX0 6 f fd ["pot", "n", "word", "p", "first", "last"] (spE K (fun Pt => Pt.tabs = some [(P0, qLam)]) PreIp PostIp) := by
  refine fn_tabC F sc_ip (fun ds c h => ?_) fun A outer s H E hgu hr m ds c h => ?_
  · obtain ⟨n, q, tw, p, x, y, rfl, _⟩ := h
    rfl
  obtain ⟨n, q, tw, p, x, y, rfl, ok, rfl⟩ := h
  have hu := hr.units
  have hz := PySem.sizeLine_eq
  have hx := ok.pw.hx
  have hq := ok.pw.hq
  have hT := ok.pw.hT
  have ht := ok.pw.ht
  have hpp := ok.hp
  have hn := ok.hn
  obtain ⟨k1, k2, k3⟩ := heard_ok (y := y) ok
  have hnm := nm_ok _ k1
  refine dss_seq (ds_par 6 7 rfl sc_ip.nd rfl rfl (by decide) rfl rfl (fas_cons (pf_lst (ds := [.str "many", .int 40, .bool true]) (fas_cons pf_str (fas_cons pf_int (fas_cons pf_bl fas_nil))) (by walk_at "size")) (fas_cons (pf_call G.lp (by walk_at "room") (pas_cons (pp_var 2 (pv 2)) pas_nil) (by exact ⟨q, tw, rfl, ⟨by omega, by omega⟩, rfl⟩)) fas_nil))) ?_
  rintro _ _ ⟨rfl, rfl⟩
  rw [lplaces_eq]
  show PSs _ _ (tS K _ [.tb [(P0, qLam)], .sh (.int (n : Int)), .sh (dW q tw), .sh (.int p), .sh (.int x), .sh (.int y), .ow (.list [.str "many", .int 40, .bool true]), .ow (.int (places q tw)), .un, .un, .un, .un] _ _)
  refine dss_seq (ds_setE 8 sc_ip.nd rfl (by walk_at "loc") (e_heard (k := 3) (j := 0) (p := p) (q := q) (n := n) (tw := tw) (x := x) (y := y) U T.isinstance Fh bh mh TB rfl (T := [(P0, qLam)]) (List.mem_singleton.mpr rfl) (fun p hp _ => by rw [List.mem_singleton.mp hp]; rfl) (by walk_at "room") rfl rfl (LamX.lamS_by (show LamX.lamSB (defScope s_ip) _ = true by decide +kernel)) rfl (fun _ _ _ _ _ => rfl)
    (fun A outer s H E f c' hr => pe_call Gp (by walk_at "room") rfl Ap.gl Ap.kp Ap.bd .nil (passes_call (takes_of rfl rfl rfl rfl) (fun _ _ _ _ z => z)) (pas_cons (pp_var 3 (pv 3)) (pas_cons (pp_var 1 (pv 1)) (pas_cons (pp_var 2 (pv 2)) (pas_cons (pp_var 4 (pv 4)) (pas_cons (pp_var 5 (pv 5)) pas_nil)))))) ok.pw)) ?_
  rintro _ _ ⟨_, rfl, rfl, rfl⟩
  show PSs _ _ (tS K _ [.tb [(P0, qLam)], .sh (.int (n : Int)), .sh (dW q tw), .sh (.int p), .sh (.int x), .sh (.int y), .ow (.list [.str "many", .int 40, .bool true]), .ow (.int (places q tw)), .ow (heardD p q n tw x y), .un, .un, .un] _ _)
  refine dss_ifE (pt_cE c_neS (by walk_at "imm") (e_repr hgu hu (e_heard (k := 3) (j := 0) (p := p) (q := q) (n := n) (tw := tw) (x := x) (y := y) U T.isinstance Fh bh mh TB rfl (T := [(P0, qLam)]) (List.mem_singleton.mpr rfl) (fun p hp _ => by rw [List.mem_singleton.mp hp]; rfl) (by walk_at "room") rfl rfl (LamX.lamS_by (show LamX.lamSB (defScope s_ip) _ = true by decide +kernel)) rfl (fun _ _ _ _ _ => rfl)
    (fun A outer s H E f c' hr => pe_callRx (ds := [.int y, .int x, dW q tw, .int (n : Int), .int p]) Gp Ap (by walk_at "room") (passes_call (takes_of rfl rfl rfl rfl) (fun _ _ _ _ z => z)) (pks_cons (pp_var 5 (pv 5)) (pks_cons (pp_var 4 (pv 4)) (pks_cons (pp_var 2 (pv 2)) (pks_cons (pp_var 1 (pv 1)) (pks_cons (pp_var 3 (pv 3)) pks_nil)))))) ok.pw) hnm k1 k2 k3 heard_ref rfl T.repr) (toP (pf_repr hgu hu (pp_var 8 (pv 8)) hnm k1 k2 k3 heard_ref rfl T.repr))) (fun hw => ?_) (fun hw => ?_)
  · exfalso
    simp at hw
  refine dss_ifR (pt_c c_gt (pp_var 7 (pv 7)) (toP pf_int)) (fun hw => ?_) (fun hw => ?_)
  · have h := of_decide_eq_true hw
    have e8 : heardD p q n tw x y = .list [.str "many", .int 40, .bool true] := if_neg (by omega)
    rw [e8]
    have hsh : SeqAt.shaped (PyData.list [.str "many", .int 40, .bool true]) = true := by decide +kernel
    refine ds_one (ds_ret (pf_c (c_eqD (by walk_at "hu") hsh hsh) (pp_var 8 (pv 8)) (pp_var 6 (pv 6))) ⟨by omega, ?_⟩)
    show PyData.bool (PyData.eqv _ _) = PyData.bool true
    rw [eqv_refl _ (by decide +kernel)]
  have hl : places q tw ≤ 40 := by have := of_decide_eq_false hw; omega
  have e8 : heardD p q n tw x y = .list [.str "told", dP p n (places q tw) (wordPr p q tw x y)] := if_pos hl
  obtain ⟨hv, hok, hval⟩ := word_prog (last := y) hpp hn hx ht hl hq hT
  rw [e8]
  refine dss_seq (ds_asg (pp_ixL (pp_var 8 (pv 8)) (toP pf_int) (atI_nat (j := 1) rfl)) (by unfold dP; walk_at "imm") (gst_name (pg_name (i := 9) sc_ip.nd rfl (by walk_at "loc")))) ?_
  rintro _ _ ⟨rfl, rfl⟩
  show PSs _ _ (tS K _ [.tb [(P0, qLam)], .sh (.int (n : Int)), .sh (dW q tw), .sh (.int p), .sh (.int x), .sh (.int y), .ow (.list [.str "many", .int 40, .bool true]), .ow (.int (places q tw)), .ow (.list [.str "told", dP p n (places q tw) (wordPr p q tw x y)]), .ow (dP p n (places q tw) (wordPr p q tw x y)), .un, .un] _ _)
  have hs3 : SeqAt.shaped (PyData.tuple [.int p, .int (n : Int), .int (places q tw)]) = true := sh_of (sh_tup (shA_cons sh_int (shA_cons sh_int (shA_cons sh_int shA_nil))))
  refine dss_ifR (PW.pt (pw_orD (pt_c c_neS (pp_ixL (pp_var 8 (pv 8)) (toP pf_int) (atI_nat (j := 0) rfl)) (toP pf_str)) fun _ => pw_orD (pt_c (c_neD (by walk_at "hu") hs3 hs3) (pp_sl3 (pp_var 9 (pv 9))) (toP (pf_tup (fas_cons (toF (pp_var 3 (pv 3)) (by walk_at "imm")) (fas_cons (toF (pp_var 1 (pv 1)) (by walk_at "imm")) (fas_cons (toF (pp_var 7 (pv 7)) (by walk_at "imm")) fas_nil))) (by walk_at "size"))))
    fun _ => pw_last (pt_c c_notN (toP (pf_call G.pe (by walk_at "room") (pas_cons (pp_var 9 (pv 9)) pas_nil) (by exact ⟨p, n, _, _, rfl, hv, rfl⟩))) (toP pf_non)) (.inr rfl))) (fun hw => ?_) (fun hw => ?_)
  · exfalso
    rw [sh_refl (n := 64) (sh_tup (shA_cons sh_int (shA_cons sh_int (shA_cons sh_int shA_nil))))] at hw
    simp [DL.isNon] at hw
  refine dss_seq (ds_find (l := allRows 2 n) (f := dI) [10, 11] (fun _ => True) PassesOwn.never rfl (pi_lstF (pf_call G.lr (by walk_at "room") (pas_cons (toP pf_int) (pas_cons (pp_var 1 (pv 1)) pas_nil)) (by exact ⟨2, n, rfl, by omega, by omega, rfl⟩))) (by walk_at "imm") ?_) ?_
  · rintro pre1 b1 post1 hl1 hp1
    have hm1 := mem_at hl1
    have hb1 := allRows_len hm1
    have hbit := allRows_bits hm1
    obtain ⟨v1, v2, v3⟩ := hval b1 hb1.symm hbit _ rfl
    have ht1 : WOk q b1.length tw := by rw [hb1]; exact ht
    refine ⟨_, gst_name (pg_name (i := 10) sc_ip.nd rfl (by walk_at "loc")), ?_⟩
    show PSs _ _ (tS K _ [.tb [(P0, qLam)], .sh (.int (n : Int)), .sh (dW q tw), .sh (.int p), .sh (.int x), .sh (.int y), .ow (.list [.str "many", .int 40, .bool true]), .ow (.int (places q tw)), .ow (.list [.str "told", dP p n (places q tw) (wordPr p q tw x y)]), .ow (dP p n (places q tw) (wordPr p q tw x y)), .ow (dI b1), .un] _ _)
    refine dss_seq (ds_set 11 sc_ip.nd rfl (by walk_at "loc") (pf_intB (toP (pf_c c_eqI (pp_ixM (f := PyData.int) (pp_nt (toP (pf_call G.lc (by walk_at "room") (pas_cons (pp_fix0 (pp_var 2 (pv 2))) (pas_cons (toP (pf_call G.ld (by walk_at "room") (pas_cons (pp_var 2 (pv 2)) (pas_cons (pp_var 10 (pv 10)) pas_nil)) (by exact ⟨q, tw, b1, rfl, ht1.k, hbit, rfl⟩))) pas_nil))
      (by exact ⟨q, tw.map (own b1), rfl, ⟨by omega, by omega⟩, (fun o ho => by obtain ⟨t, ht2, rfl⟩ := List.mem_map.mp ho; exact own_rng ht1 ht2), rfl⟩)))) (pp_var 4 (pv 4)) (by rw [comes_len (by omega)]; exact hx)) (pp_var 5 (pv 5)))) rfl T.int)) ?_
    rintro _ _ ⟨rfl, rfl⟩
    rw [comes_led hx]
    have ev : (if decide (ledTo b1 tw x = y) = true then (1 : Int) else 0) = if ledTo b1 tw x = y then (1 : Int) else 0 := by simp
    rw [ev]
    show PSs _ _ (tS K _ [.tb [(P0, qLam)], .sh (.int (n : Int)), .sh (dW q tw), .sh (.int p), .sh (.int x), .sh (.int y), .ow (.list [.str "many", .int 40, .bool true]), .ow (.int (places q tw)), .ow (.list [.str "told", dP p n (places q tw) (wordPr p q tw x y)]), .ow (dP p n (places q tw) (wordPr p q tw x y)), .ow (dI b1), .ow (.int (if ledTo b1 tw x = y then (1 : Int) else 0))] _ _)
    have ok1 : PrOk p (places q tw) b1.length (wordPr p q tw x y) := by rw [hb1]; exact hok
    refine dss_ifR (PW.pt (pw_orD (pt_c c_neI (toP (pf_call G.pv (by walk_at "room") (pas_cons (pp_var 9 (pv 9)) (pas_cons (pp_var 10 (pv 10)) pas_nil)) (by exact ⟨p, n, _, _, b1, rfl, ok1, rfl⟩))) (pp_var 11 (pv 11))) fun _ =>
      pw_last (pt_c c_neI (toP (pf_call G.lpv (by walk_at "room") (pas_cons (pp_var 9 (pv 9)) (pas_cons (pp_var 10 (pv 10)) pas_nil)) (by exact ⟨p, n, _, _, b1, rfl, ok1, rfl⟩))) (pp_var 11 (pv 11))) (.inr rfl))) (fun hw => ?_) (fun hw => ?_)
    · exfalso
      rw [v1, v2] at hw
      simp at hw
    refine dss_ifR (PW.pt (pw_andD (pt_c c_lt (pp_var 7 (pv 7)) (toP pf_int)) fun hw2 => pw_last (pt_c c_neI (toP (pf_call G.de (by walk_at "room") (pas_cons (pp_var 3 (pv 3)) (pas_cons (toP (pf_call G.so (by walk_at "room") (pas_cons (pp_var 9 (pv 9)) (pas_cons (pp_var 10 (pv 10)) pas_nil)) (by exact ⟨p, n, _, _, b1, rfl, ok1, by have := of_decide_eq_true hw2; omega, (fun a ha => by have := hv.a a ha; omega), rfl⟩))) pas_nil))
      (by exact ⟨p, _, rfl, ⟨by omega, by omega⟩, (upTri ⟨by omega, by omega⟩ ⟨by have := hv.hl; omega, by omega⟩ _ _).1, (upTri (p := p) ⟨by omega, by omega⟩ ⟨by have := hv.hl; omega, by omega⟩ _ _).2, rfl⟩))) (pp_var 11 (pv 11))) (.inl rfl))) (fun hw => ?_) (fun hw => ?_)
    · exfalso
      rw [v3] at hw
      simp at hw
    exact dss_nil (.keep (.keep (.keep (.keep (.keep (.keep (.keep (.keep (.keep (.keep (.drop (.drop .nil)))))))))))) ⟨⟨rfl, rfl⟩, trivial⟩
  rintro _ _ ⟨⟨rfl, rfl⟩, _⟩
  exact ds_one (ds_ret pf_bl ⟨by omega, rfl⟩)
end
end K87
end
section
set_option Elab.async false
set_option linter.all false
set_option maxRecDepth 100000
set_option maxHeartbeats 4000000
namespace DL
open PySem PySem.Spec L2
section
variable {X : Cx} {m : Nat} {ρ : Rh} {r : Ro} {R : Nat → PyData → Prop} {a b e o f : Expr} {es : List Expr} {pos p cpos apos : Pos} {d : PyData} {ds ds1 ds2 : List PyData} {l : List Int} {β : Type} {vf : β → PyData}
theorem pp_lstP (h : PA X es (tPs X.K r ds)) (hz : ds.length ≤ sizeLine := by (first | decide | (show _ ≤ 16777216; decide))) : PE X (.List es pos) (tP X.K r (.list ds)) :=
  PE.imp (pe_lst h) fun _ H _ ⟨he, k⟩ => ⟨he, fun xs H1 B s ol => ⟨by rw [ol.length]; exact hz, fun q hq => k _ _ (q :: B) (s.trans (same_new hq)) (.lst upd_same (by rw [ol.length]; exact hz) (ol.same (same_new hq)))⟩⟩
theorem pf_catLI (ha : PE X a (tP X.K r (.list ds1))) (hb : PE X b (tP X.K r (.list ds2))) (h1 : immAll ds1 = true) (h2 : immAll ds2 = true) (hz : ds1.length + ds2.length ≤ sizeLine) : PE X (.BinOp a .Add b pos) (tF X.K r (.list (ds1 ++ ds2))) :=
  PE.imp (pe_op op_cat ha hb) fun _ H _ ⟨he, k⟩ => ⟨he, fun x H1 B s1 o1 => ⟨he.same s1, fun y H2 C s2 o2 => by
    obtain ⟨p, xs, B', rfl, hp, ol, z1, rfl⟩ := (o1.same s2).lst_inv
    obtain ⟨q, ys, C', rfl, hq, om, z2, rfl⟩ := o2.lst_inv
    have e1 := ol.imm h1
    have e2 := om.imm h2
    subst e1 e2
    have hz' : xs.length + ys.length ≤ sizeLine := by rw [ol.length, om.length]; exact hz
    have s := s1.trans s2
    refine ⟨p, q, xs, ys, rfl, rfl, hp, hq, hz', fun t ht => ?_⟩
    have om' := ol.append om
    exact k _ _ [t] (s.trans (same_new ht)) (.lst upd_same (by rw [List.length_append]; exact hz') (om'.same (same_new ht))) (List.nodup_cons.mpr ⟨List.not_mem_nil, List.nodup_nil⟩) fun u hu => by
      rw [List.mem_singleton.mp hu]; exact s.free ht⟩⟩
theorem pp_getR {s : List (List Int × List β)} {g : β → PyData} (hu : X.A.units + 64 < cLine) (hd : PE X o (tP X.K r (dicT (fun l : List β => .list (l.map g)) s))) (hk : PE X e (tKy X.K r l)) (hx : PE X f (tP X.K r (.list []))) (mm : M2 X o "get" apos e f cpos := by exact ⟨rfl, rfl, rfl, rfl⟩) :
    PE X (.Call (.Attribute o "get" apos) [e, f] [] cpos) (tP X.K r (.list (((aGet s l).getD []).map g))) := by
  have := pp_getT hu hd hk hx mm
  cases q : aGet s l with
  | none => rw [q] at this; exact this
  | some v => rw [q] at this; exact this
end
end DL
end
section
set_option Elab.async false
set_option linter.all false
namespace K87
open PySem PySem.Spec L2 DL
abbrev Cnt := List ((Int × Int) × List (List Int))
def toL (s : Cnt) : List (List Int × List (List Int)) := s.map fun e => ([e.1.1, e.1.2], e.2)
theorem toL_get (s : Cnt) (x y : Int) : aGet (toL s) [x, y] = aGet s (x, y) := by
  unfold toL aGet
  induction s with
  | nil => rfl
  | cons e s ih =>
    rw [List.map_cons, List.find?_cons, List.find?_cons]
    have h : decide (([e.1.1, e.1.2], e.2).1 = [x, y]) = decide (e.1 = (x, y)) := by
      obtain ⟨⟨a, b⟩, c⟩ := e
      by_cases h : a = x <;> by_cases h2 : b = y <;> simp [h, h2]
    rw [h]
    cases decide (e.1 = (x, y)) with
    | true => rfl
    | false => exact ih
theorem toL_put (s : Cnt) (x y : Int) (v : List (List Int)) : aPut (toL s) [x, y] v = toL (aPut s (x, y) v) := by
  have hk : ∀ e : (Int × Int) × List (List Int), ([e.1.1, e.1.2] = [x, y]) ↔ e.1 = (x, y) := fun ⟨⟨a, b⟩, c⟩ => by simp
  have ha : ((toL s).any fun e => decide (e.1 = [x, y])) = (s.any fun e => decide (e.1 = (x, y))) := by
    unfold toL
    rw [List.any_map]
    congr 1
    funext e
    show decide ([e.1.1, e.1.2] = [x, y]) = _
    exact decide_eq_decide.mpr (hk e)
  unfold aPut
  rw [ha]
  split
  · unfold toL
    rw [List.map_map, List.map_map]
    refine List.map_congr_left fun e _ => ?_
    show (if [e.1.1, e.1.2] = [x, y] then ([e.1.1, e.1.2], v) else ([e.1.1, e.1.2], e.2)) = _
    by_cases h : e.1 = (x, y)
    · rw [if_pos ((hk e).mpr h)]; simp [Function.comp, h]
    · rw [if_neg (fun z => h ((hk e).mp z))]; simp [Function.comp, h]
  · unfold toL
    rw [List.map_append]; rfl
structure Cv (k : Nat) (s : Cnt) : Prop where
  nd : ((toL s).map (·.1)).Nodup
  len : s.length ≤ k
  row : ∀ e ∈ s, e.2.length ≤ k
theorem Cv.nil : Cv 0 [] := ⟨List.nodup_nil, Nat.le_refl _, fun _ z => by cases z⟩
theorem Cv.mono {k j : Nat} {s : Cnt} (h : Cv k s) (l : k ≤ j) : Cv j s := ⟨h.nd, Nat.le_trans h.len l, fun e he => Nat.le_trans (h.row e he) l⟩
theorem Cv.get {k : Nat} {s : Cnt} (h : Cv k s) (x : Int × Int) : ((aGet s x).getD []).length ≤ k := by
  unfold aGet
  cases q : s.find? (fun e => decide (e.1 = x)) with
  | none => exact Nat.zero_le _
  | some e => exact h.row e (List.mem_of_find?_eq_some q)
theorem Cv.step {k : Nat} {s : Cnt} {o b : List Int} {x : Nat} (h : Cv k s) : Cv (k + 1) (cIn o b s x) := by
  unfold cIn
  refine ⟨?_, Nat.le_trans (aPut_len _ _ _) (Nat.succ_le_succ h.len), fun e he => ?_⟩
  · rw [← toL_put]; exact aPut_nd h.nd
  · have hg := h.get ((x : Int), at0 o (x : Int))
    have hv : (((aGet s ((x : Int), at0 o (x : Int))).getD []) ++ [b]).length ≤ k + 1 := by rw [List.length_append]; simpa using hg
    unfold aPut at he
    split at he
    · obtain ⟨e0, h0, rfl⟩ := List.mem_map.mp he
      split
      · exact hv
      · exact Nat.le_succ_of_le (h.row e0 h0)
    · rcases List.mem_append.mp he with he | he
      · exact Nat.le_succ_of_le (h.row e he)
      · rw [List.mem_singleton.mp he]; exact hv
theorem Cv.steps {o b : List Int} : ∀ (xs : List Nat) {k : Nat} {s : Cnt}, Cv k s → Cv (k + xs.length) (xs.foldl (cIn o b) s)
  | [], k, s, h => h
  | x :: xs, k, s, h => by
    rw [List.foldl_cons, List.length_cons, show k + (xs.length + 1) = (k + 1) + xs.length by omega]
    exact Cv.steps xs h.step
theorem Cv.rows {q : Int} {tw : List Tn} : ∀ (bs : List (List Int)) {k : Nat} {s : Cnt}, Cv k s → Cv (k + bs.length * q.toNat) (bs.foldl (cStep q tw) s)
  | [], k, s, h => by simpa using h
  | b :: bs, k, s, h => by
    rw [List.foldl_cons, List.length_cons]
    have h1 : Cv (k + (List.range q.toNat).length) (cStep q tw s b) := h.steps (List.range q.toNat)
    rw [List.length_range] at h1
    have := Cv.rows (q := q) (tw := tw) bs h1
    rw [Nat.add_mul, Nat.one_mul, show k + (bs.length * q.toNat + q.toNat) = k + q.toNat + bs.length * q.toNat by omega]
    exact this
theorem nm_dI (o : List Int) : DL.nm (dI o) = dI o := by
  unfold dI
  rw [nm_tup, nmAll_map]
  simp only [nm_int]
theorem nm_dM (m : List (List Int)) : DL.nm (dM m) = dM m := by
  unfold dM
  rw [nm_tup, nmAll_map]
  simp only [nm_dI]
theorem nm_dMn (m : List (List Int)) : DL.nm (dMn m) = dM m := by
  unfold dMn dM
  rw [nm_tup, nmAll_map]
  simp only [nm_nt]
  rfl
theorem ok_dI {o : List Int} (h : ∀ x ∈ o, x.natAbs < 10 ^ 20) : okD (dI o) = true := by
  unfold dI
  rw [okD]
  exact okAll_map _ fun x hx => by simpa [okD] using h x hx
theorem ok_dM {m : List (List Int)} (h : ∀ o ∈ m, ∀ x ∈ o, x.natAbs < 10 ^ 20) : okD (dM m) = true := by
  unfold dM
  rw [okD]
  exact okAll_map _ fun o ho => ok_dI (h o ho)
theorem sz_dI {o : List Int} {c : Nat} (h : o.length ≤ c) : szD (dI o) ≤ c * 26 + 3 := by
  unfold dI
  rw [szD]
  have := szAll_map (f := PyData.int) (c := 24) o fun x _ => by simp [szD]
  have := Nat.mul_le_mul_right 26 h
  omega
theorem sz_dM {m : List (List Int)} {c k : Nat} (h : ∀ o ∈ m, o.length ≤ c) (hk : m.length ≤ k) : szD (dM m) ≤ k * (c * 26 + 5) + 3 := by
  unfold dM
  rw [szD]
  have h1 := szAll_map (f := dI) (c := c * 26 + 3) m fun o ho => sz_dI (h o ho)
  have h2 := Nat.mul_le_mul_right (c * 26 + 3 + 2) hk
  rw [show c * 26 + 3 + 2 = c * 26 + 5 by omega] at *
  omega
theorem dp_dI (o : List Int) : (dI o).depth ≤ 1 + 1 := by
  unfold dI
  rw [PyData.depth]
  exact Nat.succ_le_succ (depth_map _ fun x _ => by simp [PyData.depth])
theorem dp_dM (m : List (List Int)) : (dM m).depth ≤ 3 := by
  unfold dM
  rw [PyData.depth]
  exact Nat.succ_le_succ (depth_map _ fun o _ => dp_dI o)
theorem sh_dI (o : List Int) : sh (dI o) 63 := by unfold dI; exact sh_tup (shA_map fun _ => sh_int)
theorem sh_dM (m : List (List Int)) : sh (dM m) 62 := by unfold dM; exact sh_tup (shA_map fun o => by unfold dI; exact sh_tup (shA_map fun _ => sh_int))
theorem lMat_len (o : List Int) : (lMat o).length = o.length ∧ ∀ r ∈ lMat o, r.length = o.length := by
  unfold lMat
  refine ⟨List.length_map _, fun r hr => ?_⟩
  obtain ⟨x, _, rfl⟩ := List.mem_map.mp hr
  rw [List.length_map, List.length_range]
theorem lMat_rng (o : List Int) : ∀ r ∈ lMat o, ∀ x ∈ r, x.natAbs < 10 ^ 20 := fun r hr x hx => by
  unfold lMat at hr
  obtain ⟨y, _, rfl⟩ := List.mem_map.mp hr
  obtain ⟨z, _, rfl⟩ := List.mem_map.mp hx
  split <;> decide
end K87
end
section
set_option Elab.async false
set_option linter.all false
set_option maxRecDepth 100000
set_option maxHeartbeats 4000000
local macro_rules | `(tactic| walk_at "imm") => `(tactic| first
  | exact DL.imm_int
  | exact DL.imm_str
  | exact DL.imm_non
  | exact DL.imm_bl
  | exact DL.imm_nt
  | exact DL.immAll_nil
  | assumption
  | (refine DL.immAll_map ?_; intro _; walk_at "imm")
  | (refine DL.immAll_cons ?_ ?_ <;> walk_at "imm")
  | (refine DL.immAll_append ?_ ?_ <;> walk_at "imm")
  | (refine DL.immAll_rep ?_; walk_at "imm")
  | (refine DL.immAll_mem ?_; walk_at "imm")
  | (intro _ _; walk_at "imm")
  | (refine ⟨?_, ?_⟩ <;> walk_at "imm")
  | (refine DL.immT ?_; assumption))
local macro_rules | `(tactic| walk_at "hu") => `(tactic| exact L2.Room.units (by assumption))
local macro_rules | `(tactic| walk_at "loc") => `(tactic| first | exact Or.inl rfl | exact Or.inr rfl)
local macro_rules | `(tactic| walk_at "room") => `(tactic| first | assumption | exact L2.Room.mono (by assumption) (by decide))
local macro_rules | `(tactic| walk_at "side") => `(tactic| first | assumption | omega | (unfold L2.CMul; omega) | (unfold L2.CDiv; omega) | (have sizeLine_eq1 := PySem.sizeLine_eq; simp only [List.length_map]; omega) | (have sizeLine_eq' := PySem.sizeLine_eq; omega) | (simp; done) | rfl)
local macro_rules | `(tactic| walk_at "size") => `(tactic| ((show _ ≤ 16777216); exact Nat.le_of_ble_eq_true rfl))
local macro_rules | `(tactic| walk_at "sh") => `(tactic| first
  | exact DL.sh_int
  | exact DL.sh_bl
  | exact DL.sh_non
  | exact DL.sh_str (by decide +kernel)
  | exact DL.shA_nil
  | assumption
  | (refine DL.sh_of ?_; walk_at "sh")
  | (refine DL.shA_map ?_; intro _; walk_at "sh")
  | (refine DL.shA_cons ?_ ?_ <;> walk_at "sh")
  | (refine DL.shA_app ?_ ?_ <;> walk_at "sh")
  | (refine DL.sh_tup ?_; walk_at "sh")
  | (refine DL.sh_lst ?_; walk_at "sh"))
namespace K87
open PySem PySem.Spec L2 DL
section
variable {P : Program} {w : World} {K : PySem.W.Frag} {mg : Str → Option Value} {base : Heap}
abbrev s_al : Stmt := top 84
abbrev N_al : List Str := ["pot", "n", "word", "p", "d", "counts", "bits", "order", "due", "told", "named", "first", "states", "here", "own", "x", "numbers", "y"]
theorem sc_al : FnScope N_al ["pot", "n", "word", "p"] (defScope s_al) := ⟨rfl, rfl, rfl, by decide +kernel, rfl, by decide +kernel, by decide +kernel⟩
structure AlOk (p q : Int) (n : Nat) (tw : List Tn) : Prop where
  hp : p = 2 ∨ p = 3 ∨ p = 5 ∨ p = 7
  hn : n ≤ 6
  hq : 1 ≤ q ∧ q ≤ 10
  hT : tw.length ≤ 40
  gd : ∀ t ∈ tw, Gd n q t
def PreAl (ds : List PyData) (c : Nat) : Prop := ∃ (n : Nat) (q : Int) (tw : List Tn) (p : Int), ds = [.int (n : Int), dW q tw, .int p] ∧ AlOk p q n tw ∧ c = (allRows 2 n).length + 2
def PostAl (_ : List PyData) (d : PyData) : Prop := d = .bool true
structure AlG (P : Program) (w : World) (K : PySem.W.Frag) (mg : Str → Option Value) (base : Heap) : Prop where
  lr : Fu P w K mg base "_law_rows" ["p", "n"] 1 S_lr
  lc : Fu P w K mg base "_law_comes" ["d", "orders"] 2 S_lc
  ld : Fu P w K mg base "_law_done" ["word", "items"] 1 S_ld
  dw : FuE P w K mg base "_law_draw" ["pot", "many"] 1 PreDw PostDw
  lm : Fu P w K mg base "_law_matrix" ["order"] 1 S_lm
  wo : Fu P w K mg base "word_order" ["word", "items"] 3 S_wo
  wm : Fu P w K mg base "word_matrix" ["p", "word", "bits"] 3 S_wm
  tm : Fu P w K mg base "turn_matrices" ["p", "word", "bits"] 2 S_tm
  om2 : Fu P w K mg base "order_of_matrix" ["matrix"] 1 S_om2
  om : Fu P w K mg base "order_matrix" ["order"] 1 S_om
  sa : Fu P w K mg base "states_along" ["word", "bits", "first"] 1 S_sa
  se : Fu P w K mg base "states_error" ["word", "bits", "first", "value"] 3 S_se
  ln : Fu P w K mg base "lead_numbers" ["n", "word"] 2 S_ln
  li : Fu P w K mg base "leading_items" ["n", "word", "first", "last"] 2 S_li
def rowsD (l : List (List Int)) : PyData := .list (l.map dI)
def bseAl (p q : Int) (n : Nat) (tw : List Tn) (s : Cnt) : Rh := [.pot, .sh (.int (n : Int)), .sh (dW q tw), .sh (.int p), .ow (.int q), .ow (dicT rowsD (toL s)), .un, .un, .un, .un, .un, .un, .un, .un, .un, .un, .un, .un]
def rowD (q : Int) (tw : List Tn) (b : List Int) : PyData := .list [dI (comes q (tw.map (own b))), dM (lMat (comes q (tw.map (own b)))), .tuple ((tw.map (own b)).map fun o => dM (lMat o))]
theorem rowD_ok {p q : Int} {n : Nat} {tw : List Tn} {b : List Int} (h : AlOk p q n tw) (hb : b.length = n) : okD (PyData.list [rowD q tw b, rowD q tw b]) = true ∧ szD (PyData.list [rowD q tw b, rowD q tw b]) ≤ sizeLine ∧ (PyData.list [rowD q tw b, rowD q tw b]).depth ≤ 60 := by
  have hz := PySem.sizeLine_eq
  have hq := h.hq
  have hO : Pm q (comes q (tw.map (own b))) := Pm.comes (by omega) fun o ho => by obtain ⟨t, ht, rfl⟩ := List.mem_map.mp ho; exact (h.gd t ht).own
  have hl := hO.len
  have a1 : okAll ((tw.map (own b)).map fun o => dM (lMat o)) = true := okAll_map _ fun o _ => ok_dM (lMat_rng o)
  have a2 : szAll ((tw.map (own b)).map fun o => dM (lMat o)) ≤ (tw.map (own b)).length * (10 * (10 * 26 + 5) + 3 + 2) := szAll_map _ fun o ho => by
    obtain ⟨t, ht, rfl⟩ := List.mem_map.mp ho
    have := (h.gd t ht).own (b := b) |>.len
    exact sz_dM (fun r hr => by rw [(lMat_len _).2 r hr]; omega) (by rw [(lMat_len _).1]; omega)
  have a3 : PyData.depthAll ((tw.map (own b)).map fun o => dM (lMat o)) ≤ 3 := depth_map _ fun o _ => dp_dM _
  have b1 : okD (dI (comes q (tw.map (own b)))) = true := ok_dI fun x hx => by have := hO.rng x hx; omega
  have b2 : okD (dM (lMat (comes q (tw.map (own b))))) = true := ok_dM (lMat_rng _)
  have b3 := sz_dI (o := comes q (tw.map (own b))) (c := 10) (by omega)
  have b4 : szD (dM (lMat (comes q (tw.map (own b))))) ≤ 10 * (10 * 26 + 5) + 3 := sz_dM (fun r hr => by rw [(lMat_len _).2 r hr]; omega) (by rw [(lMat_len _).1]; omega)
  have b5 := dp_dI (comes q (tw.map (own b)))
  have b6 := dp_dM (lMat (comes q (tw.map (own b))))
  have hT := h.hT
  rw [List.length_map] at a2
  refine ⟨?_, ?_, ?_⟩
  · simp only [rowD, okD, okAll, a1, b1, b2, Bool.and_true]
  · simp only [rowD, szD, szAll]
    omega
  · simp only [rowD, PyData.depth, PyData.depthAll]
    omega
theorem leadIt_is {n : Nat} {q : Int} {tw : List Tn} {x y : Int} (hx : 0 ≤ x ∧ x < q) : atI (match aGet (toL (cAll n q tw)) [x, y] with | some v => v.map dI | none => [PyData.none]) 0 = some (leadIt n tw x y) := by
  rw [toL_get, cAll_get hx]
  unfold leadIt
  rw [find_head]
  cases byRows (allRows 2 n) tw x y with
  | nil => rfl
  | cons b l => exact atI_nat (j := 0) rfl
theorem shp_dI (o : List Int) : SeqAt.shaped (dI o) = true := sh_of ⟨(sh_dI o).1, Nat.le_succ_of_le (sh_dI o).2⟩
theorem shp_dM (m : List (List Int)) : SeqAt.shaped (dM m) = true := sh_of ⟨(sh_dM m).1, Nat.le_succ_of_le (Nat.le_succ_of_le (sh_dM m).2)⟩
theorem drawPre {q : Int} {ds : List PyData} (hq : 0 < q ∧ q < 1073741824) (h : AndThen (· = .int q) (· = []) ds) : PreDw ds 1 := by
  cases ds with
  | nil => cases h
  | cons d ds =>
    obtain ⟨rfl, rfl⟩ := h
    exact ⟨_, rfl, hq.1, hq.2, rfl⟩
theorem drawPost {q : Int} {ds : List PyData} {d : PyData} (h : AndThen (· = .int q) (· = []) ds) (h2 : PostDw ds d) : ∃ x0 : Int, d = .int x0 ∧ 0 ≤ x0 ∧ x0 < q := by
  cases ds with
  | nil => cases h
  | cons d ds =>
    obtain ⟨rfl, rfl⟩ := h
    obtain ⟨n', i, e, h3, h4, h5⟩ := h2
    cases e
    exact ⟨i, h3, h4, h5⟩
theorem two_of {P1 P2 : PyData → Prop} {ds : List PyData} (h : AndThen P1 (AndThen P2 (· = [])) ds) : ∃ d1 d2, ds = [d1, d2] := by
  cases ds with
  | nil => cases h
  | cons d1 ds =>
    cases ds with
    | nil => cases h.2
    | cons d2 ds =>
      have : ds = [] := h.2.2
      subst this
      exact ⟨d1, d2, rfl⟩
theorem hereInv {q x : Int} (hx : 0 ≤ x ∧ x < q) : ∀ (l : List (List Int)), (∀ o ∈ l, Pm q o) → ∀ (s : List Int) (y : Int), 0 ≤ y ∧ y < q →
    (0 ≤ (l.foldl (fun (s : List Int × Int) o => (s.1 ++ [at0 o s.2], at0 o s.2)) (s, y)).2 ∧ (l.foldl (fun (s : List Int × Int) o => (s.1 ++ [at0 o s.2], at0 o s.2)) (s, y)).2 < q) ∧ True ∧ (l.foldl (fun (s : List Int × Int) o => (s.1 ++ [at0 o s.2], at0 o s.2)) (s, y)).1.length = s.length + l.length
  | [], _, s, y, hy => ⟨hy, trivial, rfl⟩
  | o :: l, h, s, y, hy => by
    rw [List.foldl_cons]
    have h0 := h o List.mem_cons_self
    have hl := h0.len
    obtain ⟨a, _, c⟩ := hereInv hx l (fun o ho => h o (List.mem_cons_of_mem _ ho)) (s ++ [at0 o y]) (at0 o y) (h0.rng _ (at0_mem (by omega)))
    exact ⟨a, trivial, by rw [c, List.length_append, List.length_cons]; simp; omega⟩
theorem two_ok {o : List Int} {c : Nat} (h : ∀ x ∈ o, x.natAbs < 10 ^ 20) (hl : o.length ≤ c) (hc : c ≤ 1000) : okD (PyData.list [dI o, dI o]) = true ∧ szD (PyData.list [dI o, dI o]) ≤ sizeLine ∧ (PyData.list [dI o, dI o]).depth ≤ 60 := by
  have hz := PySem.sizeLine_eq
  have h1 := ok_dI h
  have h2 := sz_dI hl
  have h3 := dp_dI o
  refine ⟨by simp only [okD, okAll, h1, Bool.and_true], ?_, ?_⟩
  · simp only [szD, szAll]; omega
  · simp only [PyData.depth, PyData.depthAll]; omega
theorem immI (l : List (List Int)) : immAll (l.map dI) = true := by
  refine immAll_map (f := dI) ?_
  intro o
  unfold dI
  walk_at "imm"
theorem al_loop (T : Txt mg) (G : AlG P w K mg base) {f : Addr} {cdv : Value} {A : Around} {outer : List PySem.Env} {s : Shared} {H : Hp} {E : XK} (hgu : A.guards = some []) (hr : Room 4 (A.deeper (PyProof.Rows.envOfC "_law_are_leads_right" (defScope s_al) s.heap.objs.size f cdv)))
    {p q : Int} {n : Nat} {tw : List Tn} (ok : AlOk p q n tw) {m : Nat} {R : Nat → PyData → Prop} :
    PS (cxOf L2.CX0 P w K mg base N_al "_law_are_leads_right" (defScope s_al) f cdv A outer s H E).nox ((defBody s_al).getD 1 (.Pass ⟨0, 0, 0, 0⟩)) (tS K (m + 2 + (allRows 2 n).length) (bseAl p q n tw []) (fun m1 ρ1 => m1 = m + 2 ∧ ρ1 = bseAl p q n tw (cAll n q tw)) R) := by
  have hu := hr.units
  have hz := PySem.sizeLine_eq
  have hq := ok.hq
  have hT := ok.hT
  have hpp := ok.hp
  have hn := ok.hn
  have ht := Gd.wok ok.gd
  have hR : (allRows 2 n).length ≤ 64 := by
    have := (rInv 2 (List.range n) [[]] 0 (by simp)).1
    rw [List.length_range, List.length_singleton, Nat.one_mul] at this
    have h2 : (allRows 2 n).length = 2 ^ n := this
    rw [h2]
    calc 2 ^ n ≤ 2 ^ 6 := Nat.pow_le_pow_right (by decide) hn
      _ = 64 := by decide
  refine PS.post (ds_for (its := (allRows 2 n).map dI) (fun k m1 ρ1 => m1 = m + 2 + ((allRows 2 n).length - k) ∧ ρ1 = bseAl p q n tw (((allRows 2 n).take k).foldl (cStep q tw) [])) PassesOwn.never rfl (pi_lstF (pf_call G.lr (by walk_at "room") (pas_cons (toP pf_int) (pas_cons (pp_var 1 (pv 1)) pas_nil)) (by exact ⟨2, n, rfl, by omega, by omega, rfl⟩))) (fun d hd => ?_) ⟨rfl, rfl⟩ ?_) ?_
  · obtain ⟨o, _, rfl⟩ := List.mem_map.mp hd
    unfold dI
    walk_at "imm"
  · rintro k _ _ d hd ⟨rfl, rfl⟩
    rw [List.getElem?_map] at hd
    obtain ⟨b, hb, rfl⟩ := Option.map_eq_some_iff.mp hd
    have hkl : k < (allRows 2 n).length := (List.getElem?_eq_some_iff.mp hb).1
    have hbm : b ∈ allRows 2 n := List.mem_of_getElem? hb
    have hbl := allRows_len hbm
    have hbit := allRows_bits hbm
    have ht1 : WOk q b.length tw := by rw [hbl]; exact ht
    have hOs : ∀ o ∈ tw.map (own b), Pm q o := fun o ho => by obtain ⟨t, ht, rfl⟩ := List.mem_map.mp ho; exact (ok.gd t ht).own
    have hO : Pm q (comes q (tw.map (own b))) := Pm.comes (by omega) hOs
    have hOl := hO.len
    obtain ⟨r1, r2, r3⟩ := rowD_ok ok hbl
    have cv : Cv (64 * 10) (((allRows 2 n).take k).foldl (cStep q tw) []) := by
      have h1 := Cv.rows (q := q) (tw := tw) ((allRows 2 n).take k) Cv.nil
      refine h1.mono ?_
      rw [Nat.zero_add]
      exact Nat.mul_le_mul (by rw [List.length_take]; omega) (by omega)
    rw [take_succ' hb, List.foldl_append]
    generalize ((allRows 2 n).take k).foldl (cStep q tw) [] = s0 at cv ⊢
    refine ⟨_, gst_name (pg_name (i := 6) sc_al.nd rfl (by walk_at "loc")), ?_⟩
    refine dss_seq (ds_set 7 sc_al.nd rfl (by walk_at "loc") (pf_call G.lc (by walk_at "room") (pas_cons (pp_var 4 (pv 4)) (pas_cons (toP (pf_call G.ld (by walk_at "room") (pas_cons (pp_var 2 (pv 2)) (pas_cons (pp_var 6 (pv 6)) pas_nil)) (by exact ⟨q, tw, b, rfl, ht1.k, hbit, rfl⟩))) pas_nil)) (by exact ⟨q, tw.map (own b), rfl, ⟨by omega, by omega⟩, (fun o ho => ⟨(hOs o ho).len, (hOs o ho).rng⟩), rfl⟩))) ?_
    rintro _ _ ⟨rfl, rfl⟩
    show PSs _ _ (tS K _ [.pot, .sh (.int (n : Int)), .sh (dW q tw), .sh (.int p), .ow (.int q), .ow (dicT rowsD (toL s0)), .ow (dI b), .ow (nt (comes q (tw.map (own b)))), .un, .un, .un, .un, .un, .un, .un, .un, .un, .un] _ _)
    refine dss_seq (ds_set 8 sc_al.nd rfl (by walk_at "loc") (pf_lst (fas_cons (toF (pp_var 7 (pv 7)) (by walk_at "imm")) (fas_cons (pf_call G.lm (by walk_at "room") (pas_cons (pp_nt (pp_var 7 (pv 7))) pas_nil) (by exact ⟨comes q (tw.map (own b)), rfl, by omega, rfl⟩)) (fas_cons (pf_tuple (pf_lc (l := tw.map (own b)) (f := dI) (g := fun o => dMn (lMat o)) (own := [("own", 14)]) rfl sc_al.nd (pi_lstD (toP (pf_call G.ld (by walk_at "room") (pas_cons (pp_var 2 (pv 2)) (pas_cons (pp_var 6 (pv 6)) pas_nil)) (by exact ⟨q, tw, b, rfl, ht1.k, hbit, rfl⟩))))
      (blkOk_by (own := [("own", 14)]) (N := N_al) (sc := defScope s_al) (by decide +kernel)) (fun _ _ _ _ _ a1 ha1 => gd_name (pg_name (i := 14) sc_al.nd rfl (by walk_at "loc"))) (fun _ _ _ _ _ a1 ha1 => pf_call G.lm (by walk_at "room") (pas_cons (pp_var 14 (pv 14)) pas_nil) (by exact ⟨a1, rfl, by have := (hOs _ ha1).len; omega, rfl⟩))) rfl T.tuple) fas_nil))) (by walk_at "size"))) ?_
    rintro _ _ ⟨rfl, rfl⟩
    show PSs _ _ (tS K _ [.pot, .sh (.int (n : Int)), .sh (dW q tw), .sh (.int p), .ow (.int q), .ow (dicT rowsD (toL s0)), .ow (dI b), .ow (nt (comes q (tw.map (own b)))), .ow (.list [nt (comes q (tw.map (own b))), dMn (lMat (comes q (tw.map (own b)))), .tuple ((tw.map (own b)).map fun o => dMn (lMat o))]), .un, .un, .un, .un, .un, .un, .un, .un, .un] _ _)
    have hS3 : ∀ t ∈ tw, (0 ≤ t.k ∧ t.k < b.length) ∧ t.z.length = q ∧ t.o.length = q := fun t h => ⟨ht1.k t h, (ht1.z t h).1, (ht1.o t h).1⟩
    have hS4 : ∀ t ∈ tw, (0 ≤ t.k ∧ t.k < b.length) ∧ t.z.length ≤ 1000 ∧ t.o.length ≤ 1000 := fun t h => ⟨ht1.k t h, by have := (ht1.z t h).1; omega, by have := (ht1.o t h).1; omega⟩
    have w1 : lst0 (wordOrds q tw b) = comes q (tw.map (own b)) := wordOrds_is
    have w2 : wordMat p q tw b = lMat (comes q (tw.map (own b))) := wordMat_is (by omega) (by omega) fun t h => (ok.gd t h).own
    have w3 : turnMats tw b = (tw.map (own b)).map lMat := turnMats_is
    refine dss_seq (ds_set 9 sc_al.nd rfl (by walk_at "loc") (pf_lst (ds := [dI (lst0 (wordOrds q tw b)), dMn (wordMat p q tw b), .tuple ((turnMats tw b).map dM)]) (fas_cons (pf_call G.wo (by walk_at "room") (pas_cons (pp_var 2 (pv 2)) (pas_cons (pp_var 6 (pv 6)) pas_nil)) (by exact ⟨q, tw, b, rfl, ⟨by omega, by omega⟩, by omega, ht1, rfl⟩)) (fas_cons (pf_call G.wm (by walk_at "room") (pas_cons (pp_var 3 (pv 3)) (pas_cons (pp_var 2 (pv 2)) (pas_cons (pp_var 6 (pv 6)) pas_nil))) (by exact ⟨p, q, tw, b, rfl, ⟨by omega, by omega⟩, ⟨by omega, by omega⟩, hS3, rfl⟩))
      (fas_cons (pf_call G.tm (by walk_at "room") (pas_cons (pp_var 3 (pv 3)) (pas_cons (pp_var 2 (pv 2)) (pas_cons (pp_var 6 (pv 6)) pas_nil))) (by exact ⟨p, q, tw, b, rfl, hS4, rfl⟩)) fas_nil))) (by walk_at "size"))) ?_
    rintro _ _ ⟨rfl, rfl⟩
    refine dss_seq (ds_set 10 sc_al.nd rfl (by walk_at "loc") (pf_lst (ds := [dI (lst0 (wordOrds q tw b)), dMn (wordMat p q tw b)]) (fas_cons (pf_callR (ds := [dI b, dW q tw]) G.wo (by walk_at "room") (pks_cons (pp_var 6 (pv 6)) (pks_cons (pp_var 2 (pv 2)) pks_nil)) (by exact ⟨q, tw, b, rfl, ⟨by omega, by omega⟩, by omega, ht1, rfl⟩)) (fas_cons (pf_callR (ds := [dI b, dW q tw, .int p]) G.wm (by walk_at "room") (pks_cons (pp_var 6 (pv 6)) (pks_cons (pp_var 2 (pv 2)) (pks_cons (pp_var 3 (pv 3)) pks_nil))) (by exact ⟨p, q, tw, b, rfl, ⟨by omega, by omega⟩, ⟨by omega, by omega⟩, hS3, rfl⟩)) fas_nil)) (by walk_at "size"))) ?_
    rintro _ _ ⟨rfl, rfl⟩
    refine dss_seq (ds_app (ds := [dI (lst0 (wordOrds q tw b)), dMn (wordMat p q tw b)]) 10 (pv 10) rfl (pf_callR (ds := [dI b, dW q tw, .int p]) (d := .tuple ((turnMats tw b).map dM)) G.tm (by walk_at "room") (pks_cons (pp_var 6 (pv 6)) (pks_cons (pp_var 2 (pv 2)) (pks_cons (pp_var 3 (pv 3)) pks_nil))) (by exact ⟨p, q, tw, b, rfl, hS4, rfl⟩)) (by show 2 < 16777216; decide)) ?_
    rintro _ _ ⟨rfl, rfl⟩
    rw [w1, w2, w3]
    show PSs _ _ (tS K _ [.pot, .sh (.int (n : Int)), .sh (dW q tw), .sh (.int p), .ow (.int q), .ow (dicT rowsD (toL s0)), .ow (dI b), .ow (nt (comes q (tw.map (own b)))), .ow (.list [nt (comes q (tw.map (own b))), dMn (lMat (comes q (tw.map (own b)))), .tuple ((tw.map (own b)).map fun o => dMn (lMat o))]), .ow (.list [dI (comes q (tw.map (own b))), dMn (lMat (comes q (tw.map (own b)))), .tuple (((tw.map (own b)).map lMat).map dM)]), .ow (.list [dI (comes q (tw.map (own b))), dMn (lMat (comes q (tw.map (own b)))), .tuple (((tw.map (own b)).map lMat).map dM)]), .un, .un, .un, .un, .un, .un, .un] _ _)
    have n1 : DL.nm (.list [dI (comes q (tw.map (own b))), dMn (lMat (comes q (tw.map (own b)))), .tuple (((tw.map (own b)).map lMat).map dM)]) = rowD q tw b := by
      unfold rowD
      rw [nm_lst, nmAll_cons, nmAll_cons, nmAll_cons, nmAll_nil, nm_dI, nm_dMn, nm_tup, nmAll_map, List.map_map]
      simp only [nm_dM]
      rfl
    have n2 : DL.nm (.list [nt (comes q (tw.map (own b))), dMn (lMat (comes q (tw.map (own b)))), .tuple ((tw.map (own b)).map fun o => dMn (lMat o))]) = rowD q tw b := by
      unfold rowD
      rw [nm_lst, nmAll_cons, nmAll_cons, nmAll_cons, nmAll_nil, nm_nt, nm_dMn, nm_tup, nmAll_map]
      simp only [nm_dMn]
      rfl
    refine dss_ifR (pt_c c_neS (toP (pf_repr hgu hu (pp_lstP (pas_cons (pp_var 9 (pv 9)) (pas_cons (pp_var 10 (pv 10)) pas_nil)) (by walk_at "size")) (show _ = PyData.list [rowD q tw b, rowD q tw b] by rw [nm_lst, nmAll_cons, nmAll_cons, nmAll_nil, n1]) r1 r2 r3 ref_lst rfl T.repr)) (toP (pf_repr hgu hu (pp_lstP (pas_cons (pp_var 8 (pv 8)) (pas_cons (pp_var 8 (pv 8)) pas_nil)) (by walk_at "size")) (show _ = PyData.list [rowD q tw b, rowD q tw b] by rw [nm_lst, nmAll_cons, nmAll_cons, nmAll_nil, n2]) r1 r2 r3 ref_lst rfl T.repr))) (fun hw => ?_) (fun hw => ?_)
    · exfalso
      simp at hw
    have h1 : SeqAt.shaped (DL.nm (dI (comes q (tw.map (own b))))) = true := by rw [nm_dI]; exact shp_dI _
    have h2 : SeqAt.shaped (DL.nm (nt (comes q (tw.map (own b))))) = true := by rw [nm_nt]; exact shp_dI _
    have h3 : SeqAt.shaped (DL.nm (dM (ordMat (comes q (tw.map (own b)))))) = true := by rw [nm_dM]; exact shp_dM _
    have h4 : SeqAt.shaped (DL.nm (dMn (lMat (comes q (tw.map (own b)))))) = true := by rw [nm_dMn]; exact shp_dM _
    refine dss_ifR (PW.pt (pw_orD (pt_c (c_neN (by walk_at "hu") h1 h2) (toP (pf_call G.om2 (by walk_at "room") (pas_cons (pp_ixL (pp_var 8 (pv 8)) (toP pf_int) (atI_nat (j := 1) rfl)) pas_nil) (by exact ⟨(comes q (tw.map (own b))), by rw [ordMat_is], by omega, hO.nd, (fun x hx => by have := hO.rng x hx; omega), rfl⟩))) (pp_var 7 (pv 7))) fun _ =>
      pw_last (pt_c (c_neN (by walk_at "hu") h3 h4) (toP (pf_call G.om (by walk_at "room") (pas_cons (pp_nt (pp_var 7 (pv 7))) pas_nil) (by exact ⟨(comes q (tw.map (own b))), rfl, by omega, rfl⟩))) (pp_ixL (pp_var 8 (pv 8)) (toP pf_int) (atI_nat (j := 1) rfl))) (.inr rfl))) (fun hw => ?_) (fun hw => ?_)
    · exfalso
      rw [nm_dI, nm_nt, nm_dM, nm_dMn, ordMat_is, show PyData.tuple (List.map PyData.int (comes q (tw.map (own b)))) = dI (comes q (tw.map (own b))) from rfl, eqv_refl _ (sh_dI _).1, eqv_refl _ (sh_dM _).1] at hw
      simp at hw
    have hm : m + 2 + ((allRows 2 n).length - k) = (m + 2 + ((allRows 2 n).length - (k + 1))) + 1 := by omega
    rw [hm]
    refine dss_seq (ds_par2E (m' := m + 2 + ((allRows 2 n).length - (k + 1))) (Ps := AndThen (fun d => ∃ x0 : Int, d = .int x0 ∧ 0 ≤ x0 ∧ x0 < q) (AndThen (· = .list []) (· = []))) 11 12 rfl sc_al.nd rfl rfl (by decide) rfl rfl
      (es_cons (e_callE (Ps := AndThen (· = .int q) (· = [])) (c := 1) (m' := m + 2 + ((allRows 2 n).length - (k + 1))) G.dw (by walk_at "room") (pv 0) rfl (es_cons (e_pure (toF (pp_var 4 (pv 4)) (by walk_at "imm"))) es_nil) rfl (fun ds h => drawPre (by omega) h) fun ds d h h2 => drawPost h h2) (es_cons (e_pure (pf_lst fas_nil (by walk_at "size"))) es_nil)) (fun ds h => two_of h)) ?_
    rintro _ _ ⟨d1, d2, ⟨⟨x0, rfl, hx0, hx1⟩, rfl, _⟩, rfl, rfl⟩
    refine dss_seq (ds_set 13 sc_al.nd rfl (by walk_at "loc") (toF (pp_var 11 (pv 11)) (by walk_at "imm"))) ?_
    rintro _ _ ⟨rfl, rfl⟩
    show PSs _ _ (tS K _ [.pot, .sh (.int (n : Int)), .sh (dW q tw), .sh (.int p), .ow (.int q), .ow (dicT rowsD (toL s0)), .ow (dI b), .ow (nt (comes q (tw.map (own b)))), .ow (.list [nt (comes q (tw.map (own b))), dMn (lMat (comes q (tw.map (own b)))), .tuple ((tw.map (own b)).map fun o => dMn (lMat o))]), .ow (.list [dI (comes q (tw.map (own b))), dMn (lMat (comes q (tw.map (own b)))), .tuple (((tw.map (own b)).map lMat).map dM)]), .ow (.list [dI (comes q (tw.map (own b))), dMn (lMat (comes q (tw.map (own b)))), .tuple (((tw.map (own b)).map lMat).map dM)]), .ow (.int x0), .ow (.list []), .ow (.int x0), .un, .un, .un, .un] _ _)
    have hpl : PyData.tuple ((List.range q.toNat).map fun (k : Nat) => PyData.int (k : Int)) = dI (plain q) := by simp [dI, plain, Function.comp_def]
    refine dss_seq (ds_fold2 (l := plain q :: tw.map (own b)) (f := dI) [14] 13 12 (fun s : List Int × Int => .int s.2) (fun s => .list (s.1.map .int)) (fun s o => (s.1 ++ [at0 o s.2], at0 o s.2)) ([], x0) PassesOwn.never rfl
      (by
        refine pi_lstF (pf_catL (pf_lst (ds := [dI (plain q)]) (fas_cons (cF ?_ hpl) fas_nil) (by walk_at "size")) (pf_call G.ld (by walk_at "room") (pas_cons (pp_var 2 (pv 2)) (pas_cons (pp_var 6 (pv 6)) pas_nil)) (by exact ⟨q, tw, b, rfl, ht1.k, hbit, rfl⟩)) (by rw [List.length_map, List.length_map]; simp; omega))
        exact pf_tuple (pf_lstRg rfl (pp_var 4 (pv 4)) (by omega) (by omega) rfl T.list rfl T.range) rfl T.tuple)
      (fun o ho => by unfold dI; walk_at "imm") rfl rfl rfl rfl ?_) ?_
    · rintro pre1 o1 post1 hl1
      have hm1 := mem_at hl1
      have hpm : ∀ o ∈ plain q :: tw.map (own b), Pm q o := fun o ho => by
        rcases List.mem_cons.mp ho with rfl | ho
        · exact Pm.plain (by omega)
        · exact hOs o ho
      have hin := hereInv (x := x0) (q := q) ⟨hx0, hx1⟩ pre1 (fun o ho => hpm o (sub_at hl1 o ho)) [] x0 ⟨hx0, hx1⟩
      have hll : pre1.length ≤ 41 := by
        have := congrArg List.length hl1
        rw [List.length_cons, List.length_map, List.length_append, List.length_cons] at this
        omega
      have h11 := (hpm o1 hm1).len
      generalize pre1.foldl (fun (s : List Int × Int) o => (s.1 ++ [at0 o s.2], at0 o s.2)) ([], x0) = s1 at hin ⊢
      refine ⟨_, gst_name (pg_name (i := 14) sc_al.nd rfl (by walk_at "loc")), ?_⟩
      refine dss_seq (ds_set 13 sc_al.nd rfl (by walk_at "loc") (toF (pp_ixM (f := PyData.int) (pp_var 14 (pv 14)) (pp_var 13 (pv 13)) (by omega)) (by walk_at "imm"))) ?_
      rintro _ _ ⟨rfl, rfl⟩
      refine dss_seq (ds_app 12 (pv 12) rfl (toF (pp_var 13 (pv 13)) (by walk_at "imm")) (by rw [List.length_map, hin.2.2]; simp; omega)) ?_
      rintro _ _ ⟨rfl, rfl⟩
      refine dss_nil (.keep (.keep (.keep (.keep (.keep (.keep (.keep (.keep (.keep (.keep (.keep (.keep (.keep (.keep (.drop (.keep (.keep (.keep .nil)))))))))))))))))) ⟨rfl, _, _, rfl, rfl, ?_⟩
      rw [List.map_append]; rfl
    rintro _ _ ⟨rfl, rfl⟩
    have hst : ((plain q :: tw.map (own b)).foldl (fun (s : List Int × Int) o => (s.1 ++ [at0 o s.2], at0 o s.2)) ([], x0)).1 = states tw b x0 := lawSt_is ⟨hx0, hx1⟩
    rw [hst]
    generalize ((plain q :: tw.map (own b)).foldl (fun (s : List Int × Int) o => (s.1 ++ [at0 o s.2], at0 o s.2)) ([], x0)).2 = y0
    show PSs _ _ (tS K _ [.pot, .sh (.int (n : Int)), .sh (dW q tw), .sh (.int p), .ow (.int q), .ow (dicT rowsD (toL s0)), .ow (dI b), .ow (nt (comes q (tw.map (own b)))), .ow (.list [nt (comes q (tw.map (own b))), dMn (lMat (comes q (tw.map (own b)))), .tuple ((tw.map (own b)).map fun o => dMn (lMat o))]), .ow (.list [dI (comes q (tw.map (own b))), dMn (lMat (comes q (tw.map (own b)))), .tuple (((tw.map (own b)).map lMat).map dM)]), .ow (.list [dI (comes q (tw.map (own b))), dMn (lMat (comes q (tw.map (own b)))), .tuple (((tw.map (own b)).map lMat).map dM)]), .ow (.int x0), .ow (.list ((states tw b x0).map .int)), .ow (.int y0), .un, .un, .un, .un] _ _)
    have hsr : ∀ z ∈ states tw b x0, 0 ≤ z ∧ z < q := sRng ⟨hx0, hx1⟩ ht1
    have hsl : (states tw b x0).length = tw.length + 1 := stLen
    refine dss_seq (ds_set 8 sc_al.nd rfl (by walk_at "loc") (pf_tupleI (pp_var 12 (pv 12)) (by walk_at "imm") rfl T.tuple)) ?_
    rintro _ _ ⟨rfl, rfl⟩
    refine dss_seq (ds_set 9 sc_al.nd rfl (by walk_at "loc") (pf_lst (ds := [dI (states tw b x0), dI (states tw b x0)]) (fas_cons (pf_call G.sa (by walk_at "room") (pas_cons (pp_var 2 (pv 2)) (pas_cons (pp_var 6 (pv 6)) (pas_cons (pp_var 11 (pv 11)) pas_nil))) (by exact ⟨q, tw, b, x0, rfl, ⟨hx0, hx1⟩, by omega, ht1, rfl⟩)) (fas_cons (pf_callR (ds := [.int x0, dI b, dW q tw]) G.sa (by walk_at "room") (pks_cons (pp_var 11 (pv 11)) (pks_cons (pp_var 6 (pv 6)) (pks_cons (pp_var 2 (pv 2)) pks_nil))) (by exact ⟨q, tw, b, x0, rfl, ⟨hx0, hx1⟩, by omega, ht1, rfl⟩)) fas_nil)) (by walk_at "size"))) ?_
    rintro _ _ ⟨rfl, rfl⟩
    show PSs _ _ (tS K _ [.pot, .sh (.int (n : Int)), .sh (dW q tw), .sh (.int p), .ow (.int q), .ow (dicT rowsD (toL s0)), .ow (dI b), .ow (nt (comes q (tw.map (own b)))), .ow (dI (states tw b x0)), .ow (.list [dI (states tw b x0), dI (states tw b x0)]), .ow (.list [dI (comes q (tw.map (own b))), dMn (lMat (comes q (tw.map (own b)))), .tuple (((tw.map (own b)).map lMat).map dM)]), .ow (.int x0), .ow (.list ((states tw b x0).map .int)), .ow (.int y0), .un, .un, .un, .un] _ _)
    obtain ⟨p1, p2, p3⟩ := two_ok (o := states tw b x0) (c := 41) (fun z hz => by have := hsr z hz; omega) (by omega) (by omega)
    refine dss_ifR (pt_c c_neS (toP (pf_repr hgu hu (pp_var 9 (pv 9)) (nm_ok _ p1) p1 p2 p3 ref_lst rfl T.repr)) (toP (pf_repr hgu hu (pp_lstP (pas_cons (pp_var 8 (pv 8)) (pas_cons (pp_var 8 (pv 8)) pas_nil)) (by walk_at "size")) (nm_ok _ p1) p1 p2 p3 ref_lst rfl T.repr))) (fun hw => ?_) (fun hw => ?_)
    · exfalso
      simp at hw
    refine dss_ifR (PW.pt (pw_orD (pt_c c_notN (toP (pf_call G.se (by walk_at "room") (pas_cons (pp_var 2 (pv 2)) (pas_cons (pp_var 6 (pv 6)) (pas_cons (pp_var 11 (pv 11)) (pas_cons (pp_var 8 (pv 8)) pas_nil)))) (by exact ⟨q, tw, b, x0, rfl, ⟨hx0, hx1⟩, by omega, ht1, rfl⟩))) (toP pf_non)) fun _ =>
      pw_last (pt_c c_neI (pp_lastT (f := PyData.int) (pp_var 8 (pv 8)) (by omega)) (pp_ixM (f := PyData.int) (pp_nt (pp_var 7 (pv 7))) (pp_var 11 (pv 11)) (by omega))) (.inr rfl))) (fun hw => ?_) (fun hw => ?_)
    · exfalso
      rw [states_last, comes_led ⟨hx0, hx1⟩] at hw
      simp [DL.isNon] at hw
    refine dss_seq (ds_fold1 (l := List.range q.toNat) (f := fun (k : Nat) => PyData.int (k : Int)) [15] 5 (fun s : Cnt => dicT rowsD (toL s)) (cIn (comes q (tw.map (own b))) b) s0 PassesOwn.never rfl (pi_rng1 rfl T.range (pp_var 4 (pv 4)) (by omega) (by omega)) (fun _ _ => imm_int) rfl rfl ?_) ?_
    · rintro pre1 a1 post1 hl1
      have ha1 := range_at hl1
      have hcv := cv.steps (o := (comes q (tw.map (own b)))) (b := b) pre1
      have hpl1 : pre1.length ≤ 10 := by omega
      generalize pre1.foldl (cIn (comes q (tw.map (own b))) b) s0 = s1 at hcv ⊢
      have hgl := hcv.get ((a1 : Int), at0 (comes q (tw.map (own b))) (a1 : Int))
      have hl9 : s1.length ≤ 1000 := by have := hcv.len; omega
      have hg9 : ((aGet (toL s1) [(a1 : Int), at0 (comes q (tw.map (own b))) (a1 : Int)]).getD []).length ≤ 1000 := by rw [toL_get]; omega
      refine ⟨_, gst_name (pg_name (i := 15) sc_al.nd rfl (by walk_at "loc")), ?_⟩
      refine dss_seq (ds_putT (vf := rowsD) (s := toL s1) (l := [(a1 : Int), at0 (comes q (tw.map (own b))) (a1 : Int)]) (v := (aGet (toL s1) [(a1 : Int), at0 (comes q (tw.map (own b))) (a1 : Int)]).getD [] ++ [b]) 5 hu (pv 5) rfl
        (ky_tup (pas_cons (pp_var 15 (pv 15)) (pas_cons (pp_ixM (f := PyData.int) (pp_nt (pp_var 7 (pv 7))) (pp_var 15 (pv 15)) (by omega)) pas_nil)) (by walk_at "size"))
        (by
          refine cF (pf_catLI (pp_getR (g := dI) hu (pp_var 5 (pv 5)) (ky_tup (l := [(a1 : Int), at0 (comes q (tw.map (own b))) (a1 : Int)]) (pas_cons (pp_var 15 (pv 15)) (pas_cons (pp_ixM (f := PyData.int) (pp_nt (pp_var 7 (pv 7))) (pp_var 15 (pv 15)) (by omega)) pas_nil)) (by walk_at "size")) (toP (pf_lst fas_nil (by walk_at "size")))) (toP (pf_lst (ds := [dI b]) (fas_cons (toF (pp_var 6 (pv 6)) (by walk_at "imm")) fas_nil) (by walk_at "size"))) (immI _) (immI [b]) (by rw [List.length_map]; simp; omega)) ?_
          unfold rowsD
          rw [List.map_append]; rfl)
        (by unfold toL; rw [List.length_map]; omega) hcv.nd) ?_
      rintro _ _ ⟨rfl, rfl⟩
      refine dss_nil (.keep (.keep (.keep (.keep (.keep (.keep (.keep (.keep (.keep (.keep (.keep (.keep (.keep (.keep (.keep (.drop (.keep (.keep .nil)))))))))))))))))) ⟨rfl, _, rfl, ?_⟩
      rw [toL_get, toL_put]; rfl
    rintro _ _ ⟨rfl, rfl⟩
    exact dss_nil (.keep (.keep (.keep (.keep (.keep (.keep (.drop (.drop (.drop (.drop (.drop (.drop (.drop (.drop (.drop (.drop (.drop (.drop .nil)))))))))))))))))) ⟨rfl, rfl⟩
  · rintro m1 ρ1 ⟨rfl, rfl⟩
    rw [List.length_map, Nat.sub_self]
    exact ⟨rfl, by rw [List.take_length]; rfl⟩
end
end K87
end
section
set_option Elab.async false
set_option linter.all false
set_option maxRecDepth 100000
set_option maxHeartbeats 4000000
namespace DL
open PySem PySem.Spec L2
section
variable {X : Cx} {m m' : Nat} {ρ : Rh} {R : Nat → PyData → Prop} {a b e : Expr} {pos : Pos} {d1 d2 : PyData} {Ps : List PyData → Prop}
theorem ds_unp2 (i j : Nat) {x y : Str} {px py pt : Pos} {kt k2 : Nat} {pt2 : Pos} (hc : X.calm = true) (hN : X.N.Nodup) (hi : X.N[i]? = some x) (hj : X.N[j]? = some y)
    (hx : Loc X.env.scope x) (hy : Loc X.env.scope y) (ha : PA X [a, b] (tEs X.K m ρ m' Ps)) (hz : ∀ ds, Ps ds → ∃ d1 d2, ds = [d1, d2])
    (hil : i < ρ.length := by (first | exact Nat.le_of_ble_eq_true rfl | decide | simp)) (hjl : j < ρ.length := by (first | exact Nat.le_of_ble_eq_true rfl | decide | simp))
    (hf1 : X.fn x = true ∨ X.env.scope.names.lookup x = some .local := by first | exact .inl rfl | exact .inr rfl) (hf2 : X.fn y = true ∨ X.env.scope.names.lookup y = some .local := by first | exact .inl rfl | exact .inr rfl)
    (hs : swapsWithSole [.Tuple [.Name x px, .Name y py] kt pt] (.Tuple [a, b] k2 pt2) pos.line X.env = pure false := by rfl) (hw : swappedStores [.Tuple [.Name x px, .Name y py] kt pt] (.Tuple [a, b] k2 pt2) X.env = pure none := by rfl)
    (h1 : (assignEach [.Tuple [.Name x px, .Name y py] kt pt] X.env).map (·.2) = [assign (.Tuple [.Name x px, .Name y py] kt pt) X.env] := by rfl) :
    PS X (.Assign [.Tuple [.Name x px, .Name y py] kt pt] (.Tuple [a, b] k2 pt2) pos) (tS X.K m ρ (fun m1 ρ1 => ∃ d1 d2, Ps [d1, d2] ∧ m1 = m' ∧ ρ1 = (ρ.set i (.ow d1)).set j (.ow d2)) R) :=
  PS.imp (ps_asg (pe_tup ha) (pg_tup (n := 2) hc (pgs_cons (pg_name hN hi hx hf1) (pgs_cons (pg_name hN hj hy hf2) pgs_nil))) hs hw h1) fun D σ H ⟨Pt, He, A, en, k1, _⟩ => ⟨Pt, He, A, en, fun xs H' ds B ps en' kp ol nd f => by
    obtain ⟨d1, d2, rfl⟩ := hz ds ps
    have fr : ∀ b ∈ B, b ∉ A := fun b hb z => mut_some (en.sl.isS b z) (f b hb)
    have fp : ∀ b ∈ B, b ∉ ptA Pt := fun b hb z => en.pt.some b z (f b hb)
    have fh : ∀ b ∈ B, He b = none := fun b hb => en.kp.dom b (f b hb)
    cases ol with
    | cons o1 ol =>
      cases ol with
      | cons o2 ol =>
        cases ol
        rw [List.append_nil] at nd fr fp fh
        obtain ⟨n1, n2, n3⟩ := List.nodup_append.mp nd
        refine ⟨(show 2 ≤ 16777216 by decide), fun t ht => ⟨t, _, rfl, .of upd_same, rfl, _, _, rfl, _, _, rfl, rfl, ?_⟩⟩
        obtain ⟨A1, e1, i1⟩ := (en'.same (same_new ht)).setF hil (o1.same (same_new ht)) n1 (fun b hb => fr b (List.mem_append_left _ hb)) (fun b hb => fh b (List.mem_append_left _ hb)) fun b hb => fp b (List.mem_append_left _ hb)
        obtain ⟨A2, e2, _⟩ := e1.setF (i := j) (by rw [List.length_set]; exact hjl) (o2.same (same_new ht)) n2 (fun b hb z => (i1 b z).elim (fun z => n3 b z b hb rfl) (fr b (List.mem_append_right _ hb))) (fun b hb => fh b (List.mem_append_right _ hb)) fun b hb => fp b (List.mem_append_right _ hb)
        exact k1 He _ _ m' _ A2 (.refl _) e2 ⟨d1, d2, ps, rfl, rfl⟩⟩
theorem ds_unpL2 (i j : Nat) {x y : Str} {px py pt : Pos} {kt : Nat} (hc : X.calm = true) (hN : X.N.Nodup) (hi : X.N[i]? = some x) (hj : X.N[j]? = some y)
    (hx : Loc X.env.scope x) (hy : Loc X.env.scope y) (ha : PE X e (tP X.K (ρ.map pu) (.list [d1, d2]))) (hi1 : imm d1 = true) (hi2 : imm d2 = true)
    (hil : i < ρ.length := by (first | exact Nat.le_of_ble_eq_true rfl | decide | simp)) (hjl : j < ρ.length := by (first | exact Nat.le_of_ble_eq_true rfl | decide | simp))
    (hf1 : X.fn x = true ∨ X.env.scope.names.lookup x = some .local := by first | exact .inl rfl | exact .inr rfl) (hf2 : X.fn y = true ∨ X.env.scope.names.lookup y = some .local := by first | exact .inl rfl | exact .inr rfl)
    (hs : swapsWithSole [.Tuple [.Name x px, .Name y py] kt pt] e pos.line X.env = pure false := by rfl) (hw : swappedStores [.Tuple [.Name x px, .Name y py] kt pt] e X.env = pure none := by rfl)
    (h1 : (assignEach [.Tuple [.Name x px, .Name y py] kt pt] X.env).map (·.2) = [assign (.Tuple [.Name x px, .Name y py] kt pt) X.env] := by rfl) :
    PS X (.Assign [.Tuple [.Name x px, .Name y py] kt pt] e pos) (tS X.K m ρ (fun m1 ρ1 => m1 = m ∧ ρ1 = (ρ.set i (.ow d1)).set j (.ow d2)) R) :=
  PS.imp (ps_asg ha (pg_lst (n := 2) hc (pgs_cons (pg_name hN hi hx hf1) (pgs_cons (pg_name hN hj hy hf2) pgs_nil))) hs hw h1) fun D σ H ⟨Pt, He, A, en, k1, _⟩ => ⟨en.envP, fun v H' B s o => by
    obtain ⟨q, xs, C, rfl, hq, ol, hz, rfl⟩ := o.lst_inv
    cases ol with
    | cons o1 ol =>
      cases ol with
      | cons o2 ol =>
        cases ol
        have e1 := o1.imm hi1
        have e2 := o2.imm hi2
        subst e1 e2
        refine ⟨q, _, rfl, .of hq, rfl, _, _, rfl, _, _, rfl, rfl, ?_⟩
        obtain ⟨A1, en1, i1⟩ := (en.same s).setF hil o1 List.nodup_nil (fun _ z => by cases z) (fun _ z => by cases z) fun _ z => by cases z
        obtain ⟨A2, en2, _⟩ := en1.setF (i := j) (by rw [List.length_set]; exact hjl) o2 List.nodup_nil (fun _ z => by cases z) (fun _ z => by cases z) fun _ z => by cases z
        exact k1 He _ _ m _ A2 (.refl _) en2 ⟨rfl, rfl⟩⟩
end
end DL
end
section
set_option Elab.async false
set_option linter.all false
set_option maxRecDepth 100000
set_option maxHeartbeats 4000000
local macro_rules | `(tactic| walk_at "imm") => `(tactic| first
  | exact DL.imm_int
  | exact DL.imm_str
  | exact DL.imm_non
  | exact DL.imm_bl
  | exact DL.imm_nt
  | exact DL.immAll_nil
  | assumption
  | (refine DL.immAll_map ?_; intro _; walk_at "imm")
  | (refine DL.immAll_cons ?_ ?_ <;> walk_at "imm")
  | (refine DL.immAll_append ?_ ?_ <;> walk_at "imm")
  | (refine DL.immAll_rep ?_; walk_at "imm")
  | (refine DL.immAll_mem ?_; walk_at "imm")
  | (intro _ _; walk_at "imm")
  | (refine ⟨?_, ?_⟩ <;> walk_at "imm")
  | (refine DL.immT ?_; assumption))
local macro_rules | `(tactic| walk_at "hu") => `(tactic| exact L2.Room.units (by assumption))
local macro_rules | `(tactic| walk_at "loc") => `(tactic| first | exact Or.inl rfl | exact Or.inr rfl)
local macro_rules | `(tactic| walk_at "room") => `(tactic| first | assumption | exact L2.Room.mono (by assumption) (by decide))
local macro_rules | `(tactic| walk_at "side") => `(tactic| first | assumption | omega | (unfold L2.CMul; omega) | (unfold L2.CDiv; omega) | (have sizeLine_eq1 := PySem.sizeLine_eq; simp only [List.length_map]; omega) | (have sizeLine_eq' := PySem.sizeLine_eq; omega) | (simp; done) | rfl)
local macro_rules | `(tactic| walk_at "size") => `(tactic| ((show _ ≤ 16777216); exact Nat.le_of_ble_eq_true rfl))
local macro_rules | `(tactic| walk_at "sh") => `(tactic| first
  | exact DL.sh_int
  | exact DL.sh_bl
  | exact DL.sh_non
  | exact DL.sh_str (by decide +kernel)
  | exact DL.shA_nil
  | assumption
  | (refine DL.sh_of ?_; walk_at "sh")
  | (refine DL.shA_map ?_; intro _; walk_at "sh")
  | (refine DL.shA_cons ?_ ?_ <;> walk_at "sh")
  | (refine DL.shA_app ?_ ?_ <;> walk_at "sh")
  | (refine DL.sh_tup ?_; walk_at "sh")
  | (refine DL.sh_lst ?_; walk_at "sh"))
namespace K87
open PySem PySem.Spec L2 DL
section
variable {P : Program} {w : World} {K : PySem.W.Frag} {mg : Str → Option Value} {base : Heap}
theorem num_ok {q : Int} {s : Cnt} {k : Nat} (hq : 1 ≤ q ∧ q ≤ 10) (h : Cv k s) (hk : k ≤ 1000) : okD (PyData.list [dM (lawNum q s), dM (lawNum q s)]) = true ∧ szD (PyData.list [dM (lawNum q s), dM (lawNum q s)]) ≤ sizeLine ∧ (PyData.list [dM (lawNum q s), dM (lawNum q s)]).depth ≤ 60 := by
  have hz := PySem.sizeLine_eq
  have h1 : okD (dM (lawNum q s)) = true := ok_dM fun o ho x hx => by
    unfold lawNum at ho
    obtain ⟨i, _, rfl⟩ := List.mem_map.mp ho
    obtain ⟨j, _, rfl⟩ := List.mem_map.mp hx
    have := h.get ((i : Int), (j : Int))
    omega
  have h2 : szD (dM (lawNum q s)) ≤ 10 * (10 * 26 + 5) + 3 := sz_dM (fun o ho => by
    unfold lawNum at ho
    obtain ⟨i, _, rfl⟩ := List.mem_map.mp ho
    rw [List.length_map, List.length_range]; omega) (by unfold lawNum; rw [List.length_map, List.length_range]; omega)
  have h3 := dp_dM (lawNum q s)
  refine ⟨by simp only [okD, okAll, h1, Bool.and_true], ?_, ?_⟩
  · simp only [szD, szAll]; omega
  · simp only [PyData.depth, PyData.depthAll]; omega
theorem lead_ok {n : Nat} {tw : List Tn} {x y : Int} (hn : n ≤ 6) : okD (PyData.list [leadIt n tw x y, leadIt n tw x y]) = true ∧ szD (PyData.list [leadIt n tw x y, leadIt n tw x y]) ≤ sizeLine ∧ (PyData.list [leadIt n tw x y, leadIt n tw x y]).depth ≤ 60 ∧ imm (leadIt n tw x y) = true := by
  have hz := PySem.sizeLine_eq
  unfold leadIt
  split
  · rename_i b hb
    have hm := List.mem_of_find?_eq_some hb
    have hl := allRows_len hm
    have hbit := allRows_bits hm
    obtain ⟨h1, h2, h3⟩ := two_ok (o := b) (c := 6) (fun x hx => by have := hbit x hx; omega) (by omega) (by omega)
    refine ⟨h1, h2, h3, ?_⟩
    unfold dI
    walk_at "imm"
  · refine ⟨by decide, ?_, by decide +kernel, rfl⟩
    simp only [szD, szAll]; omega
theorem ok_al (T : Txt mg) (G : AlG P w K mg base) {f : Addr} {fd : FuncData} (F : Fun K "_law_are_leads_right" "_law_are_leads_right" s_al f fd) : FnG P w K mg base CX0 5 f fd ["pot", "n", "word", "p"] (spE K (fun _ => True) PreAl PostAl) := by
  refine fn_potG F sc_al (fun ds c h => ?_) fun cdv A outer s H E hgu hr m ds c h => ?_
  · obtain ⟨n, q, tw, p, rfl, _⟩ := h
    rfl
  obtain ⟨n, q, tw, p, rfl, ok, rfl⟩ := h
  have hu := hr.units
  have hz := PySem.sizeLine_eq
  have hq := ok.hq
  have hT := ok.hT
  have hn := ok.hn
  have ht := Gd.wok ok.gd
  have hloop := al_loop (P := P) (w := w) (K := K) (base := base) (cdv := cdv) (outer := outer) (H := H) (E := E) (R := fun m' d' => m ≤ m' ∧ PostAl [.int (n : Int), dW q tw, .int p] d') T G hgu hr ok (m := m)
  rw [show m + ((allRows 2 n).length + 2) = m + 2 + (allRows 2 n).length by omega]
  refine dss_seq (ds_unp2 (Ps := AndThen (· = .int q) (AndThen (· = dicT rowsD (toL [])) (· = []))) 4 5 rfl sc_al.nd rfl rfl (by walk_at "loc") (by walk_at "loc") (es_cons (e_pure (toF (pp_fix0 (pp_var 2 (pv 2))) (by walk_at "imm"))) (es_cons (e_pure (pf_dicT0 (vf := rowsD))) es_nil)) (fun ds h => two_of h)) ?_
  rintro _ _ ⟨_, _, ⟨rfl, rfl, _⟩, rfl, rfl⟩
  refine dss_seq hloop ?_
  rintro _ _ ⟨rfl, rfl⟩
  have cv : Cv (64 * 10) (cAll n q tw) := by
    have h1 := Cv.rows (q := q) (tw := tw) (allRows 2 n) Cv.nil
    refine h1.mono ?_
    rw [Nat.zero_add]
    have := (rInv 2 (List.range n) [[]] 0 (by simp)).1
    rw [List.length_range, List.length_singleton, Nat.one_mul] at this
    have h2 : (allRows 2 n).length = 2 ^ n := this
    have h3 : 2 ^ n ≤ 2 ^ 6 := Nat.pow_le_pow_right (by decide) hn
    exact Nat.mul_le_mul (by rw [h2]; exact h3) (by omega)
  have hl : ∀ b : List Int, ∀ x : Int, 0 ≤ x → x < q → 0 ≤ ledTo b tw x ∧ ledTo b tw x < q := fun b x h0 h1 => by
    rw [← comes_led (q := q) ⟨h0, h1⟩]
    have hO : Pm q (comes q (tw.map (own b))) := Pm.comes (by omega) fun o ho => by obtain ⟨t, ht, rfl⟩ := List.mem_map.mp ho; exact (ok.gd t ht).own
    exact hO.rng _ (at0_mem (by rw [comes_len (by omega)]; exact ⟨h0, h1⟩))
  have hN : ldRows n q tw = lawNum q (cAll n q tw) := numbers_are (by omega) hl
  obtain ⟨u1, u2, u3⟩ := num_ok hq cv (by omega)
  refine dss_seq (N1 := fun m1 ρ1 => m1 = m + 2 ∧ ρ1 = (bseAl p q n tw (cAll n q tw)).set 16 (.ow (dM (lawNum q (cAll n q tw))))) ?_ ?_
  · refine ds_set 16 sc_al.nd rfl (by walk_at "loc") (cF (pf_tuple (pf_lc (l := List.range q.toNat) (f := fun (k : Nat) => PyData.int (k : Int)) (g := fun (x : Nat) => PyData.tuple ((List.range q.toNat).map fun (y : Nat) => .int (((((aGet (toL (cAll n q tw)) [(x : Int), (y : Int)]).getD []).map dI).length : Nat) : Int))) (own := [("x", 15)]) rfl sc_al.nd (toI (pi_rng1 rfl T.range (pp_var 4 (pv 4)) (by omega) (by omega))) (blkOk_by (own := [("x", 15)]) (N := N_al) (sc := defScope s_al) (by decide +kernel))
      (fun _ _ _ _ _ a1 ha1 => gd_name (pg_name (i := 15) sc_al.nd rfl (by walk_at "loc")))
      (fun _ _ _ _ _ a1 ha1 => pf_tuple (pf_lc (l := List.range q.toNat) (f := fun (k : Nat) => PyData.int (k : Int)) (own := [("y", 17)]) rfl sc_al.nd (toI (pi_rng1 rfl T.range (pp_var 4 (pv 4)) (by omega) (by omega))) (blkOk_in (own := [("y", 17)]) (N := N_al) (by decide +kernel)) (fun _ _ _ _ _ a2 ha2 => gd_name (pg_name (i := 17) sc_al.nd rfl (by walk_at "loc")))
        (fun _ _ _ _ _ a2 ha2 => pf_lenL (pp_getR (g := dI) (l := [(a1 : Int), (a2 : Int)]) hu (pp_var 5 (pv 5)) (ky_tup (pas_cons (pp_var 15 (pv 15)) (pas_cons (pp_var 17 (pv 17)) pas_nil)) (by walk_at "size")) (toP (pf_lst fas_nil (by walk_at "size")))) rfl T.len)) rfl T.tuple)) rfl T.tuple) ?_)
    simp [lawNum, dM, dI, Function.comp_def, toL_get]
  rintro _ _ ⟨rfl, rfl⟩
  show PSs _ _ (tS K _ [.pot, .sh (.int (n : Int)), .sh (dW q tw), .sh (.int p), .ow (.int q), .ow (dicT rowsD (toL (cAll n q tw))), .un, .un, .un, .un, .un, .un, .un, .un, .un, .un, .ow (dM (lawNum q (cAll n q tw))), .un] _ _)
  refine dss_ifR (pt_c c_neS (toP (pf_repr hgu hu (pp_lstP (ds := [dM (ldRows n q tw), dM (ldRows n q tw)]) (pas_cons (toP (pf_call G.ln (by walk_at "room") (pas_cons (pp_var 1 (pv 1)) (pas_cons (pp_var 2 (pv 2)) pas_nil)) (by exact ⟨n, q, tw, rfl, hn, ⟨by omega, by omega⟩, by omega, ht, rfl⟩))) (pas_cons (toP (pf_callR (ds := [dW q tw, .int (n : Int)]) G.ln (by walk_at "room") (pks_cons (pp_var 2 (pv 2)) (pks_cons (pp_var 1 (pv 1)) pks_nil)) (by exact ⟨n, q, tw, rfl, hn, ⟨by omega, by omega⟩, by omega, ht, rfl⟩))) pas_nil)) (by walk_at "size")) (show _ = PyData.list [dM (lawNum q (cAll n q tw)), dM (lawNum q (cAll n q tw))] by rw [hN]; exact nm_ok _ u1) u1 u2 u3 ref_lst rfl T.repr))
    (toP (pf_repr hgu hu (pp_lstP (pas_cons (pp_var 16 (pv 16)) (pas_cons (pp_var 16 (pv 16)) pas_nil)) (by walk_at "size")) (nm_ok _ u1) u1 u2 u3 ref_lst rfl T.repr))) (fun hw => ?_) (fun hw => ?_)
  · exfalso
    simp at hw
  refine dss_seq (ds_par2E (m' := m) (Ps := AndThen (fun d => ∃ x0 : Int, d = .int x0 ∧ 0 ≤ x0 ∧ x0 < q) (AndThen (fun d => ∃ x0 : Int, d = .int x0 ∧ 0 ≤ x0 ∧ x0 < q) (· = []))) 15 17 rfl sc_al.nd rfl rfl (by decide) rfl rfl
    (es_cons (e_callE (Ps := AndThen (· = .int q) (· = [])) (c := 1) (m' := m + 1) G.dw (by walk_at "room") (pv 0) rfl (es_cons (e_pure (toF (pp_var 4 (pv 4)) (by walk_at "imm"))) es_nil) rfl (fun ds h => drawPre (by omega) h) fun ds d h h2 => drawPost h h2)
      (es_cons (e_callE (Ps := AndThen (· = .int q) (· = [])) (c := 1) (m' := m) G.dw (by walk_at "room") (pv 0) rfl (es_cons (e_pure (toF (pp_var 4 (pv 4)) (by walk_at "imm"))) es_nil) rfl (fun ds h => drawPre (by omega) h) fun ds d h h2 => drawPost h h2) es_nil)) (fun ds h => two_of h)) ?_
  rintro _ _ ⟨d1, d2, ⟨⟨x0, rfl, hx0, hx1⟩, ⟨y0, rfl, hy0, hy1⟩, _⟩, rfl, rfl⟩
  obtain ⟨v1, v2, v3, v4⟩ := lead_ok (n := n) (tw := tw) (x := x0) (y := y0) hn
  show PSs _ _ (tS K _ [.pot, .sh (.int (n : Int)), .sh (dW q tw), .sh (.int p), .ow (.int q), .ow (dicT rowsD (toL (cAll n q tw))), .un, .un, .un, .un, .un, .un, .un, .un, .un, .ow (.int x0), .ow (dM (lawNum q (cAll n q tw))), .ow (.int y0)] _ _)
  refine dss_seq (ds_set (d := leadIt n tw x0 y0) 8 sc_al.nd rfl (by walk_at "loc") (toF (pp_ixL (ds := match aGet (toL (cAll n q tw)) [x0, y0] with | some v => v.map dI | none => [PyData.none]) (cP (pp_getT (vf := rowsD) (l := [x0, y0]) hu (pp_var 5 (pv 5)) (ky_tup (pas_cons (pp_var 15 (pv 15)) (pas_cons (pp_var 17 (pv 17)) pas_nil)) (by walk_at "size")) (toP (pf_lst (ds := [.none]) (fas_cons pf_non fas_nil) (by walk_at "size")))) (by cases aGet (toL (cAll n q tw)) [x0, y0] <;> rfl)) (toP pf_int) (leadIt_is ⟨hx0, hx1⟩)) v4)) ?_
  rintro _ _ ⟨rfl, rfl⟩
  refine dss_seq (ds_set 9 sc_al.nd rfl (by walk_at "loc") (pf_lst (ds := [leadIt n tw x0 y0, leadIt n tw x0 y0]) (fas_cons (pf_call G.li (by walk_at "room") (pas_cons (pp_var 1 (pv 1)) (pas_cons (pp_var 2 (pv 2)) (pas_cons (pp_var 15 (pv 15)) (pas_cons (pp_var 17 (pv 17)) pas_nil)))) (by exact ⟨n, q, tw, x0, y0, rfl, hn, ⟨hx0, hx1⟩, by omega, ht, rfl⟩)) (fas_cons (pf_callR (ds := [.int y0, .int x0, dW q tw, .int (n : Int)]) G.li (by walk_at "room") (pks_cons (pp_var 17 (pv 17)) (pks_cons (pp_var 15 (pv 15)) (pks_cons (pp_var 2 (pv 2)) (pks_cons (pp_var 1 (pv 1)) pks_nil)))) (by exact ⟨n, q, tw, x0, y0, rfl, hn, ⟨hx0, hx1⟩, by omega, ht, rfl⟩)) fas_nil)) (by walk_at "size"))) ?_
  rintro _ _ ⟨rfl, rfl⟩
  show PSs _ _ (tS K _ [.pot, .sh (.int (n : Int)), .sh (dW q tw), .sh (.int p), .ow (.int q), .ow (dicT rowsD (toL (cAll n q tw))), .un, .un, .ow (leadIt n tw x0 y0), .ow (.list [leadIt n tw x0 y0, leadIt n tw x0 y0]), .un, .un, .un, .un, .un, .ow (.int x0), .ow (dM (lawNum q (cAll n q tw))), .ow (.int y0)] _ _)
  refine ds_one (ds_ret (pf_c c_eqS (toP (pf_repr hgu hu (pp_var 9 (pv 9)) (nm_ok _ v1) v1 v2 v3 ref_lst rfl T.repr)) (toP (pf_repr hgu hu (pp_lstP (pas_cons (pp_var 8 (pv 8)) (pas_cons (pp_var 8 (pv 8)) pas_nil)) (by walk_at "size")) (nm_ok _ v1) v1 v2 v3 ref_lst rfl T.repr))) ⟨by omega, ?_⟩)
  show PyData.bool (decide _) = PyData.bool true
  rw [decide_eq_true rfl]
end
end K87
end
section
set_option Elab.async false
set_option linter.all false
set_option maxRecDepth 100000
set_option maxHeartbeats 4000000
namespace DL
open PySem PySem.Spec L2
section
variable {X : Cx} {m m' : Nat} {ρ : Rh} {R : Nat → PyData → Prop} {a b c e : Expr} {pos : Pos} {Ps : List PyData → Prop}
theorem ds_unp3 (i j l : Nat) {x y z : Str} {px py pz pt : Pos} {kt k2 : Nat} {pt2 : Pos} (hc : X.calm = true) (hN : X.N.Nodup) (hi : X.N[i]? = some x) (hj : X.N[j]? = some y) (hl : X.N[l]? = some z)
    (hx : Loc X.env.scope x) (hy : Loc X.env.scope y) (hzl : Loc X.env.scope z) (ha : PA X [a, b, c] (tEs X.K m ρ m' Ps)) (hz : ∀ ds, Ps ds → ∃ d1 d2 d3, ds = [d1, d2, d3])
    (h1 : i < ρ.length := by (first | exact Nat.le_of_ble_eq_true rfl | decide | simp)) (h2 : j < ρ.length := by (first | exact Nat.le_of_ble_eq_true rfl | decide | simp)) (h3 : l < ρ.length := by (first | exact Nat.le_of_ble_eq_true rfl | decide | simp))
    (hf1 : X.fn x = true ∨ X.env.scope.names.lookup x = some .local := by first | exact .inl rfl | exact .inr rfl) (hf2 : X.fn y = true ∨ X.env.scope.names.lookup y = some .local := by first | exact .inl rfl | exact .inr rfl) (hf3 : X.fn z = true ∨ X.env.scope.names.lookup z = some .local := by first | exact .inl rfl | exact .inr rfl)
    (hs : swapsWithSole [.Tuple [.Name x px, .Name y py, .Name z pz] kt pt] (.Tuple [a, b, c] k2 pt2) pos.line X.env = pure false := by rfl) (hw : swappedStores [.Tuple [.Name x px, .Name y py, .Name z pz] kt pt] (.Tuple [a, b, c] k2 pt2) X.env = pure none := by rfl)
    (h4 : (assignEach [.Tuple [.Name x px, .Name y py, .Name z pz] kt pt] X.env).map (·.2) = [assign (.Tuple [.Name x px, .Name y py, .Name z pz] kt pt) X.env] := by rfl) :
    PS X (.Assign [.Tuple [.Name x px, .Name y py, .Name z pz] kt pt] (.Tuple [a, b, c] k2 pt2) pos) (tS X.K m ρ (fun m1 ρ1 => ∃ d1 d2 d3, Ps [d1, d2, d3] ∧ m1 = m' ∧ ρ1 = ((ρ.set i (.ow d1)).set j (.ow d2)).set l (.ow d3)) R) :=
  PS.imp (ps_asg (pe_tup ha) (pg_tup (n := 3) hc (pgs_cons (pg_name hN hi hx hf1) (pgs_cons (pg_name hN hj hy hf2) (pgs_cons (pg_name hN hl hzl hf3) pgs_nil)))) hs hw h4) fun D σ H ⟨Pt, He, A, en, k1, _⟩ => ⟨Pt, He, A, en, fun xs H' ds B ps en' kp ol nd f => by
    obtain ⟨d1, d2, d3, rfl⟩ := hz ds ps
    have fr : ∀ b ∈ B, b ∉ A := fun b hb z => mut_some (en.sl.isS b z) (f b hb)
    have fp : ∀ b ∈ B, b ∉ ptA Pt := fun b hb z => en.pt.some b z (f b hb)
    have fh : ∀ b ∈ B, He b = none := fun b hb => en.kp.dom b (f b hb)
    cases ol with
    | cons o1 ol =>
      cases ol with
      | cons o2 ol =>
        cases ol with
        | cons o3 ol =>
          cases ol
          rw [List.append_nil] at nd fr fp fh
          obtain ⟨n1, n23, n3⟩ := List.nodup_append.mp nd
          obtain ⟨n2, n4, n5⟩ := List.nodup_append.mp n23
          refine ⟨(show 3 ≤ 16777216 by decide), fun t ht => ⟨t, _, rfl, .of upd_same, rfl, _, _, rfl, _, _, rfl, _, _, rfl, rfl, ?_⟩⟩
          obtain ⟨A1, e1, i1⟩ := (en'.same (same_new ht)).setF h1 (o1.same (same_new ht)) n1 (fun b hb => fr b (List.mem_append_left _ hb)) (fun b hb => fh b (List.mem_append_left _ hb)) fun b hb => fp b (List.mem_append_left _ hb)
          obtain ⟨A2, e2, i2⟩ := e1.setF (i := j) (by rw [List.length_set]; exact h2) (o2.same (same_new ht)) n2 (fun b hb z => (i1 b z).elim (fun z => n3 b z b (List.mem_append_left _ hb) rfl) (fr b (List.mem_append_right _ (List.mem_append_left _ hb)))) (fun b hb => fh b (List.mem_append_right _ (List.mem_append_left _ hb))) fun b hb => fp b (List.mem_append_right _ (List.mem_append_left _ hb))
          obtain ⟨A3, e3, _⟩ := e2.setF (i := l) (by rw [List.length_set, List.length_set]; exact h3) (o3.same (same_new ht)) n4 (fun b hb z => (i2 b z).elim (fun z => n5 b z b hb rfl) fun z => (i1 b z).elim (fun z => n3 b z b (List.mem_append_right _ hb) rfl) (fr b (List.mem_append_right _ (List.mem_append_right _ hb)))) (fun b hb => fh b (List.mem_append_right _ (List.mem_append_right _ hb))) fun b hb => fp b (List.mem_append_right _ (List.mem_append_right _ hb))
          exact k1 He _ _ m' _ A3 (.refl _) e3 ⟨d1, d2, d3, ps, rfl, rfl⟩⟩
end
theorem FuE.up {P : Program} {w : World} {K : PySem.W.Frag} {mg : Str → Option Value} {base : Heap} {x : Str} {ps : List Str} {k : Nat} {Pre : List PyData → Nat → Prop} {Post : List PyData → PyData → Prop} (F : FuE P w K mg base x ps k Pre Post) :
    FuE P w K mg base x ps k (fun ds c => ∃ c0, c0 ≤ c ∧ Pre ds c0) Post := by
  obtain ⟨f, fd, A, G⟩ := F.ex
  refine ⟨f, fd, A, G.imp fun vs H Q E ⟨Pt, p, g, m, c, ds, C, xs, h1, h2, h3, h4, ⟨c0, hc, h5⟩, h6, h7, h8⟩ => ?_⟩
  exact ⟨Pt, p, g, m + (c - c0), c0, ds, C, xs, h1, h2, h3, by rw [show m + (c - c0) + c0 = m + c by omega]; exact h4, h5, h6, h7, fun x H' d B hp kk pt o n f => h8 x H' d B hp kk (pt.mono (by omega)) o n f⟩
theorem AndThen.nil3 {P1 P2 P3 : PyData → Prop} {ds : List PyData} (h : AndThen P1 (AndThen P2 (AndThen P3 (· = []))) ds) : ∃ d1 d2 d3, ds = [d1, d2, d3] ∧ P1 d1 ∧ P2 d2 ∧ P3 d3 := by
  cases ds with
  | nil => cases h
  | cons d1 ds =>
    cases ds with
    | nil => cases h.2
    | cons d2 ds =>
      cases ds with
      | nil => cases h.2.2
      | cons d3 ds =>
        have e : ds = [] := h.2.2.2
        subst e
        exact ⟨d1, d2, d3, rfl, h.1, h.2.1, h.2.2.1⟩
end DL
end
section
set_option Elab.async false
set_option linter.all false
set_option maxRecDepth 100000
set_option maxHeartbeats 4000000
local macro_rules | `(tactic| walk_at "imm") => `(tactic| first
  | exact DL.imm_int
  | exact DL.imm_str
  | exact DL.imm_non
  | exact DL.imm_bl
  | exact DL.imm_nt
  | exact DL.immAll_nil
  | assumption
  | (refine DL.immAll_map ?_; intro _; walk_at "imm")
  | (refine DL.immAll_cons ?_ ?_ <;> walk_at "imm")
  | (refine DL.immAll_append ?_ ?_ <;> walk_at "imm")
  | (refine DL.immAll_rep ?_; walk_at "imm")
  | (refine DL.immAll_mem ?_; walk_at "imm")
  | (intro _ _; walk_at "imm")
  | (refine ⟨?_, ?_⟩ <;> walk_at "imm")
  | (refine DL.immT ?_; assumption))
local macro_rules | `(tactic| walk_at "hu") => `(tactic| exact L2.Room.units (by assumption))
local macro_rules | `(tactic| walk_at "loc") => `(tactic| first | exact Or.inl rfl | exact Or.inr rfl)
local macro_rules | `(tactic| walk_at "room") => `(tactic| first | assumption | exact L2.Room.mono (by assumption) (by decide))
local macro_rules | `(tactic| walk_at "side") => `(tactic| first | assumption | omega | (unfold L2.CMul; omega) | (unfold L2.CDiv; omega) | (have sizeLine_eq1 := PySem.sizeLine_eq; simp only [List.length_map]; omega) | (have sizeLine_eq' := PySem.sizeLine_eq; omega) | (simp; done) | rfl)
local macro_rules | `(tactic| walk_at "size") => `(tactic| ((show _ ≤ 16777216); exact Nat.le_of_ble_eq_true rfl))
local macro_rules | `(tactic| walk_at "sh") => `(tactic| first
  | exact DL.sh_int
  | exact DL.sh_bl
  | exact DL.sh_non
  | exact DL.sh_str (by decide +kernel)
  | exact DL.shA_nil
  | assumption
  | (refine DL.sh_of ?_; walk_at "sh")
  | (refine DL.shA_map ?_; intro _; walk_at "sh")
  | (refine DL.shA_cons ?_ ?_ <;> walk_at "sh")
  | (refine DL.shA_app ?_ ?_ <;> walk_at "sh")
  | (refine DL.sh_tup ?_; walk_at "sh")
  | (refine DL.sh_lst ?_; walk_at "sh"))
namespace K87
open PySem PySem.Spec L2 DL
section
variable {P : Program} {w : World} {K : PySem.W.Frag} {mg : Str → Option Value} {base : Heap}
abbrev s_law : Stmt := top 85
abbrev N_law : List Str := ["script", "pot", "n", "d", "p", "word", "long", "kept", "own", "turn", "other", "by", "bits", "one", "two", "due", "told"]
theorem sc_law : FnScope N_law ["script"] (defScope s_law) := ⟨rfl, rfl, rfl, by decide +kernel, rfl, by decide +kernel, by decide +kernel⟩
theorem GoodT.gd {n : Nat} {q : Int} {t : Tn} (hq : 0 ≤ q) (h : GoodT n q t) : Gd n q t := ⟨h.k, Pm.of_perm hq h.z, Pm.of_perm hq h.o⟩
def WdP (n : Nat) (q : Int) (k : Nat) (d : PyData) : Prop := ∃ tw : List Tn, d = dW q tw ∧ tw.length ≤ k ∧ ∀ t ∈ tw, Gd n q t
theorem wdPre {n : Nat} {q k : Int} {c : Nat} {ds : List PyData} (hn : n ≤ 1000) (hq : 0 ≤ q ∧ q ≤ 10) (hk : 0 ≤ k ∧ k ≤ 100) (hc : k.toNat * (2 * q.toNat + 3) ≤ c) (h : AndThen (· = .int (n : Int)) (AndThen (· = .int q) (AndThen (fun d => ∃ j : Int, d = .int j ∧ 0 ≤ j ∧ j ≤ k) (· = []))) ds) : ∃ c0, c0 ≤ c ∧ PreWd ds c0 := by
  obtain ⟨d1, d2, d3, rfl, rfl, rfl, j, rfl, h0, h1⟩ := AndThen.nil3 h
  exact ⟨j.toNat * (2 * q.toNat + 3), Nat.le_trans (Nat.mul_le_mul_right _ (by omega)) hc, (n : Int), q, j, rfl, ⟨by omega, by omega⟩, ⟨by omega, by omega⟩, ⟨by omega, by omega⟩, rfl⟩
theorem wdPost {n : Nat} {q k : Int} {ds : List PyData} {d : PyData} (hq : 0 ≤ q) (h : AndThen (· = .int (n : Int)) (AndThen (· = .int q) (AndThen (fun d => ∃ j : Int, d = .int j ∧ 0 ≤ j ∧ j ≤ k) (· = []))) ds) (h2 : PostWd ds d) : WdP n q k.toNat d := by
  obtain ⟨d1, d2, d3, rfl, rfl, rfl, j, rfl, h0, h1⟩ := AndThen.nil3 h
  obtain ⟨n', q', many, tw, e, rfl, hl, hg⟩ := h2
  cases e
  refine ⟨tw, rfl, ?_, fun t ht => (hg t ht).gd hq⟩
  split at hl <;> omega
theorem dW_ok {n : Nat} {q : Int} {tw : List Tn} (hn : n ≤ 1000) (hq : 0 ≤ q ∧ q ≤ 10) (h : ∀ t ∈ tw, Gd n q t) (hl : tw.length ≤ 100) : okD (dW q tw) = true ∧ szD (dW q tw) ≤ 100000 ∧ (dW q tw).depth ≤ 10 := by
  have pi : ∀ {o : List Int}, Pm q o → okAll (o.map PyData.int) = true ∧ szAll (o.map PyData.int) ≤ 10 * 26 ∧ PyData.depthAll (o.map PyData.int) ≤ 1 := fun {o} p => by
    refine ⟨okAll_map _ fun x hx => by have := p.rng x hx; simp only [okD, decide_eq_true_eq]; omega, ?_, depth_map _ fun x _ => by simp [PyData.depth]⟩
    have h1 := szAll_map (f := PyData.int) (c := 24) o fun x _ => by simp [szD]
    have h2 := p.len
    have h3 := Nat.mul_le_mul_right 26 (show o.length ≤ 10 by omega)
    omega
  have a1 : okAll (tw.map dT) = true := okAll_map _ fun t ht => by
    have := (h t ht).k
    simp only [dT, dI, okD, okAll, (pi (h t ht).z).1, (pi (h t ht).o).1, Bool.and_true, decide_eq_true_eq]
    omega
  have a2 : szAll (tw.map dT) ≤ tw.length * (600 + 2) := szAll_map _ fun t ht => by
    have h1 := (pi (h t ht).z).2.1
    have h2 := (pi (h t ht).o).2.1
    simp only [dT, dI, szD, szAll]
    omega
  have a3 : PyData.depthAll (tw.map dT) ≤ 4 := depth_map _ fun t ht => by
    have h1 := (pi (h t ht).z).2.2
    have h2 := (pi (h t ht).o).2.2
    simp only [dT, dI, PyData.depth, PyData.depthAll]
    omega
  refine ⟨?_, ?_, ?_⟩
  · simp only [dW, okD, okAll, a1, Bool.and_true, decide_eq_true_eq]; omega
  · simp only [dW, szD, szAll]; omega
  · simp only [dW, PyData.depth, PyData.depthAll]; omega
structure LawG (P : Program) (w : World) (K : PySem.W.Frag) (mg : Str → Option Value) (base : Heap) (P0 : Addr) : Prop where
  dw : FuE P w K mg base "_law_draw" ["pot", "many"] 1 PreDw PostDw
  pk : FuE P w K mg base "_law_pick" ["pot", "row"] 2 PrePk PostPk
  wd : FuE P w K mg base "_law_word" ["pot", "n", "d", "many"] 4 PreWd PostWd
  od : FuE P w K mg base "_law_order" ["pot", "d"] 3 PreOr PostOr
  rw : FuE P w K mg base "_law_row" ["pot", "p", "n"] 2 PreRw PostRw
  wp : Fu P w K mg base "word_places" ["word"] 1 S_wp
  lp : Fu P w K mg base "_law_places" ["word"] 1 S_lp
  lc : Fu P w K mg base "_law_comes" ["d", "orders"] 2 S_lc
  ld : Fu P w K mg base "_law_done" ["word", "items"] 1 S_ld
  lth : Fu P w K mg base "_law_then" ["one", "other"] 1 S_lth
  lu : Fu P w K mg base "_law_undone" ["order"] 1 S_lu
  om2 : Fu P w K mg base "order_of_matrix" ["matrix"] 1 S_om2
  wm : Fu P w K mg base "word_matrix" ["p", "word", "bits"] 3 S_wm
  wj : Fu P w K mg base "words_joined" ["one", "other"] 1 S_wj
  wb : Fu P w K mg base "word_back" ["word"] 2 S_wb
  wl : Fu P w K mg base "word_led" ["word", "by"] 3 S_wl
  ip : FuG P w K mg base "_law_is_program_right" ["pot", "n", "word", "p", "first", "last"] 6 (fun Pt => Pt.tabs = some [(P0, qLam)]) PreIp PostIp
  al : FuG P w K mg base "_law_are_leads_right" ["pot", "n", "word", "p"] 5 (fun _ => True) PreAl PostAl
abbrev lawCx (P : Program) (w : World) (K : PySem.W.Frag) (mg : Str → Option Value) (base : Heap) (f : Addr) (cdv : Value) (A : Around) (outer : List PySem.Env) (s : Shared) (H : Hp) (E : XK) : Cx := (cxOf L2.CX0 P w K mg base N_law "law" (defScope s_law) f cdv A outer s H E).nox
def bseL (P0 : Addr) (n : Nat) (q p : Int) (tw tw2 : List Tn) (kept : Str) : Rh := [.tb [(P0, qLam)], .pot, .ow (.int (n : Int)), .ow (.int q), .ow (.int p), .ow (dW q tw), .ow (dW 2 tw2), .ow (.str kept), .un, .un, .un, .un, .un, .un, .un, .un, .un]
structure LwOk (n : Nat) (q p : Int) (tw tw2 : List Tn) : Prop where
  hn : 1 ≤ n ∧ n ≤ 3
  hq : 2 ≤ q ∧ q ≤ 5
  hp : p = 2 ∨ p = 3 ∨ p = 5 ∨ p = 7
  l1 : tw.length ≤ 6
  l2 : tw2.length ≤ 21
  g1 : ∀ t ∈ tw, Gd n q t
  g2 : ∀ t ∈ tw2, Gd n 2 t
section
variable {f P0 : Addr} {cdv : Value} {A : Around} {outer : List PySem.Env} {s : Shared} {H : Hp} {E : XK}
theorem law_draws (T : Txt mg) (G : LawG P w K mg base P0) (hgu : A.guards = some []) (hr : Room 6 (A.deeper (PyProof.Rows.envOfC "law" (defScope s_law) s.heap.objs.size f cdv))) {N : Nat → Rh → Prop} {R : Nat → PyData → Prop}
    (next : ∀ (n : Nat) (q p : Int) (tw tw2 : List Tn), LwOk n q p tw tw2 → PSs (lawCx P w K mg base f cdv A outer s H E) ((defBody s_law).drop 5) (tS K 700 (bseL P0 n q p tw tw2 (PyData.list [dW q tw, dW 2 tw2]).shown) N R)) :
    PSs (lawCx P w K mg base f cdv A outer s H E) ((defBody s_law).drop 1) (tS K 1000 (.tb [(P0, qLam)] :: .pot :: List.replicate 15 .un) N R) := by
  have hu := hr.units
  have hz := PySem.sizeLine_eq
  refine dss_seq (ds_unp3 (m' := 997) (Ps := AndThen (fun d => ∃ n : Nat, d = .int (n : Int) ∧ 1 ≤ n ∧ n ≤ 3) (AndThen (fun d => ∃ q : Int, d = .int q ∧ 2 ≤ q ∧ q ≤ 5) (AndThen (fun d => ∃ p : Int, d = .int p ∧ (p = 2 ∨ p = 3 ∨ p = 5 ∨ p = 7)) (· = [])))) 2 3 4 rfl sc_law.nd rfl rfl rfl (by walk_at "loc") (by walk_at "loc") (by walk_at "loc")
    (es_cons (e_callE (c := 1) (m' := 999) G.pk (by walk_at "room") (pv 1) rfl (es_cons (e_pure (pf_lst (ds := [.int 1, .int 2, .int 3]) (fas_cons pf_int (fas_cons pf_int (fas_cons pf_int fas_nil))) (by walk_at "size"))) es_nil) rfl (one_arg' ⟨_, rfl, rfl, by decide, by decide, rfl⟩) (one_res fun d ⟨l, e, hd⟩ => by
        cases e
        simp only [List.mem_cons, List.not_mem_nil, or_false] at hd
        rcases hd with rfl | rfl | rfl
        · exact ⟨1, rfl, by decide, by decide⟩
        · exact ⟨2, rfl, by decide, by decide⟩
        · exact ⟨3, rfl, by decide, by decide⟩))
    (es_cons (e_callE (c := 1) (m' := 998) G.pk (by walk_at "room") (pv 1) rfl (es_cons (e_pure (pf_lst (ds := [.int 2, .int 3, .int 4, .int 5]) (fas_cons pf_int (fas_cons pf_int (fas_cons pf_int (fas_cons pf_int fas_nil)))) (by walk_at "size"))) es_nil) rfl (one_arg' ⟨_, rfl, rfl, by decide, by decide, rfl⟩) (one_res fun d ⟨l, e, hd⟩ => by
        cases e
        simp only [List.mem_cons, List.not_mem_nil, or_false] at hd
        rcases hd with rfl | rfl | rfl | rfl <;> exact ⟨_, rfl, by decide, by decide⟩))
    (es_cons (e_callE (c := 1) (m' := 997) G.pk (by walk_at "room") (pv 1) rfl (es_cons (e_pure (pf_lst (ds := [.int 2, .int 3, .int 5, .int 7]) (fas_cons pf_int (fas_cons pf_int (fas_cons pf_int (fas_cons pf_int fas_nil)))) (by walk_at "size"))) es_nil) rfl (one_arg' ⟨_, rfl, rfl, by decide, by decide, rfl⟩) (one_res fun d ⟨l, e, hd⟩ => by
        cases e
        simp only [List.mem_cons, List.not_mem_nil, or_false] at hd
        rcases hd with rfl | rfl | rfl | rfl <;> exact ⟨_, rfl, by decide⟩)) es_nil))) (fun ds h => by obtain ⟨d1, d2, d3, e, _⟩ := AndThen.nil3 h; exact ⟨d1, d2, d3, e⟩)) ?_
  rintro _ _ ⟨d1, d2, d3, ⟨⟨n, rfl, hn⟩, ⟨q, rfl, hq⟩, ⟨p, rfl, hp⟩, _⟩, rfl, rfl⟩
  show PSs _ _ (tS K _ [.tb [(P0, qLam)], .pot, .ow (.int (n : Int)), .ow (.int q), .ow (.int p), .un, .un, .un, .un, .un, .un, .un, .un, .un, .un, .un, .un] _ _)
  refine dss_seq (ds_setE (P := WdP n q 6) (m' := 900) 5 sc_law.nd rfl (by walk_at "loc") (e_callE (Ps := AndThen (· = .int (n : Int)) (AndThen (· = .int q) (AndThen (fun d => ∃ j : Int, d = .int j ∧ 0 ≤ j ∧ j ≤ 6) (· = [])))) (c := 96) (m1 := 996) G.wd.up (by walk_at "room") (pv 1) rfl
    (es_cons (e_pure (toF (pp_var 2 (pv 2)) (by walk_at "imm"))) (es_cons (e_pure (toF (pp_var 3 (pv 3)) (by walk_at "imm"))) (es_cons (e_callE (Ps := AndThen (· = .int 7) (· = [])) (c := 1) (m' := 996) G.dw (by walk_at "room") (pv 1) rfl (es_cons (e_pure pf_int) es_nil) rfl (one_arg' ⟨7, rfl, by decide, by decide, rfl⟩) (one_res fun d ⟨k, i, e, h1, h2, h3⟩ => by cases e; exact ⟨i, h1, h2, by omega⟩)) es_nil)))
    rfl (fun ds h => wdPre (k := 6) (by omega) ⟨by omega, by omega⟩ (by decide) (by
      have : q.toNat ≤ 5 := by omega
      have h6 : (6 : Int).toNat = 6 := rfl
      rw [h6]; omega) h) (fun ds d h h2 => wdPost (by omega) h h2))) ?_
  rintro _ _ ⟨_, ⟨tw, rfl, hl1, hg1⟩, rfl, rfl⟩
  refine dss_seq (ds_setE (P := WdP n 2 21) (m' := 700) 6 sc_law.nd rfl (by walk_at "loc") (e_callE (Ps := AndThen (· = .int (n : Int)) (AndThen (· = .int 2) (AndThen (fun d => ∃ j : Int, d = .int j ∧ 0 ≤ j ∧ j ≤ 21) (· = [])))) (c := 199) (m1 := 899) G.wd.up (by walk_at "room") (pv 1) rfl
    (es_cons (e_pure (toF (pp_var 2 (pv 2)) (by walk_at "imm"))) (es_cons (e_pure pf_int) (es_cons (e_callE (c := 1) (m' := 899) G.pk (by walk_at "room") (pv 1) rfl (es_cons (e_pure (pf_lst (ds := [.int 4, .int 4, .int 20, .int 21, .int 8]) (fas_cons pf_int (fas_cons pf_int (fas_cons pf_int (fas_cons pf_int (fas_cons pf_int fas_nil))))) (by walk_at "size"))) es_nil) rfl (one_arg' ⟨_, rfl, rfl, by decide, by decide, rfl⟩) (one_res fun d ⟨l, e, hd⟩ => by
        cases e
        simp only [List.mem_cons, List.not_mem_nil, or_false] at hd
        rcases hd with rfl | rfl | rfl | rfl | rfl <;> exact ⟨_, rfl, by decide, by decide⟩)) es_nil)))
    rfl (fun ds h => wdPre (k := 21) (by omega) (by decide) (by decide) (by decide) h) (fun ds d h h2 => wdPost (by decide) h h2))) ?_
  rintro _ _ ⟨_, ⟨tw2, rfl, hl2, hg2⟩, rfl, rfl⟩
  have ok : LwOk n q p tw tw2 := ⟨hn, hq, hp, hl1, hl2, hg1, hg2⟩
  obtain ⟨a1, a2, a3⟩ := dW_ok (by omega) ⟨by omega, by omega⟩ hg1 (by omega)
  obtain ⟨b1, b2, b3⟩ := dW_ok (by omega) (by decide) hg2 (by omega)
  have c1 : okD (PyData.list [dW q tw, dW 2 tw2]) = true := by simp only [okD, okAll, a1, b1, Bool.and_true]
  have c2 : szD (PyData.list [dW q tw, dW 2 tw2]) ≤ sizeLine := by simp only [szD, szAll]; omega
  have c3 : (PyData.list [dW q tw, dW 2 tw2]).depth ≤ 60 := by simp only [PyData.depth, PyData.depthAll]; omega
  refine dss_seq (ds_set 7 sc_law.nd rfl (by walk_at "loc") (pf_repr hgu hu (pp_lstP (pas_cons (pp_var 5 (pv 5)) (pas_cons (pp_var 6 (pv 6)) pas_nil)) (by walk_at "size")) (nm_ok _ c1) c1 c2 c3 ref_lst rfl T.repr)) ?_
  rintro _ _ ⟨rfl, rfl⟩
  exact next n q p tw tw2 ok
end
end
end K87
end
section
set_option Elab.async false
set_option linter.all false
set_option maxRecDepth 100000
set_option maxHeartbeats 4000000
local macro_rules | `(tactic| walk_at "imm") => `(tactic| first
  | exact DL.imm_int
  | exact DL.imm_str
  | exact DL.imm_non
  | exact DL.imm_bl
  | exact DL.imm_nt
  | exact DL.immAll_nil
  | assumption
  | (refine DL.immAll_map ?_; intro _; walk_at "imm")
  | (refine DL.immAll_cons ?_ ?_ <;> walk_at "imm")
  | (refine DL.immAll_append ?_ ?_ <;> walk_at "imm")
  | (refine DL.immAll_rep ?_; walk_at "imm")
  | (refine DL.immAll_mem ?_; walk_at "imm")
  | (intro _ _; walk_at "imm")
  | (refine ⟨?_, ?_⟩ <;> walk_at "imm")
  | (refine DL.immT ?_; assumption))
local macro_rules | `(tactic| walk_at "hu") => `(tactic| exact L2.Room.units (by assumption))
local macro_rules | `(tactic| walk_at "loc") => `(tactic| first | exact Or.inl rfl | exact Or.inr rfl)
local macro_rules | `(tactic| walk_at "room") => `(tactic| first | assumption | exact L2.Room.mono (by assumption) (by decide))
local macro_rules | `(tactic| walk_at "side") => `(tactic| first | assumption | omega | (unfold L2.CMul; omega) | (unfold L2.CDiv; omega) | (have sizeLine_eq1 := PySem.sizeLine_eq; simp only [List.length_map]; omega) | (have sizeLine_eq' := PySem.sizeLine_eq; omega) | (simp; done) | rfl)
local macro_rules | `(tactic| walk_at "size") => `(tactic| ((show _ ≤ 16777216); exact Nat.le_of_ble_eq_true rfl))
local macro_rules | `(tactic| walk_at "sh") => `(tactic| first
  | exact DL.sh_int
  | exact DL.sh_bl
  | exact DL.sh_non
  | exact DL.sh_str (by decide +kernel)
  | exact DL.shA_nil
  | assumption
  | (refine DL.sh_of ?_; walk_at "sh")
  | (refine DL.shA_map ?_; intro _; walk_at "sh")
  | (refine DL.shA_cons ?_ ?_ <;> walk_at "sh")
  | (refine DL.shA_app ?_ ?_ <;> walk_at "sh")
  | (refine DL.sh_tup ?_; walk_at "sh")
  | (refine DL.sh_lst ?_; walk_at "sh"))
namespace K87
open PySem PySem.Spec L2 DL
section
variable {P : Program} {w : World} {K : PySem.W.Frag} {mg : Str → Option Value} {base : Heap}
section
variable {f P0 : Addr} {cdv : Value} {A : Around} {outer : List PySem.Env} {s : Shared} {H : Hp} {E : XK}
theorem immW (q : Int) (tw : List Tn) : imm (dW q tw) = true := by
  unfold dW
  refine immT ?_
  refine immAll_cons imm_int (immAll_cons (immT (immAll_map fun t => ?_)) immAll_nil)
  unfold dT dI
  exact immT (immAll_cons imm_int (immAll_cons (immT (immAll_map fun _ => imm_int)) (immAll_cons (immT (immAll_map fun _ => imm_int)) immAll_nil)))
theorem rows_le {n : Nat} (hn : n ≤ 3) : (allRows 2 n).length ≤ 8 := by
  have := (rInv 2 (List.range n) [[]] 0 (by simp)).1
  rw [List.length_range, List.length_singleton, Nat.one_mul] at this
  have h2 : (allRows 2 n).length = 2 ^ n := this
  have h3 : 2 ^ n ≤ 2 ^ 3 := Nat.pow_le_pow_right (by decide) hn
  omega
theorem ipPre {n : Nat} {q p : Int} {tw : List Tn} {ds : List PyData} (h1 : p = 2 ∨ p = 3 ∨ p = 5 ∨ p = 7) (h2 : n ≤ 6) (ht : ∀ t ∈ tw, Gd n q t) (hq : q ≤ 100) (hT : tw.length ≤ 100)
    (h : AndThen (· = .int (n : Int)) (AndThen (· = dW q tw) (AndThen (· = .int p) (AndThen (fun d => ∃ x : Int, d = .int x ∧ 0 ≤ x ∧ x < q) (AndThen (fun d => ∃ x : Int, d = .int x ∧ 0 ≤ x ∧ x < q) (· = []))))) ds) : PreIp ds 0 := by
  rcases ds with _ | ⟨d1, _ | ⟨d2, ds⟩⟩
  · cases h
  · cases h.2
  obtain ⟨e1, e2, h⟩ := h
  obtain ⟨d3, d4, d5, rfl, e3, ⟨x, e4, hx⟩, ⟨y, e5, hy⟩⟩ := AndThen.nil3 h
  subst e1 e2 e3 e4 e5
  exact ⟨n, q, tw, p, x, y, rfl, ⟨h1, h2, ⟨by omega, hx, Gd.wok ht, hq, hT⟩⟩, rfl⟩
theorem law_loop (T : Txt mg) (G : LawG P w K mg base P0) (hgu : A.guards = some []) (hr : Room 6 (A.deeper (PyProof.Rows.envOfC "law" (defScope s_law) s.heap.objs.size f cdv))) {n : Nat} {q p : Int} {tw tw2 : List Tn} {kept : Str} (ok : LwOk n q p tw tw2) {R : Nat → PyData → Prop} :
    PS (lawCx P w K mg base f cdv A outer s H E) ((defBody s_law).getD 5 (.Pass ⟨0, 0, 0, 0⟩)) (tS K 700 (bseL P0 n q p tw tw2 kept) (fun m1 ρ1 => m1 = 500 ∧ ρ1 = bseL P0 n q p tw tw2 kept) R) := by
  have hu := hr.units
  have hz := PySem.sizeLine_eq
  have hn := ok.hn
  have hq := ok.hq
  have hp := ok.hp
  have hl1 := ok.l1
  have hl2 := ok.l2
  have hR := rows_le hn.2
  refine PS.post (ds_for (its := [(q, tw), ((2 : Int), tw2)].map fun e : Int × List Tn => dW e.1 e.2) (fun k m1 ρ1 => m1 = 700 - 100 * k ∧ ρ1 = bseL P0 n q p tw tw2 kept) PassesOwn.never rfl (pi_tupD (toP (pf_tup (fas_cons (toF (pp_var 5 (pv 5)) (immW _ _)) (fas_cons (toF (pp_var 6 (pv 6)) (immW _ _)) fas_nil)) (by walk_at "size"))) (immAll_map fun e => immW _ _)) (fun d hd => ?_) ⟨rfl, rfl⟩ ?_) (fun m1 ρ1 h => h)
  · obtain ⟨e, _, rfl⟩ := List.mem_map.mp hd
    exact immW _ _
  rintro k _ _ d hd ⟨rfl, rfl⟩
  have hk : k < 2 := (List.getElem?_eq_some_iff.mp hd).1
  obtain ⟨e, rfl, he1, he2, he3⟩ : ∃ e : Int × List Tn, d = dW e.1 e.2 ∧ (2 ≤ e.1 ∧ e.1 ≤ 5) ∧ e.2.length ≤ 21 ∧ ∀ t ∈ e.2, Gd n e.1 t := by
    have hk2 : k = 0 ∨ k = 1 := by omega
    rcases hk2 with rfl | rfl
    · exact ⟨(q, tw), (Option.some.inj hd).symm, hq, by show tw.length ≤ 21; omega, ok.g1⟩
    · exact ⟨(2, tw2), (Option.some.inj hd).symm, ⟨Int.le_refl _, by show (2 : Int) ≤ 5; decide⟩, hl2, ok.g2⟩
  refine ⟨_, gst_name (pg_name (i := 8) sc_law.nd rfl (by walk_at "loc")), ?_⟩
  have hpb : (places e.1 e.2).natAbs < 10 ^ 20 := by
    unfold places
    split
    · decide
    · have h1 : e.1 * ((e.2.length : Int) - 1) ≤ 5 * 20 := Int.mul_le_mul (by omega) (by omega) (by omega) (by omega)
      have h0 : 0 ≤ e.1 * ((e.2.length : Int) - 1) := Int.mul_nonneg (by omega) (by omega)
      omega
  have c1 : okD (PyData.list [.int (places e.1 e.2), .int (places e.1 e.2)]) = true := by simp [okD, okAll]; omega
  have c2 : szD (PyData.list [.int (places e.1 e.2), .int (places e.1 e.2)]) ≤ sizeLine := by simp only [szD, szAll]; omega
  have c3 : (PyData.list [.int (places e.1 e.2), .int (places e.1 e.2)]).depth ≤ 60 := by simp only [PyData.depth, PyData.depthAll]; omega
  refine dss_ifR (pt_c c_neS (toP (pf_repr hgu hu (toP (pf_lst (ds := [.int (places e.1 e.2), .int (places e.1 e.2)]) (fas_cons (pf_call G.wp (by walk_at "room") (pas_cons (pp_var 8 (pv 8)) pas_nil) (by exact ⟨e.1, e.2, rfl, by omega, by omega, rfl⟩)) (fas_cons (pf_callR (ds := [dW e.1 e.2]) G.wp (by walk_at "room") (pks_cons (pp_var 8 (pv 8)) pks_nil) (by exact ⟨e.1, e.2, rfl, by omega, by omega, rfl⟩)) fas_nil)) (by walk_at "size"))) (nm_ok _ c1) c1 c2 c3 ref_lst rfl T.repr))
    (toP (pf_repr hgu hu (toP (pf_rep1 (d := .int (lplaces e.1 e.2)) (j := 2) (toP (pf_lst (fas_cons (pf_call G.lp (by walk_at "room") (pas_cons (pp_var 8 (pv 8)) pas_nil) (by exact ⟨e.1, e.2, rfl, ⟨by omega, by omega⟩, rfl⟩)) fas_nil) (by walk_at "size"))) imm_int (toP pf_int) (by decide))) (show _ = PyData.list [.int (places e.1 e.2), .int (places e.1 e.2)] by rw [lplaces_eq]; exact nm_ok _ c1) c1 c2 c3 ref_lst rfl T.repr))) (fun hw => ?_) (fun hw => ?_)
  · exfalso
    simp at hw
  show PSs _ _ (tS K _ [.tb [(P0, qLam)], .pot, .ow (.int (n : Int)), .ow (.int q), .ow (.int p), .ow (dW q tw), .ow (dW 2 tw2), .ow (.str kept), .ow (dW e.1 e.2), .un, .un, .un, .un, .un, .un, .un, .un] _ _)
  refine dss_seq (ds_for (fun j m1 ρ1 => m1 = (700 - 100 * k) - 2 * j ∧ ρ1 = [.tb [(P0, qLam)], .pot, .ow (.int (n : Int)), .ow (.int q), .ow (.int p), .ow (dW q tw), .ow (dW 2 tw2), .ow (.str kept), .ow (dW e.1 e.2), .un, .un, .un, .un, .un, .un, .un, .un]) PassesOwn.never rfl (pi_rng1 rfl T.range (toP pf_int) (by decide) (by decide)) (fun d hd => ?_) ⟨rfl, rfl⟩ ?_) ?_
  · obtain ⟨j, _, rfl⟩ := List.mem_map.mp hd
    exact imm_int
  · rintro j _ _ d hd ⟨rfl, rfl⟩
    have hj : j < 2 := (List.getElem?_eq_some_iff.mp hd).1
    obtain ⟨z, rfl⟩ : ∃ z : Nat, d = .int (z : Int) := by
      obtain ⟨z, _, rfl⟩ := List.mem_map.mp (List.mem_of_getElem? hd)
      exact ⟨z, rfl⟩
    refine ⟨_, gst_name (pg_name (i := 9) sc_law.nd rfl (by walk_at "loc")), ?_⟩
    show PSs _ _ (tS K _ [.tb [(P0, qLam)], .pot, .ow (.int (n : Int)), .ow (.int q), .ow (.int p), .ow (dW q tw), .ow (dW 2 tw2), .ow (.str kept), .ow (dW e.1 e.2), .ow (.int (z : Int)), .un, .un, .un, .un, .un, .un, .un] _ _)
    have em : 700 - 100 * k - 2 * j = (700 - 100 * k - 2 * (j + 1)) + 1 + 1 := by omega
    rw [em]
    refine dss_ifE (w := false) (pt_notE (w := true) (pt_ofE (e_callG (Ps := AndThen (· = .int (n : Int)) (AndThen (· = dW e.1 e.2) (AndThen (· = .int p) (AndThen (fun d => ∃ x : Int, d = .int x ∧ 0 ≤ x ∧ x < e.1) (AndThen (fun d => ∃ x : Int, d = .int x ∧ 0 ≤ x ∧ x < e.1) (· = [])))))) (c := 0) (m1 := 700 - 100 * k - 2 * (j + 1)) (m' := 700 - 100 * k - 2 * (j + 1)) G.ip hgu (fun _ _ _ _ _ sl => sl.tabs 0 rfl) (by walk_at "room") (pv 1) rfl
      (es_cons (e_pure (toF (pp_var 2 (pv 2)) (by walk_at "imm"))) (es_cons (e_pure (toF (pp_var 8 (pv 8)) (immW _ _))) (es_cons (e_pure (toF (pp_var 4 (pv 4)) (by walk_at "imm")))
        (es_cons (e_callE (Ps := AndThen (· = .int e.1) (· = [])) (c := 1) (m' := 700 - 100 * k - 2 * (j + 1) + 1) G.dw (by walk_at "room") (pv 1) rfl (es_cons (e_pure (toF (pp_fix0 (pp_var 8 (pv 8))) (by walk_at "imm"))) es_nil) rfl (fun ds h => drawPre (by omega) h) fun ds d h h2 => drawPost h h2)
          (es_cons (e_callE (Ps := AndThen (· = .int e.1) (· = [])) (c := 1) (m' := 700 - 100 * k - 2 * (j + 1)) G.dw (by walk_at "room") (pv 1) rfl (es_cons (e_pure (toF (pp_fix0 (pp_var 8 (pv 8))) (by walk_at "imm"))) es_nil) rfl (fun ds h => drawPre (by omega) h) fun ds d h h2 => drawPost h h2) es_nil)))))
      rfl (fun ds h => ipPre hp (by omega) he3 (by omega) (by omega) h) (fun ds d h h2 => h2)))) (fun hw => nomatch hw) (fun _ => ?_)
    exact dss_nil (.keep (.keep (.keep (.keep (.keep (.keep (.keep (.keep (.keep (.drop (.keep (.keep (.keep (.keep (.keep (.keep (.keep .nil))))))))))))))))) ⟨rfl, rfl⟩
  rintro _ _ ⟨rfl, rfl⟩
  have hlen2 : ((List.range (2 : Int).toNat).map fun (k : Nat) => PyData.int (k : Int)).length = 2 := rfl
  refine dss_ifE (w := false) (m' := 700 - 100 * (k + 1)) (pt_notE (w := true) (pt_ofE (e_imp (e_callG (P := (· = .bool true)) (Ps := AndThen (· = .int (n : Int)) (AndThen (· = dW e.1 e.2) (AndThen (· = .int p) (· = [])))) (c := (allRows 2 n).length + 2) (m1 := 700 - 100 * k - 2 * 2) (m' := 700 - 100 * k - 2 * 2 - ((allRows 2 n).length + 2)) G.al hgu (fun _ _ _ _ _ _ => trivial) (by walk_at "room") (pv 1) rfl
    (es_cons (e_pure (toF (pp_var 2 (pv 2)) (by walk_at "imm"))) (es_cons (e_pure (toF (pp_var 8 (pv 8)) (immW _ _))) (es_cons (e_pure (toF (pp_var 4 (pv 4)) (by walk_at "imm"))) es_nil))) (by omega) (fun ds h => by
      obtain ⟨d1, d2, d3, rfl, rfl, rfl, rfl⟩ := AndThen.nil3 h
      exact ⟨n, e.1, e.2, p, rfl, ⟨hp, by omega, ⟨by omega, by omega⟩, by omega, he3⟩, rfl⟩) (fun ds d h h2 => h2)) (fun d h => h) (by omega)))) (fun hw => nomatch hw) (fun _ => ?_)
  exact dss_nil (.keep (.keep (.keep (.keep (.keep (.keep (.keep (.keep (.drop (.keep (.keep (.keep (.keep (.keep (.keep (.keep (.keep .nil))))))))))))))))) ⟨rfl, rfl⟩
end
end
end K87
end
section
set_option Elab.async false
set_option linter.all false
set_option maxRecDepth 100000
set_option maxHeartbeats 4000000
local macro_rules | `(tactic| walk_at "imm") => `(tactic| first
  | exact DL.imm_int
  | exact DL.imm_str
  | exact DL.imm_non
  | exact DL.imm_bl
  | exact DL.imm_nt
  | exact DL.immAll_nil
  | assumption
  | (refine DL.immAll_map ?_; intro _; walk_at "imm")
  | (refine DL.immAll_cons ?_ ?_ <;> walk_at "imm")
  | (refine DL.immAll_append ?_ ?_ <;> walk_at "imm")
  | (refine DL.immAll_rep ?_; walk_at "imm")
  | (refine DL.immAll_mem ?_; walk_at "imm")
  | (intro _ _; walk_at "imm")
  | (refine ⟨?_, ?_⟩ <;> walk_at "imm")
  | (refine DL.immT ?_; assumption))
local macro_rules | `(tactic| walk_at "hu") => `(tactic| exact L2.Room.units (by assumption))
local macro_rules | `(tactic| walk_at "loc") => `(tactic| first | exact Or.inl rfl | exact Or.inr rfl)
local macro_rules | `(tactic| walk_at "room") => `(tactic| first | assumption | exact L2.Room.mono (by assumption) (by decide))
local macro_rules | `(tactic| walk_at "side") => `(tactic| first | assumption | omega | (unfold L2.CMul; omega) | (unfold L2.CDiv; omega) | (have sizeLine_eq1 := PySem.sizeLine_eq; simp only [List.length_map]; omega) | (have sizeLine_eq' := PySem.sizeLine_eq; omega) | (simp; done) | rfl)
local macro_rules | `(tactic| walk_at "size") => `(tactic| ((show _ ≤ 16777216); exact Nat.le_of_ble_eq_true rfl))
local macro_rules | `(tactic| walk_at "sh") => `(tactic| first
  | exact DL.sh_int
  | exact DL.sh_bl
  | exact DL.sh_non
  | exact DL.sh_str (by decide +kernel)
  | exact DL.shA_nil
  | assumption
  | (refine DL.sh_of ?_; walk_at "sh")
  | (refine DL.shA_map ?_; intro _; walk_at "sh")
  | (refine DL.shA_cons ?_ ?_ <;> walk_at "sh")
  | (refine DL.shA_app ?_ ?_ <;> walk_at "sh")
  | (refine DL.sh_tup ?_; walk_at "sh")
  | (refine DL.sh_lst ?_; walk_at "sh"))
namespace K87
open PySem PySem.Spec L2 DL
section
variable {P : Program} {w : World} {K : PySem.W.Frag} {mg : Str → Option Value} {base : Heap}
section
variable {f P0 : Addr} {cdv : Value} {A : Around} {outer : List PySem.Env} {s : Shared} {H : Hp} {E : XK}
abbrev endR (P0 : Addr) (n : Nat) (q p : Int) (tw tw2 tw3 : List Tn) (kept : Str) (by_ b o1 o2 : List Int) (dl : List PyData) (tl : List PyData) : Rh := [.tb [(P0, qLam)], .pot, .ow (.int (n : Int)), .ow (.int q), .ow (.int p), .ow (dW q tw), .ow (dW 2 tw2), .ow (.str kept), .un, .un, .ow (dW q tw3), .ow (nt by_), .ow (nt b), .ow (nt o1), .ow (nt o2), .ow (.list dl), .ow (.list tl)]
theorem lsOk {q : Int} (hq : 0 ≤ q ∧ q ≤ 10) {ls : List (List Int)} (hl : ls.length ≤ 3) (h : ∀ o ∈ ls, Pm q o) : okD (PyData.list (ls.map dI)) = true ∧ szD (PyData.list (ls.map dI)) ≤ sizeLine ∧ (PyData.list (ls.map dI)).depth ≤ 60 := by
  have hz := PySem.sizeLine_eq
  have h1 : okAll (ls.map dI) = true := okAll_map _ fun o ho => ok_dI fun x hx => by have := (h o ho).rng x hx; omega
  have h2 : szAll (ls.map dI) ≤ ls.length * (10 * 26 + 3 + 2) := szAll_map _ fun o ho => sz_dI (by have := (h o ho).len; omega)
  have h3 : PyData.depthAll (ls.map dI) ≤ 2 := depth_map _ fun o _ => dp_dI o
  refine ⟨by simp only [okD, h1], ?_, ?_⟩
  · simp only [szD]; omega
  · simp only [PyData.depth]; omega
theorem law_ret (T : Txt mg) (hgu : A.guards = some []) (hr : Room 6 (A.deeper (PyProof.Rows.envOfC "law" (defScope s_law) s.heap.objs.size f cdv))) {n : Nat} {q p : Int} {tw tw2 tw3 : List Tn} (ok : LwOk n q p tw tw2) {by_ b o1 o2 : List Int} {dl : List PyData} {ls : List (List Int)} (hl : ls.length ≤ 3) (hP : ∀ o ∈ ls, Pm q o) (hdl : DL.nm (.list dl) = .list (ls.map dI)) {m : Nat} {N : Nat → Rh → Prop} :
    PSs (lawCx P w K mg base f cdv A outer s H E) ((defBody s_law).drop 12) (tS K m (endR P0 n q p tw tw2 tw3 (PyData.list [dW q tw, dW 2 tw2]).shown by_ b o1 o2 dl (ls.map dI)) N (fun _ d => d = .bool true)) := by
  have hu := hr.units
  have hz := PySem.sizeLine_eq
  have hq := ok.hq
  have hn := ok.hn
  have hl1 := ok.l1
  have hl2 := ok.l2
  obtain ⟨r1, r2, r3⟩ := lsOk (q := q) ⟨by omega, by omega⟩ hl hP
  obtain ⟨a1, a2, a3⟩ := dW_ok (by omega) ⟨by omega, by omega⟩ ok.g1 (by omega)
  obtain ⟨b1, b2, b3⟩ := dW_ok (by omega) (by decide) ok.g2 (by omega)
  have c1 : okD (PyData.list [dW q tw, dW 2 tw2]) = true := by simp only [okD, okAll, a1, b1, Bool.and_true]
  have c2 : szD (PyData.list [dW q tw, dW 2 tw2]) ≤ sizeLine := by simp only [szD, szAll]; omega
  have c3 : (PyData.list [dW q tw, dW 2 tw2]).depth ≤ 60 := by simp only [PyData.depth, PyData.depthAll]; omega
  refine ds_one (ds_ret (pf_andD (toP (pf_c c_eqS (toP (pf_repr hgu hu (pp_var 16 (pv 16)) (nm_ok _ r1) r1 r2 r3 ref_lst rfl T.repr)) (toP (pf_repr hgu hu (pp_var 15 (pv 15)) hdl r1 r2 r3 ref_lst rfl T.repr)))) fun _ => pf_one (pf_c c_eqS (toP (pf_repr hgu hu (pp_lstP (pas_cons (pp_var 5 (pv 5)) (pas_cons (pp_var 6 (pv 6)) pas_nil)) (by walk_at "size")) (nm_ok _ c1) c1 c2 c3 ref_lst rfl T.repr)) (pp_var 7 (pv 7)))) ?_)
  rw [decide_eq_true rfl, decide_eq_true rfl]; rfl
theorem law_end (T : Txt mg) (G : LawG P w K mg base P0) (hgu : A.guards = some []) (hr : Room 6 (A.deeper (PyProof.Rows.envOfC "law" (defScope s_law) s.heap.objs.size f cdv))) {n : Nat} {q p : Int} {tw tw2 : List Tn} (ok : LwOk n q p tw tw2) {N : Nat → Rh → Prop} :
    PSs (lawCx P w K mg base f cdv A outer s H E) ((defBody s_law).drop 6) (tS K 500 (bseL P0 n q p tw tw2 (PyData.list [dW q tw, dW 2 tw2]).shown) N (fun _ d => d = .bool true)) := by
  have hu := hr.units
  have hz := PySem.sizeLine_eq
  have hq := ok.hq
  have hn := ok.hn
  have hp := ok.hp
  have hl1 := ok.l1
  have hl2 := ok.l2
  refine dss_seq (ds_unp3 (m' := 380) (Ps := AndThen (WdP n q 4) (AndThen (fun d => ∃ o : List Int, d = nt o ∧ Pm q o) (AndThen (fun d => ∃ b : List Int, d = nt b ∧ b.length = n ∧ Bits b) (· = [])))) 10 11 12 rfl sc_law.nd rfl rfl rfl (by walk_at "loc") (by walk_at "loc") (by walk_at "loc")
    (es_cons (e_callE (Ps := AndThen (· = .int (n : Int)) (AndThen (· = .int q) (AndThen (fun d => ∃ j : Int, d = .int j ∧ 0 ≤ j ∧ j ≤ 4) (· = [])))) (c := 99) (m1 := 499) (m' := 400) G.wd.up (by walk_at "room") (pv 1) rfl
      (es_cons (e_pure (toF (pp_var 2 (pv 2)) (by walk_at "imm"))) (es_cons (e_pure (toF (pp_var 3 (pv 3)) (by walk_at "imm"))) (es_cons (e_callE (Ps := AndThen (· = .int 5) (· = [])) (c := 1) (m' := 499) G.dw (by walk_at "room") (pv 1) rfl (es_cons (e_pure pf_int) es_nil) rfl (one_arg' ⟨5, rfl, by decide, by decide, rfl⟩) (one_res fun d ⟨k, i, e, h1, h2, h3⟩ => by cases e; exact ⟨i, h1, h2, by omega⟩)) es_nil)))
      rfl (fun ds h => wdPre (k := 4) (by omega) ⟨by omega, by omega⟩ (by decide) (by
        have : q.toNat ≤ 5 := by omega
        have h6 : (4 : Int).toNat = 4 := rfl
        rw [h6]; omega) h) (fun ds d h h2 => wdPost (by omega) h h2))
    (es_cons (e_callE (Ps := AndThen (· = .int q) (· = [])) (c := 10) (m1 := 400) (m' := 390) G.od.up (by walk_at "room") (pv 1) rfl (es_cons (e_pure (toF (pp_var 3 (pv 3)) (by walk_at "imm"))) es_nil) rfl (one_arg' (Pre := fun ds c => ∃ c0, c0 ≤ c ∧ PreOr ds c0) ⟨q.toNat, by omega, q, rfl, by omega, by omega, rfl⟩) (one_res fun d ⟨q', ns, e, h1, h2⟩ => by cases e; exact ⟨ns, h1, Pm.of_perm (by omega) h2⟩))
    (es_cons (e_callE (Ps := AndThen (· = .int 2) (AndThen (· = .int (n : Int)) (· = []))) (c := 10) (m1 := 390) (m' := 380) G.rw.up (by walk_at "room") (pv 1) rfl (es_cons (e_pure pf_int) (es_cons (e_pure (toF (pp_var 2 (pv 2)) (by walk_at "imm"))) es_nil)) rfl (fun ds h => by
        obtain ⟨d1, d2, rfl⟩ := two_of h
        obtain ⟨rfl, rfl, _⟩ := h
        exact ⟨n, by omega, 2, (n : Int), rfl, by decide, ⟨by omega, by omega⟩, by simp⟩) (fun ds d h ⟨p', n', ns, e, h1, h2, h3⟩ => by
        obtain ⟨d1, d2, rfl⟩ := two_of h
        obtain ⟨rfl, rfl, _⟩ := h
        cases e
        exact ⟨ns, h1, by simpa using h2, fun x hx => by have := h3 x hx; omega⟩)) es_nil))) (fun ds h => by obtain ⟨d1, d2, d3, e, _⟩ := AndThen.nil3 h; exact ⟨d1, d2, d3, e⟩)) ?_
  rintro _ _ ⟨_, _, _, ⟨⟨tw3, rfl, hl3, hg3⟩, ⟨by_, rfl, hby⟩, ⟨b, rfl, hbl, hbit⟩, _⟩, rfl, rfl⟩
  show PSs _ _ (tS K _ [.tb [(P0, qLam)], .pot, .ow (.int (n : Int)), .ow (.int q), .ow (.int p), .ow (dW q tw), .ow (dW 2 tw2), .ow (.str (PyData.list [dW q tw, dW 2 tw2]).shown), .un, .un, .ow (dW q tw3), .ow (nt by_), .ow (nt b), .un, .un, .un, .un] _ _)
  have ht1 : WOk q b.length tw := by rw [hbl]; exact Gd.wok ok.g1
  have ht3 : WOk q b.length tw3 := by rw [hbl]; exact Gd.wok hg3
  have q0 : 0 ≤ q := by omega
  have hOs : ∀ {u : List Tn}, (∀ t ∈ u, Gd n q t) → ∀ o ∈ u.map (own b), Pm q o := fun {u} h o ho => by obtain ⟨t, ht, rfl⟩ := List.mem_map.mp ho; exact (h t ht).own
  have hO : ∀ {u : List Tn}, (∀ t ∈ u, Gd n q t) → Pm q (comes q (u.map (own b))) := fun {u} h => Pm.comes q0 (hOs h)
  have hO1 := hO ok.g1
  have hO3 := hO hg3
  have hO1l := hO1.len
  have hO3l := hO3.len
  have hbyl := hby.len
  refine dss_seq (ds_unpL2 (d1 := nt (comes q (tw.map (own b)))) (d2 := nt (comes q (tw3.map (own b)))) 13 14 rfl sc_law.nd rfl rfl (by walk_at "loc") (by walk_at "loc") (toP (pf_lc (l := [tw, tw3]) (f := fun u => dW q u) (g := fun u => nt (comes q (u.map (own b)))) (own := [("own", 8)]) rfl sc_law.nd (toI (pi_tupD (toP (pf_tup (fas_cons (toF (pp_var 5 (pv 5)) (immW _ _)) (fas_cons (toF (pp_var 10 (pv 10)) (immW _ _)) fas_nil)) (by walk_at "size"))) (immAll_map (f := fun u => dW q u) (l := [tw, tw3]) fun u => immW _ _)))
    (blkOk_by (own := [("own", 8)]) (N := N_law) (sc := defScope s_law) (by decide +kernel)) (fun _ _ _ _ _ a1 ha1 => gd_name (pg_name (i := 8) sc_law.nd rfl (by walk_at "loc"))) (fun _ _ _ _ _ a1 ha1 => by
      have hg : ∀ t ∈ a1, Gd n q t := by
        rcases List.mem_cons.mp ha1 with rfl | ha1
        · exact ok.g1
        · rw [List.mem_singleton.mp ha1]; exact hg3
      have hw1 : WOk q b.length a1 := by rw [hbl]; exact Gd.wok hg
      exact pf_call G.lc (by walk_at "room") (pas_cons (pp_var 3 (pv 3)) (pas_cons (toP (pf_call G.ld (by walk_at "room") (pas_cons (pp_var 8 (pv 8)) (pas_cons (pp_nt (pp_var 12 (pv 12))) pas_nil)) (by exact ⟨q, a1, b, rfl, hw1.k, hbit, rfl⟩))) pas_nil)) (by exact ⟨q, a1.map (own b), rfl, ⟨by omega, by omega⟩, (fun o ho => ⟨(hOs hg o ho).len, (hOs hg o ho).rng⟩), rfl⟩)))) imm_nt imm_nt) ?_
  rintro _ _ ⟨rfl, rfl⟩
  refine dss_seq (ds_set 15 sc_law.nd rfl (by walk_at "loc") (pf_lst (ds := [nt ((comes q (tw.map (own b))).map (at0 (comes q (tw3.map (own b))))), dI (undone (comes q (tw.map (own b))))]) (fas_cons (pf_call G.lth (by walk_at "room") (pas_cons (pp_nt (pp_var 13 (pv 13))) (pas_cons (pp_nt (pp_var 14 (pv 14))) pas_nil)) (by exact ⟨_, _, rfl, (fun i hi => by have := hO1.rng i hi; omega), rfl⟩)) (fas_cons (pf_call G.lu (by walk_at "room") (pas_cons (pp_var 13 (pv 13)) pas_nil) (by exact ⟨_, rfl, by omega, (fun x hx => hO1.all x (by omega) (by omega)), rfl⟩)) fas_nil)) (by walk_at "size"))) ?_
  rintro _ _ ⟨rfl, rfl⟩
  have gj : ∀ t ∈ tw ++ tw3, Gd n q t := fun t ht => (List.mem_append.mp ht).elim (ok.g1 t) (hg3 t)
  have gb := backs_gd q0 ok.g1
  have wmOk : ∀ {u : List Tn}, (∀ t ∈ u, Gd n q t) → ∀ t ∈ u, (0 ≤ t.k ∧ t.k < b.length) ∧ t.z.length = q ∧ t.o.length = q := fun {u} h t ht => ⟨by rw [hbl]; exact (h t ht).k, (h t ht).z.len, (h t ht).o.len⟩
  have wmIs : ∀ {u : List Tn}, (∀ t ∈ u, Gd n q t) → wordMat p q u b = lMat (comes q (u.map (own b))) := fun {u} h => wordMat_is (by omega) q0 fun t ht => (h t ht).own
  have omS : ∀ {u : List Tn}, (∀ t ∈ u, Gd n q t) → S_om2 [dMn (wordMat p q u b)] (dI (comes q (u.map (own b)))) := fun {u} h => ⟨comes q (u.map (own b)), by rw [wmIs h, ordMat_is], by have := (hO h).len; omega, (hO h).nd, (fun x hx => by have := (hO h).rng x hx; have := (hO h).len; omega), rfl⟩
  refine dss_seq (ds_set 16 sc_law.nd rfl (by walk_at "loc") (pf_lst (ds := [dI (comes q ((tw ++ tw3).map (own b)))]) (fas_cons (pf_call G.om2 (by walk_at "room") (pas_cons (toP (pf_call G.wm (by walk_at "room") (pas_cons (pp_var 4 (pv 4)) (pas_cons (toP (pf_call G.wj (by walk_at "room") (pas_cons (pp_var 5 (pv 5)) (pas_cons (pp_var 10 (pv 10)) pas_nil)) (by exact ⟨q, tw, tw3, q, rfl, by omega, rfl⟩))) (pas_cons (pp_nt (pp_var 12 (pv 12))) pas_nil))) (by exact ⟨p, q, tw ++ tw3, b, rfl, ⟨by omega, by omega⟩, ⟨by omega, by omega⟩, wmOk gj, rfl⟩))) pas_nil) (by exact omS gj)) fas_nil) (by walk_at "size"))) ?_
  rintro _ _ ⟨rfl, rfl⟩
  refine dss_seq (ds_app (ds := [dI (comes q ((tw ++ tw3).map (own b)))]) 16 (pv 16) rfl (pf_call (d := dI (comes q ((tw.reverse.map backT).map (own b)))) G.om2 (by walk_at "room") (pas_cons (toP (pf_call G.wm (by walk_at "room") (pas_cons (pp_var 4 (pv 4)) (pas_cons (toP (pf_call G.wb (by walk_at "room") (pas_cons (pp_var 5 (pv 5)) pas_nil) (by exact ⟨q, tw, rfl, (fun t ht => by
      have h1 := (ok.g1 t ht).z
      have h2 := (ok.g1 t ht).o
      have h3 := h1.len
      have h4 := h2.len
      exact ⟨⟨fun x hx => by have := h1.rng x hx; omega, by omega⟩, ⟨fun x hx => by have := h2.rng x hx; omega, by omega⟩⟩), rfl⟩))) (pas_cons (pp_nt (pp_var 12 (pv 12))) pas_nil))) (by exact ⟨p, q, tw.reverse.map backT, b, rfl, ⟨by omega, by omega⟩, ⟨by omega, by omega⟩, wmOk gb, rfl⟩))) pas_nil) (by exact omS gb)) (by show 1 < 16777216; decide)) ?_
  rintro _ _ ⟨rfl, rfl⟩
  have j1 : comes q ((tw ++ tw3).map (own b)) = thenO (comes q (tw.map (own b))) (comes q (tw3.map (own b))) := joined_is q0 ok.g1
  have j2 : comes q ((tw.reverse.map backT).map (own b)) = undone (comes q (tw.map (own b))) := back_word q0 ok.g1
  show PSs _ _ (tS K _ (endR P0 n q p tw tw2 tw3 (PyData.list [dW q tw, dW 2 tw2]).shown by_ b (comes q (tw.map (own b))) (comes q (tw3.map (own b))) [nt (thenO (comes q (tw.map (own b))) (comes q (tw3.map (own b)))), dI (undone (comes q (tw.map (own b))))] [dI (comes q ((tw ++ tw3).map (own b))), dI (comes q ((tw.reverse.map backT).map (own b)))]) _ _)
  refine dss_seq (N1 := fun m1 ρ1 => ∃ (dl : List PyData) (ls : List (List Int)), ls.length ≤ 3 ∧ (∀ o ∈ ls, Pm q o) ∧ DL.nm (.list dl) = .list (ls.map dI) ∧ ρ1 = endR P0 n q p tw tw2 tw3 (PyData.list [dW q tw, dW 2 tw2]).shown by_ b (comes q (tw.map (own b))) (comes q (tw3.map (own b))) dl (ls.map dI)) ?_ ?_
  · have hs1 : SeqAt.shaped (PyData.tuple (tw.map dT)) = true := by walk_at "sh"
    have hs2 : SeqAt.shaped (PyData.tuple []) = true := by decide +kernel
    have base2 : DL.nm (.list [nt (thenO (comes q (tw.map (own b))) (comes q (tw3.map (own b)))), dI (undone (comes q (tw.map (own b))))]) = PyData.list ([comes q ((tw ++ tw3).map (own b)), comes q ((tw.reverse.map backT).map (own b))].map dI) := by
      rw [nm_lst, nmAll_cons, nmAll_cons, nmAll_nil, nm_nt, nm_dI, j1, j2]; rfl
    refine ds_if (pt_c (c_neD (by walk_at "hu") hs1 hs2) (pp_fix1 (pp_var 5 (pv 5))) (toP (pf_tup fas_nil (by walk_at "size")))) (fun hw => ?_) (fun hw => ?_)
    · have hne : tw ≠ [] := fun z => by
        subst z
        simp [PyData.eqv, PyData.eqvAll] at hw
      obtain ⟨t, r, rfl⟩ := List.exists_cons_of_ne_nil hne
      have gl := ledW_gd q0 ok.g1 hby
      have j3 := led_word (b := b) q0 ok.g1 hby
      have hun := undone_pm q0 hby
      have hunl := hun.len
      refine dss_seq (ds_app (ds := [dI (comes q ((t :: r ++ tw3).map (own b))), dI (comes q (((t :: r).reverse.map backT).map (own b)))]) 16 (pv 16) rfl (pf_call (d := dI (comes q ((ledW t r by_).map (own b)))) G.om2 (by walk_at "room") (pas_cons (toP (pf_call G.wm (by walk_at "room") (pas_cons (pp_var 4 (pv 4)) (pas_cons (toP (pf_call G.wl (by walk_at "room") (pas_cons (pp_var 5 (pv 5)) (pas_cons (pp_nt (pp_var 11 (pv 11))) pas_nil)) (by exact ⟨q, t, r, by_, rfl, ⟨by rw [List.length_cons] at hl1; omega, by omega⟩, (fun x hx => by have := hby.rng x hx; omega), (fun u hu => by
          have h1 := (ok.g1 u hu).z
          have h2 := (ok.g1 u hu).o
          have h3 := h1.len
          have h4 := h2.len
          exact ⟨⟨by omega, fun x hx => by have := h1.rng x hx; omega⟩, ⟨by omega, fun x hx => by have := h2.rng x hx; omega⟩⟩), rfl⟩))) (pas_cons (pp_nt (pp_var 12 (pv 12))) pas_nil))) (by exact ⟨p, q, ledW t r by_, b, rfl, ⟨by omega, by omega⟩, ⟨by omega, by omega⟩, wmOk gl, rfl⟩))) pas_nil) (by exact omS gl)) (by show 2 < 16777216; decide)) ?_
      rintro _ _ ⟨rfl, rfl⟩
      refine dss_seq (ds_app (ds := [nt (thenO (comes q ((t :: r).map (own b))) (comes q (tw3.map (own b)))), dI (undone (comes q ((t :: r).map (own b))))]) 15 (pv 15) rfl (pf_call (d := nt (thenO (thenO (undone by_) (comes q ((t :: r).map (own b)))) by_)) G.lth (by walk_at "room") (pas_cons (pp_nt (toP (pf_call (d := nt (thenO (undone by_) (comes q ((t :: r).map (own b))))) G.lth (by walk_at "room") (pas_cons (toP (pf_call G.lu (by walk_at "room") (pas_cons (pp_var 11 (pv 11)) pas_nil) (by exact ⟨by_, rfl, by omega, (fun x hx => hby.all x (by omega) (by omega)), rfl⟩))) (pas_cons (pp_nt (pp_var 13 (pv 13))) pas_nil)) (by exact ⟨undone by_, _, rfl, (fun i hi => by have := hun.rng i hi; omega), rfl⟩)))) (pas_cons (pp_nt (pp_var 11 (pv 11))) pas_nil))
        (by exact ⟨thenO (undone by_) (comes q ((t :: r).map (own b))), by_, rfl, (fun i hi => by have := (hun.then q0 hO1).rng i hi; omega), rfl⟩)) (by show 2 < 16777216; decide)) ?_
      rintro _ _ ⟨rfl, rfl⟩
      refine dss_nil (Le.refl _) ⟨[nt (thenO (comes q ((t :: r).map (own b))) (comes q (tw3.map (own b)))), dI (undone (comes q ((t :: r).map (own b)))), nt (thenO (thenO (undone by_) (comes q ((t :: r).map (own b)))) by_)], [comes q ((t :: r ++ tw3).map (own b)), comes q (((t :: r).reverse.map backT).map (own b)), comes q ((ledW t r by_).map (own b))], Nat.le_refl 3, fun o ho => ?_, ?_, rfl⟩
      · simp only [List.mem_cons, List.not_mem_nil, or_false] at ho
        rcases ho with rfl | rfl | rfl
        · exact hO gj
        · exact hO gb
        · exact hO gl
      · rw [nm_lst, nmAll_cons, nmAll_cons, nmAll_cons, nmAll_nil, nm_nt, nm_nt, nm_dI, j1, j2, j3]; rfl
    · exact dss_nil (Le.refl _) ⟨_, [comes q ((tw ++ tw3).map (own b)), comes q ((tw.reverse.map backT).map (own b))], (show 2 ≤ 3 by decide), fun o ho => by
        simp only [List.mem_cons, List.not_mem_nil, or_false] at ho
        rcases ho with rfl | rfl
        · exact hO gj
        · exact hO gb, base2, rfl⟩
  rintro m1 _ ⟨dl, ls, k1, k2, k3, rfl⟩
  exact law_ret T hgu hr ok k1 k2 k3
end
end
end K87
end
section
set_option Elab.async false
set_option linter.all false
set_option maxRecDepth 100000
set_option maxHeartbeats 4000000
namespace DL
open PySem PySem.Spec L2
def Scr (K : PySem.W.Frag) (ns : List Int) (σ : L2.St) (H : Hp) : Prop := ∃ a : Addr, σ[0]? = some (some (.ref a)) ∧ SqL K H a (ns.map V.int)
theorem cut61 (ns : List Int) : cutV (ns.map V.int) none (some 61) = (ns.take 61).map V.int := by
  unfold cutV
  show ((ns.map V.int).drop 0).take (min (61 : Int).toNat (ns.map V.int).length - 0) = _
  rw [List.drop_zero, Nat.sub_zero, List.length_map, ← List.map_take]
  congr 1
  show ns.take (min 61 ns.length) = _
  rw [← List.take_take, List.take_length]
theorem intsOwn {K : PySem.W.Frag} {H : Hp} : ∀ ns : List Int, OwnL K H (ns.map V.int) (ns.map PyData.int) []
  | [] => .nil
  | n :: ns => .cons (.int n) (intsOwn ns)
section
variable {X : Cx} {r : Ro} {tg iter elt : Expr} {pos p p2 p0 : Pos} {ns : List Int}
theorem pi_scr {kk : Nat} {q : Pos} {nm : Str} (hv : PE X (.Name nm p0) (tVar 0)) (hl : ns.length ≤ sizeLine) : PI X tg (.Subscript (.Name nm p0) (.Slice none (some (.Constant (.int 61) kk q)) none p2) pos) (fun σ H R => Scr X.K ns σ H ∧ ∀ J H' F, Same H H' → Seqs X.K J H' ((ns.take 61).map PyData.int) F → R J H') :=
  PI.imp (pi_list (pe_slice sl_list hv po_none (po_some pe_int))) fun σ H R ⟨⟨a, h0, hS⟩, k⟩ => ⟨_, h0, 61, rfl, a, _, rfl, hS, fun t ht => ⟨t, rfl, ⟨_, .of upd_same⟩, k _ _ _ (same_new ht) (seqs_lst (H1 := upd H t (.lst (cutV (ns.map V.int) none (some 61)))) upd_same (by rw [cut61]; exact intsOwn _) (by rw [cut61, List.length_map, List.length_take]; omega))⟩⟩
theorem pf_lcQ {Pre : L2.St → Hp → Prop} {α : Type} {l : List α} {f g : α → PyData} {r' : α → Ro} {own : List (Str × Nat)} {scope : Scope}
    (hc : X.calm = true) (hN : X.N.Nodup) (hi : PI X tg iter (fun σ H R => Pre σ H ∧ ∀ J H' F, Same H H' → Seqs X.K J H' (l.map f) F → R J H')) (ok : BlkOk X.N X.env.scope scope own)
    (hg : ∀ (s : Shared) (H : Hp) (C : Addr) (cl : List (Str × Addr)) (fp : List Addr), ∀ a ∈ l, PG (X.blk s H scope (compEnvC scope cl C X.env) fp) tg (gD X.K (f a) (wipeR r (own.map (·.2))) (r' a) (own.map (·.2))))
    (he : ∀ (s : Shared) (H : Hp) (C : Addr) (cl : List (Str × Addr)) (fp : List Addr), ∀ a ∈ l, PE (X.blk s H scope (compEnvC scope cl C X.env) fp) elt (tF X.K (r' a) (g a)))
    (hs : ∀ x, foldedSetIterable iter X.env x = pure x := by intro _; rfl) :
    PE X (.ListComp elt [⟨tg, iter, [], 0⟩] scope pos) (fun σ H Q => Pre σ H ∧ tF X.K r (.list (l.map g)) σ H Q) := by
  have hg' : ∀ (s : Shared) (H : Hp) (C : Addr) (cl : List (Str × Addr)) (fp : List Addr), PG (X.blk s H scope (compEnvC scope cl C X.env) fp) tg (fun v σ H Q => ∃ a, a ∈ l ∧ gD X.K (f a) (wipeR r (own.map (·.2))) (r' a) (own.map (·.2)) v σ H Q) :=
    fun s H C cl fp => ⟨fun pins s' σ H' v u Q I rv ⟨a, ha, h⟩ => (hg s H C cl fp a ha).run pins s' σ H' v u Q I rv h⟩
  have ht' : ∀ (s : Shared) (H : Hp) (C : Addr) (cl : List (Str × Addr)) (fp : List Addr), PTs (X.blk s H scope (compEnvC scope cl C X.env) fp) [] (fun σ H Q => ∃ a, a ∈ l ∧ tT X.K (r' a) true σ H Q) :=
    fun s H C cl fp => ⟨fun pins s' σ H' Q I ⟨a, ha, _, k⟩ => pts_nil.run pins s' σ H' Q I (k H' (.refl _))⟩
  have he' : ∀ (s : Shared) (H : Hp) (C : Addr) (cl : List (Str × Addr)) (fp : List Addr), PE (X.blk s H scope (compEnvC scope cl C X.env) fp) elt (fun σ H Q => ∃ a, (a ∈ l ∧ true = true) ∧ tF X.K (r' a) (g a) σ H Q) :=
    fun s H C cl fp => ⟨fun pins s' σ H' Q I ⟨a, ha, h⟩ => (he s H C cl fp a ha.1).run pins s' σ H' Q I h⟩
  exact PE.imp (pe_lc hc hN hi ok hg' ht' he' hs) fun σ H Q ⟨hp, hQ⟩ => by
    have hQ' : tF X.K r (.list ((l.filter fun _ => true).map g)) σ H Q := by rw [List.filter_eq_self.mpr fun _ _ => rfl]; exact hQ
    obtain ⟨_, k⟩ := lc_read (q := fun _ => true) hQ'
    exact ⟨hp, k⟩
end
end DL
end
section
set_option Elab.async false
set_option linter.all false
set_option maxRecDepth 100000
set_option maxHeartbeats 4000000
local macro_rules | `(tactic| walk_at "imm") => `(tactic| first
  | exact DL.imm_int
  | exact DL.imm_str
  | exact DL.imm_non
  | exact DL.imm_bl
  | exact DL.imm_nt
  | exact DL.immAll_nil
  | assumption
  | (refine DL.immAll_map ?_; intro _; walk_at "imm")
  | (refine DL.immAll_cons ?_ ?_ <;> walk_at "imm")
  | (refine DL.immAll_append ?_ ?_ <;> walk_at "imm")
  | (refine DL.immAll_rep ?_; walk_at "imm")
  | (refine DL.immAll_mem ?_; walk_at "imm")
  | (intro _ _; walk_at "imm")
  | (refine ⟨?_, ?_⟩ <;> walk_at "imm")
  | (refine DL.immT ?_; assumption))
local macro_rules | `(tactic| walk_at "hu") => `(tactic| exact L2.Room.units (by assumption))
local macro_rules | `(tactic| walk_at "loc") => `(tactic| first | exact Or.inl rfl | exact Or.inr rfl)
local macro_rules | `(tactic| walk_at "room") => `(tactic| first | assumption | exact L2.Room.mono (by assumption) (by decide))
local macro_rules | `(tactic| walk_at "side") => `(tactic| first | assumption | omega | (unfold L2.CMul; omega) | (unfold L2.CDiv; omega) | (have sizeLine_eq1 := PySem.sizeLine_eq; simp only [List.length_map]; omega) | (have sizeLine_eq' := PySem.sizeLine_eq; omega) | (simp; done) | rfl)
local macro_rules | `(tactic| walk_at "size") => `(tactic| ((show _ ≤ 16777216); exact Nat.le_of_ble_eq_true rfl))
local macro_rules | `(tactic| walk_at "sh") => `(tactic| first
  | exact DL.sh_int
  | exact DL.sh_bl
  | exact DL.sh_non
  | exact DL.sh_str (by decide +kernel)
  | exact DL.shA_nil
  | assumption
  | (refine DL.sh_of ?_; walk_at "sh")
  | (refine DL.shA_map ?_; intro _; walk_at "sh")
  | (refine DL.shA_cons ?_ ?_ <;> walk_at "sh")
  | (refine DL.shA_app ?_ ?_ <;> walk_at "sh")
  | (refine DL.sh_tup ?_; walk_at "sh")
  | (refine DL.sh_lst ?_; walk_at "sh"))
namespace K87
open PySem PySem.Spec L2 DL
section
variable {P : Program} {w : World} {K : PySem.W.Frag} {mg : Str → Option Value} {base : Heap}
abbrev s_lpot : Stmt := top 66
abbrev N_lpot : List Str := ["script", "cells", "stirred", "cell"]
theorem sc_lpot : FnScope N_lpot ["script"] (defScope s_lpot) := ⟨rfl, rfl, rfl, by decide +kernel, rfl, by decide +kernel, by decide +kernel⟩
def spPot (K : PySem.W.Frag) : Sp := fun vs H Q _ => ∃ (a : Addr) (ns : List Int), vs = [.ref a] ∧ SqL K H a (ns.map V.int) ∧ ns.length ≤ 63 ∧ (∀ z ∈ ns, Builtin.Int.intBits z ≤ 1048576) ∧
  ∀ p g H', Same H H' → IsPot H' p g 1000000 → H p = none → H g = none → Q (.ref p) H'
def cellOf (z : Int) : Int := 2 * (if z < 0 then -z else z) + (if decide (z < 0) = true then 1 else 0)
def potSt (s z : Int) : Int := (s * 69069 + z + 13) % 4294967291
theorem bits_lt {z : Int} {k : Nat} (h : Builtin.Int.intBits z ≤ k) : z.natAbs < 2 ^ k := by
  unfold Builtin.Int.intBits at h
  split at h
  · rename_i h0
    have : z.natAbs = 0 := by simpa using h0
    rw [this]; exact Nat.two_pow_pos k
  · exact Nat.lt_of_lt_of_le Nat.lt_log2_self (Nat.pow_le_pow_right (by decide) h)
theorem cell_ok {z : Int} {k : Nat} (h : z.natAbs < 2 ^ k) : 0 ≤ cellOf z ∧ (cellOf z).natAbs < 2 ^ (k + 2) := by
  have h2 : 2 ^ (k + 2) = 4 * 2 ^ k := by rw [Nat.pow_succ, Nat.pow_succ]; omega
  have h1 : 1 ≤ 2 ^ k := Nat.two_pow_pos k
  rw [h2]
  unfold cellOf
  by_cases hz : z < 0
  · rw [if_pos hz, if_pos (decide_eq_true hz)]; omega
  · rw [if_neg hz, if_neg (by simp; omega)]; omega
theorem pf_abs {X : Cx} {r : Ro} {e : Expr} {p pos : Pos} {i : Int} (h : PE X e (tP X.K r (.int i))) (hg : Gl X "abs") (hm : X.mg "abs" = none) (hs : starEach [e] X.env = (false, eval e X.env) :: starEach [] X.env := by rfl) (hpl : (backTo pos (starEach [] X.env)).any (·.1) = false := by rfl) :
    PE X (.Call (.Name "abs" p) [e] [] pos) (tF X.K r (.int (if i < 0 then -i else i))) :=
  PE.imp (pe_callB call_abs hg hm (by decide +kernel) (pa_cons h pa_nil hs) (he := hs) (hpl := hpl)) fun _ H _ ⟨he, k⟩ => ⟨he, fun x H1 B s o => by
    rw [o.int_inv]
    exact ⟨i, rfl, k _ H1 [] s (.int _) List.nodup_nil fun _ q => by cases q⟩⟩
theorem pf_powI {X : Cx} {r : Ro} {a b : Expr} {pos : Pos} {i j : Int} (ha : PE X a (tP X.K r (.int i))) (hb : PE X b (tP X.K r (.int j))) (hc : CPow i j) : PE X (.BinOp a .Pow b pos) (tF X.K r (.int (i ^ j.toNat))) :=
  pf_op (v := .int (i ^ j.toNat)) op_pow ha hb (fun _ _ _ _ _ o1 o2 _ q => by cases o1; cases o2; exact ⟨_, _, rfl, rfl, hc, q⟩) (.int _)
theorem pot_fold : ∀ (cs : List Int) (s : Int), 0 ≤ s ∧ s < 4294967291 → 0 ≤ cs.foldl potSt s ∧ cs.foldl potSt s < 4294967291
  | [], s, h => h
  | c :: cs, s, h => by
    rw [List.foldl_cons]
    refine pot_fold cs _ ?_
    unfold potSt
    exact ⟨Int.emod_nonneg _ (by decide), Int.emod_lt_of_pos _ (by decide)⟩
theorem ok_pot (T : Txt mg) {f : Addr} {fd : FuncData} (F : Fun K "_law_pot" "_law_pot" s_lpot f fd) : FnOk P w K mg base CX0 1 f fd ["script"] (spPot K) := by
  refine F.ok sc_lpot (fun vs H Q E ⟨a, ns, h, _⟩ => by rw [h]; rfl) fun cdv A outer s H vs Q E hr ⟨a, ns, hv, hS, hl, hb, q⟩ => ?_
  subst hv
  have hz := PySem.sizeLine_eq
  have hu := hr.units
  let X : Cx := (cxOf CX0 P w K mg base N_lpot "_law_pot" (defScope s_lpot) f cdv A outer s H E).nox
  let r0 : Ro := [none, none, none, none]
  let cs : List Int := (ns.take 61).map cellOf
  let st0 : Int := 19599 + 3 * ((ns.map V.int).length : Int)
  have S1 : PS X ((defBody s_lpot).getD 0 (.Pass ⟨0, 0, 0, 0⟩)) (tPar 1 2 (tCons (fun σ H Q => Scr K ns σ H ∧ tF K r0 (.list ((ns.take 61).map fun z => PyData.int (cellOf z))) σ H Q) (tCons (fun σ H Q => Scr K ns σ H ∧ Q (.int (19599 + 3 * ((ns.map V.int).length : Int))) H) tNil))) :=
    ps_par (X := X) rfl sc_lpot.nd rfl rfl (by decide) rfl rfl (pa_cons (pf_lcQ (X := X) (Pre := Scr K ns) (r := r0) (l := ns.take 61) (f := PyData.int) (g := fun z => PyData.int (cellOf z)) (r' := fun z => [none, none, none, some (.int z)]) (own := [("cell", 3)]) rfl sc_lpot.nd (pi_scr (pv 0) (by omega)) (blkOk_by (own := [("cell", 3)]) (N := N_lpot) (sc := defScope s_lpot) (by decide +kernel))
      (fun _ _ _ _ _ a1 ha1 => gd_name (pg_name (i := 3) sc_lpot.nd rfl (by walk_at "loc")))
      (fun _ _ _ _ _ a1 ha1 => pf_add (toP (pf_mul (toP pf_int) (toP (pf_abs (pp_var 3 (pv 3)) rfl T.abs)) (.inl ⟨by decide, by decide⟩))) (toP (pf_intB (toP (pf_c c_lt (pp_var 3 (pv 3)) (toP pf_int))) rfl T.int))))
      (pa_cons (PE.imp (pe_op op_add pe_int (pe_op op_mul pe_int (pe_callB call_len_seq rfl T.len PySem.boot_len (pa_cons (pv 0) pa_nil)))) fun σ H Q ⟨⟨a, h0, hS⟩, k⟩ => ⟨_, h0, a, _, rfl, .inl hS, 3, _, rfl, rfl, .inl ⟨by decide, by decide⟩, 19599, _, rfl, rfl, k⟩) pa_nil)) rfl
  have hst0 : 0 ≤ st0 ∧ st0 < 4294967291 := by
    have : (ns.map V.int).length = ns.length := List.length_map _
    show 0 ≤ 19599 + 3 * ((ns.map V.int).length : Int) ∧ _
    omega
  have S2 : PS X ((defBody s_lpot).getD 1 (.Pass ⟨0, 0, 0, 0⟩)) (tS K 0 [.un, .ow (.list (cs.map .int)), .ow (.int st0), .un] (fun m1 ρ1 => m1 = 0 ∧ ρ1 = [.un, .sh (.list (cs.map .int)), .ow (.int (cs.foldl potSt st0)), .un]) (fun _ _ => False)) := by
    refine ds_freeze 1 (PS.post (ds_foldS (l := cs) (f := PyData.int) [3] 1 2 (fun s : Int => .int s) potSt st0 PassesOwn.never rfl (pi_list (pv 1)) rfl (fun _ _ => imm_int) rfl rfl ?_) fun m1 ρ1 h => h)
    rintro pre1 a1 post1 hl1
    have hin : 0 ≤ pre1.foldl potSt st0 ∧ pre1.foldl potSt st0 < 4294967291 := pot_fold pre1 st0 hst0
    generalize pre1.foldl potSt st0 = s1 at hin ⊢
    refine ⟨_, gst_name (pg_name (i := 3) sc_lpot.nd rfl (by walk_at "loc")), ?_⟩
    refine dss_seq (ds_set 2 sc_lpot.nd rfl (by walk_at "loc") (pf_mod (toP (pf_intI (toP (pf_add (toP (pf_add (toP (pf_mul (pp_var 2 (pv 2)) (toP pf_int) (.inr ⟨by decide, by decide⟩))) (pp_var 3 (pv 3)))) (toP pf_int))) rfl T.int)) (toP pf_int) (by decide))) ?_
    rintro _ _ ⟨rfl, rfl⟩
    exact dss_nil (.keep (.keep (.keep (.drop .nil)))) ⟨rfl, _, rfl, rfl⟩
  let gs : List Int := cs.filter fun z => decide (10 ^ (16 : Int).toNat ≤ z)
  let r2 : Ro := [none, some (.list (cs.map .int)), some (.int (cs.foldl potSt st0)), none]
  have S3 : PS X ((defBody s_lpot).getD 2 (.Pass ⟨0, 0, 0, 0⟩)) (tRet (tDisp [(tC (.str "great"), tF K r2 (.list ((cs.filter fun z => decide (10 ^ (16 : Int).toNat ≤ z)).map .int))), (tC (.str "stirred"), tP K r2 (.int (cs.foldl potSt st0))), (tC (.str "turn"), tC (.int 0))])) :=
    ps_ret (pe_disp (pps_cons pe_str (pf_lcIf (X := X) (l := cs) (f := PyData.int) (g := PyData.int) (q := fun z => decide (10 ^ (16 : Int).toNat ≤ z)) (r' := fun z => [none, some (.list (cs.map .int)), some (.int (cs.foldl potSt st0)), some (.int z)]) (own := [("cell", 3)]) rfl sc_lpot.nd (pi_lstD (pp_var 1 (pv 1))) (blkOk_by (own := [("cell", 3)]) (N := N_lpot) (sc := defScope s_lpot) (by decide +kernel))
      (fun _ _ _ _ _ a1 ha1 => gd_name (pg_name (i := 3) sc_lpot.nd rfl (by walk_at "loc"))) (fun _ _ _ _ _ a1 ha1 => pts_one (pt_c c_ge (pp_var 3 (pv 3)) (toP (pf_powI (toP pf_int) (toP pf_int) ⟨by decide, by decide, by decide⟩)))) (fun _ _ _ _ _ a1 ha1 _ => toF (pp_var 3 (pv 3)) (by walk_at "imm")))
      (pps_cons pe_str (pp_var 2 (pv 2)) (pps_cons pe_str pe_int pps_nil))) rfl rfl (by simp) (Nat.le_of_ble_eq_true rfl))
  refine ⟨_, pss_cons S1 (pss_cons S2 (pss_one S3)), ?_⟩
  have E0 : EnvP K H (L2.start N_lpot [.ref a]) r0 := ⟨rfl, fun i d h => by
    rcases i with _ | _ | _ | _ | i <;> simp [r0] at h⟩
  refine ⟨⟨a, rfl, hS⟩, E0, fun x H1 B s1 o1 n1 f1 => ⟨⟨a, rfl, s1.seq hS⟩, _, _, rfl, ?_⟩⟩
  have en0 : DL.Env K ef0 0 H H (L2.start N_lpot [.ref a]) [.un, .un, .un, .un] [] := ⟨.un (.un (.un (.un .nil))), List.nodup_nil, (fun _ z => by cases z), (fun _ z => by cases z), .refl H, ⟨(fun _ _ z => by cases z), (fun _ z => by cases z)⟩⟩
  have ecs : PyData.list ((ns.take 61).map fun z => PyData.int (cellOf z)) = .list (cs.map .int) := by
    show _ = PyData.list (((ns.take 61).map cellOf).map .int)
    rw [List.map_map]; rfl
  rw [ecs] at o1
  obtain ⟨A1, en1⟩ := en0.set s1 (i := 1) (by decide) o1 n1 f1
  obtain ⟨A2, en2⟩ := en1.set (Same.refl H1) (i := 2) (show 2 < 4 by decide) (Own.int st0) List.nodup_nil (fun _ z => by cases z)
  refine ⟨ef0, H, A2, en2, (fun He' σ' H' m' ρ' A' kk en hn => ?_), (fun _ _ _ _ _ _ _ _ _ _ z => z.elim)⟩
  obtain ⟨rfl, rfl⟩ := hn
  intro p hp
  have s0 := same_new (o := HO.dK []) hp
  have eP : EnvP K H' σ' r2 := en.envP
  refine ⟨eP.same s0, fun g H2 B2 s2 o2 n2 f2 => ⟨(eP.same s0).same s2, fun y H3 B3 s3 o3 => ?_⟩⟩
  obtain ⟨g0, xs, C, rfl, hg, ol, hgz, rfl⟩ := o2.lst_inv
  have hx := ol.ints_inv
  subst hx
  have hy := o3.int_inv
  subst hy
  have e3 := s3 _ _ (s2 _ _ (upd_same (H := H') (a := p) (o := HO.dK [])))
  have hpg : p ≠ g0 := fun z => by
    have := f2 g0 List.mem_cons_self
    rw [← z, upd_same] at this; cases this
  have sH : Same H H' := (kk.trans en.kp).same
  refine ⟨e3, [(.inr "great", .ref g0), (.inr "stirred", .int (cs.foldl potSt st0)), (.inr "turn", .int 0)], rfl, (show 3 ≤ 15 by decide), ?_⟩
  refine q p g0 _ ?_ ⟨gs, cs.foldl potSt st0, 0, ?_, ?_, ?_, ?_, ?_, ?_, ?_, ?_⟩ (sH.free hp) ?_
  · intro b u hb
    have h1 := sH b u hb
    rw [upd_ne (ne_of_none h1 hp)]
    exact s3 _ _ (s2 _ _ (s0 _ _ h1))
  · rw [upd_same]; rfl
  · rw [upd_ne (Ne.symm hpg)]
    exact s3 _ _ hg
  · show (cs.filter _).length ≤ 64
    have h1 := List.length_filter_le (fun z => decide (10 ^ (16 : Int).toNat ≤ z)) cs
    have h2 : cs.length ≤ 61 := by show ((ns.take 61).map cellOf).length ≤ 61; rw [List.length_map, List.length_take]; omega
    omega
  · intro c hc
    have hc' : c ∈ (ns.take 61).map cellOf := (List.mem_filter.mp hc).1
    obtain ⟨z, hz', rfl⟩ := List.mem_map.mp hc'
    have h1 := cell_ok (bits_lt (hb z (List.mem_of_mem_take hz')))
    exact ⟨h1.1, Nat.lt_of_lt_of_le h1.2 (Nat.pow_le_pow_right (n := 2) (Nat.zero_lt_succ 1) (show 1048576 + 2 ≤ 1100000 by decide))⟩
  · exact (pot_fold cs st0 hst0).1
  · have := (pot_fold cs st0 hst0).2
    omega
  · decide
  · decide
  · exact sH.free (s0.free (f2 g0 List.mem_cons_self))
end
end K87
end
section
set_option Elab.async false
set_option linter.all false
set_option maxRecDepth 100000
set_option maxHeartbeats 4000000
local macro_rules | `(tactic| walk_at "imm") => `(tactic| first
  | exact DL.imm_int
  | exact DL.imm_str
  | exact DL.imm_non
  | exact DL.imm_bl
  | exact DL.imm_nt
  | exact DL.immAll_nil
  | assumption
  | (refine DL.immAll_map ?_; intro _; walk_at "imm")
  | (refine DL.immAll_cons ?_ ?_ <;> walk_at "imm")
  | (refine DL.immAll_append ?_ ?_ <;> walk_at "imm")
  | (refine DL.immAll_rep ?_; walk_at "imm")
  | (refine DL.immAll_mem ?_; walk_at "imm")
  | (intro _ _; walk_at "imm")
  | (refine ⟨?_, ?_⟩ <;> walk_at "imm")
  | (refine DL.immT ?_; assumption))
local macro_rules | `(tactic| walk_at "hu") => `(tactic| exact L2.Room.units (by assumption))
local macro_rules | `(tactic| walk_at "loc") => `(tactic| first | exact Or.inl rfl | exact Or.inr rfl)
local macro_rules | `(tactic| walk_at "room") => `(tactic| first | assumption | exact L2.Room.mono (by assumption) (by decide))
local macro_rules | `(tactic| walk_at "side") => `(tactic| first | assumption | omega | (unfold L2.CMul; omega) | (unfold L2.CDiv; omega) | (have sizeLine_eq1 := PySem.sizeLine_eq; simp only [List.length_map]; omega) | (have sizeLine_eq' := PySem.sizeLine_eq; omega) | (simp; done) | rfl)
local macro_rules | `(tactic| walk_at "size") => `(tactic| ((show _ ≤ 16777216); exact Nat.le_of_ble_eq_true rfl))
local macro_rules | `(tactic| walk_at "sh") => `(tactic| first
  | exact DL.sh_int
  | exact DL.sh_bl
  | exact DL.sh_non
  | exact DL.sh_str (by decide +kernel)
  | exact DL.shA_nil
  | assumption
  | (refine DL.sh_of ?_; walk_at "sh")
  | (refine DL.shA_map ?_; intro _; walk_at "sh")
  | (refine DL.shA_cons ?_ ?_ <;> walk_at "sh")
  | (refine DL.shA_app ?_ ?_ <;> walk_at "sh")
  | (refine DL.sh_tup ?_; walk_at "sh")
  | (refine DL.sh_lst ?_; walk_at "sh"))
namespace K87
open PySem PySem.Spec L2 DL
section
variable {P : Program} {w : World} {K : PySem.W.Frag} {mg : Str → Option Value} {base : Heap}
def spLaw (K : PySem.W.Frag) (P0 : Addr) : Sp := fun vs H Q _ => ∃ (a : Addr) (ns : List Int), vs = [.ref a] ∧ SqL K H a (ns.map V.int) ∧ ns.length ≤ 63 ∧ (∀ z ∈ ns, Builtin.Int.intBits z ≤ 1048576) ∧ LamX.Tabs [(P0, qLam)] H ∧ ∀ H', Q (.bl true) H'
theorem ok_law (T : Txt mg) {P0 : Addr} (G : LawG P w K mg base P0) {fp : Addr} {fdp : FuncData} (Ap : At K mg "_law_pot" fp fdp ["script"]) (Gp : FnOk P w K mg base CX0 1 fp fdp ["script"] (spPot K)) {f : Addr} {fd : FuncData} (F : Fun K "law" "law" s_law f fd) :
    FnG P w K mg base CX0 7 f fd ["script"] (spLaw K P0) := by
  refine FnG.of F sc_law (fun vs H Q E ⟨a, ns, h, _⟩ => by rw [h]; rfl) fun cdv A outer s H vs Q E hgu hr ⟨a, ns, hv, hS, hl, hb, hT, q⟩ => ?_
  subst hv
  have S1 : PS (lawCx P w K mg base f cdv A outer s H E) ((defBody s_law).getD 0 (.Pass ⟨0, 0, 0, 0⟩)) (fun D σ H => (tCall (spPot K) [] E0 (tCons (tVar 0) tNil)) σ H fun x H' => D.nx (σ.set 1 (some x)) H') :=
    PS.imp (ps_set (X := lawCx P w K mg base f cdv A outer s H E) (i := 1) (te := tCall (spPot K) [] E0 (tCons (tVar 0) tNil)) sc_law.nd rfl (.inl rfl) (pe_call (X := lawCx P w K mg base f cdv A outer s H E) Gp (by walk_at "room") rfl Ap.gl Ap.kp Ap.bd .nil pass0 (pa_cons (pv 0) pa_nil))) fun D σ H h => h
  have S2 : PSs (lawCx P w K mg base f cdv A outer s H E) ((defBody s_law).drop 1) (tS K 1000 (.tb [(P0, qLam)] :: .pot :: List.replicate 15 .un) (fun _ _ => False) (fun _ d => d = .bool true)) :=
    law_draws T G hgu hr fun n q p tw tw2 ok => by
      have h5 := law_loop (f := f) (cdv := cdv) (outer := outer) (s := s) (H := H) (E := E) (kept := (PyData.list [dW q tw, dW 2 tw2]).shown) (R := fun _ d => d = PyData.bool true) T G hgu hr ok
      have h6 := law_end (f := f) (cdv := cdv) (outer := outer) (s := s) (H := H) (E := E) (N := fun _ _ => False) T G hgu hr ok
      show PSs _ ((defBody s_law).getD 5 (.Pass ⟨0, 0, 0, 0⟩) :: (defBody s_law).drop 6) _
      refine dss_seq h5 ?_
      rintro _ _ ⟨rfl, rfl⟩
      exact h6
  refine ⟨_, (show PSs _ ((defBody s_law).getD 0 (.Pass ⟨0, 0, 0, 0⟩) :: (defBody s_law).drop 1) _ from pss_cons S1 S2), ?_⟩
  refine ⟨.ref a, rfl, a, ns, rfl, hS, hl, hb, fun p g H' sH hP hp hg => ?_⟩
  refine ⟨⟨some (p, g), some [(P0, qLam)]⟩, H', [], ⟨.tb rfl (.pot rfl (slots_sh 15 .nil fun _ z => by cases z)), List.nodup_nil, (fun _ z => by cases z), (fun _ z => by cases z), .refl H', ⟨fun p' g' e => by cases e; exact hP.mono (by decide), fun T' e => by cases e; exact hT.ext sH⟩⟩, (fun _ _ _ _ _ _ _ _ z => z.elim), fun x H2 m' d B kk pt o nd f e => ?_⟩
  subst e
  rw [o.bl_inv]
  exact q H2
end
end K87
end
section
set_option Elab.async false
set_option linter.all false
set_option maxRecDepth 100000
set_option maxHeartbeats 4000000
namespace K87
open PySem PySem.Spec L2 DL He
def tiAd (K : PySem.W.Frag) : Addr := ma K (ga K "TooMany") "__init__"
abbrev TiV : Type := Option (Str × Str × Arguments × FuncBody × Scope × Addr × Addr)
def tiObs (K : PySem.W.Frag) : TiV := match K.lookup (tiAd K) with
  | some ⟨_, _, .func fd, _⟩ => some (fd.name, fd.qualname, fd.params, fd.body, fd.scope, fd.globals, fd.builtins)
  | _ => none
def tiVal : TiV := some ("__init__", "TooMany.__init__", (F_ti 0 0).params, .stmts (F_ti 0 0).body, (F_ti 0 0).scope, mainGlobals, builtinsNs)
def oneCell : List (Str × Addr) → Addr
  | [(_, c)] => c
  | _ => 0
def refOf : Value → Addr
  | .ref c => c
  | _ => 0
def tiCell (K : PySem.W.Frag) : Addr := match K.lookup (tiAd K) with
  | some ⟨_, _, .func fd, _⟩ => oneCell fd.closure
  | _ => 0
def tiCode (K : PySem.W.Frag) : Addr := match K.lookup (tiAd K) with
  | some ⟨_, _, .func fd, _⟩ => refOf fd.code
  | _ => 0
def tiB (K : PySem.W.Frag) : Bool := match K.lookup (tiAd K) with
  | some ⟨_, _, .func fd, _⟩ => decide (fd.closure = [(("__class__" : Str), oneCell fd.closure)]) && (decide (fd.defaults = .none) && (decide (fd.kwdefaults = .none) && (fd.annotations.isNone && decide (fd.code = .ref (refOf fd.code)))))
  | _ => false
theorem ti_ok {K : PySem.W.Frag} (h1 : tiObs K = tiVal) (h2 : tiB K = true) : ∃ (oc : Value) (od : Option Addr) (doc pm ctv : Value) (osl : Array (Option Value)), K.lookup (tiAd K) = some ⟨oc, od, .func ((F_ti (tiCell K) (tiCode K)).fd doc pm ctv), osl⟩ := by
  unfold tiObs at h1
  unfold tiB at h2
  unfold tiCell tiCode
  cases q : K.lookup (tiAd K) with
  | none => rw [q] at h2; cases h2
  | some o =>
    obtain ⟨oc, od, dt, osl⟩ := o
    rw [q] at h1 h2
    cases dt with
    | func fd =>
      obtain ⟨n1, n2, n3, n4, n5, n6, n7, n8, n9, n10, n11, n12, n13, n14, n15⟩ := fd
      obtain ⟨a1, h2⟩ := ba h2
      obtain ⟨a2, h2⟩ := ba h2
      obtain ⟨a3, h2⟩ := ba h2
      obtain ⟨a4, a5⟩ := ba h2
      have e1 := of_decide_eq_true a1
      have e2 := of_decide_eq_true a2
      have e3 := of_decide_eq_true a3
      have e4 := Option.isNone_iff_eq_none.mp a4
      have e5 := of_decide_eq_true a5
      have e6 : (some (n1, n2, n3, n4, n5, n6, n15) : TiV) = some (("__init__" : Str), ("TooMany.__init__" : Str), (F_ti 0 0).params, FuncBody.stmts (F_ti 0 0).body, (F_ti 0 0).scope, mainGlobals, builtinsNs) := h1
      simp only [Option.some.injEq, Prod.mk.injEq] at e6
      obtain ⟨b1, b2, b3, b4, b5, b6, b7⟩ := e6
      have e1' : n7 = [(("__class__" : Str), oneCell n7)] := e1
      have e2' : n8 = .none := e2
      have e3' : n9 = .none := e3
      have e4' : n12 = none := e4
      have e5' : n13 = .ref (refOf n13) := e5
      subst b1 b2 b3 b4 b5 b6 b7 e2' e3' e4'
      refine ⟨oc, od, n10, n11, n14, osl, ?_⟩
      show some _ = some _
      rw [show (F_ti (oneCell n7) (refOf n13)).fd n10 n11 n14 = PySem.W.fnX "__init__" "TooMany.__init__" (F_ti 0 0).params (F_ti 0 0).body (F_ti 0 0).scope [(("__class__" : Str), oneCell n7)] .none .none n10 n11 none (.ref (refOf n13)) n14 from rfl, ← e1', ← e5']
    | _ => cases h2
def excB (K : PySem.W.Frag) (C : Addr) : Bool := match K.lookup C with
  | some ⟨.type "type", _, .cls cd, sl⟩ => (match cd.mro, sl.toList with
    | .ref C' :: bm, [_, _, _, _, some (.builtin n), _] => C' == C && n == "ValueError.__new__" && !cd.hasDel && PySem.HandSPX.refsVE bm && cd.hasDict
    | _, _ => false)
  | _ => false
theorem excB_ok {K : PySem.W.Frag} {C : Addr} (q : excB K C = true) : ∃ nm q N bs bm sn sub ab col dd k0 k1 k2 k3 k5, K.lookup C = some (excClassObj nm q C N bs bm true sn sub ab col dd k0 k1 k2 k3 k5 "ValueError.__new__") ∧ PySem.HandSPX.refsVE bm = true := by
  unfold excB at q
  split at q
  · rename_i dd cd sl ho
    split at q
    · rename_i C' bm k0 k1 k2 k3 n k5 hm hs
      simp only [Bool.and_eq_true, beq_iff_eq, Bool.not_eq_true'] at q
      obtain ⟨⟨⟨⟨rfl, rfl⟩, hdel⟩, hrf⟩, hdc⟩ := q
      obtain ⟨nm, bs, mro, ns, qn, hd, sn, sub, ab, col, del⟩ := cd
      dsimp only at hm hdel hdc
      subst hm hdel hdc
      have hsl : sl = #[k0, k1, k2, k3, some (.builtin "ValueError.__new__"), k5] := by
        obtain ⟨l⟩ := sl
        simp only at hs
        rw [hs]
      subst hsl
      exact ⟨nm, qn, ns, bs, bm, sn, sub, ab, col, dd, k0, k1, k2, k3, k5, ho, hrf⟩
    · cases q
  · cases q
def codeFB (P : Program) (K : PySem.W.Frag) (c : Addr) : Bool := match K.lookup c with
  | some ⟨_, _, .fields vs, _⟩ => (match (vs[2]? : Option Value) with
    | some (.str file _) => (P.main.file : Str) == file
    | _ => false)
  | _ => false
theorem codeFB_ok {P : Program} {K : PySem.W.Frag} {c : Addr} (h : codeFB P K c = true) : ∃ ccl cdd vs ccs file tf, K.lookup c = some ⟨ccl, cdd, .fields vs, ccs⟩ ∧ vs[2]? = some (.str file tf) ∧ ((P.main.file : Str) == file) = true := by
  unfold codeFB at h
  split at h
  · rename_i a b vs d ho
    split at h
    · rename_i file tf hv
      exact ⟨_, _, vs, _, file, tf, ho, hv, h⟩
    · cases h
  · cases h
def cellB (K : PySem.W.Frag) (c C : Addr) : Bool := match K.lookup c with
  | some ⟨_, _, .cell (some (.ref C')), _⟩ => decide (C' = C)
  | _ => false
theorem cellB_ok {K : PySem.W.Frag} {c C : Addr} (h : cellB K c C = true) : ∃ cl cld csl, K.lookup c = some ⟨cl, cld, .cell (some (.ref C)), csl⟩ := by
  unfold cellB at h
  split at h
  · rename_i a b C' d ho
    have e := of_decide_eq_true h
    subst e
    exact ⟨_, _, _, ho⟩
  · cases h
def dO (a b : Option Bool) : Bool := decide (a = b)
def exT (P : Program) (K : PySem.W.Frag) : Bool :=
  let C := ga K "TooMany"
  excB K C && (eqO (PySem.W.findIn K (.ref C) "__setattr__") (some (some (.builtin "object.__setattr__"))) && (dO (PySem.W.subIn K (.ref C) (.type "BaseException")) (some true) && (decide (PySem.W.typeIn K (.ref C) = some (.type "type")) && (PySem.W.keepIn K (.ref C)
  && (codeFB P K (tiCode K) && (cellB K (tiCell K) C && (eqO (PySem.W.nsIn K cStatics "thirdparty.any") (some none) && (eqO (PySem.W.ks_superIn K C C "__init__") (some (some (.builtin "ValueError.__init__"))) && (dO (PySem.W.subIn K (.ref C) (.type "ValueError")) (some true) && (dO (PySem.W.mroIn K C (.ref C)) (some true)
  && (!(P.main.scope.names.lookup ("super" : Str)).isSome && (eqO (PySem.W.findIn K (.ref C) "__init__") (some (some (.ref (tiAd K)))) && (decide (PySem.W.typeIn K (.ref (tiAd K)) = some (.type "function")) && (tiB K && (PySem.W.codeIn K (.ref (tiCode K)) "TooMany.__init__" && (eqO (PySem.W.findIn K (.ref C) "limit") (some none)
  && (dO (PySem.W.exmOne K (.ref C) (.ref (ga K "Unfit"))) (some false) && (dO (PySem.W.exmOne K (.ref C) (.ref C)) (some true) && (dO (PySem.W.kitOne K (.ref C) (.ref (ga K "SayError"))) (some true) && (xfB K C && ((PySem.W.clsIn K C).isSome && (eqO (PySem.W.findIn K (.ref C) "__class__") (some (some (.builtin "object.__class__")))
  && (eqO (PySem.W.specialIn K (.builtin "object.__class__") "__get__") (some (some (.builtin "getset_descriptor.__get__"))) && (dO (PySem.W.takesIn K (.builtin "object.__class__")) (some true) && dO (PySem.W.mroIn K C (.type "object")) (some true)))))))))))))))))))))))))
theorem err_of {P : Program} {K : PySem.W.Frag} {mg : Str → Option Value} (ho : tiObs K = tiVal) (h : exT P K = true) (m1 : mg "TooMany" = some (.ref (ga K "TooMany"))) (m2 : mg "Unfit" = some (.ref (ga K "Unfit"))) (m3 : mg "SayError" = some (.ref (ga K "SayError"))) (m4 : mg "super" = none) :
    Err P K mg (ga K "TooMany") (tiAd K) (tiCode K) (tiCell K) ∧ Err2 K mg (ga K "SayError") (ga K "Unfit") (ga K "TooMany") := by
  obtain ⟨a1, h⟩ := ba h
  obtain ⟨a2, h⟩ := ba h
  obtain ⟨a3, h⟩ := ba h
  obtain ⟨a4, h⟩ := ba h
  obtain ⟨a5, h⟩ := ba h
  obtain ⟨a6, h⟩ := ba h
  obtain ⟨a7, h⟩ := ba h
  obtain ⟨a8, h⟩ := ba h
  obtain ⟨a9, h⟩ := ba h
  obtain ⟨a10, h⟩ := ba h
  obtain ⟨a11, h⟩ := ba h
  obtain ⟨a12, h⟩ := ba h
  obtain ⟨a13, h⟩ := ba h
  obtain ⟨a14, h⟩ := ba h
  obtain ⟨a15, h⟩ := ba h
  obtain ⟨a16, h⟩ := ba h
  obtain ⟨a17, h⟩ := ba h
  obtain ⟨a18, h⟩ := ba h
  obtain ⟨a19, h⟩ := ba h
  obtain ⟨a20, h⟩ := ba h
  obtain ⟨a21, h⟩ := ba h
  obtain ⟨a22, h⟩ := ba h
  obtain ⟨a23, h⟩ := ba h
  obtain ⟨a24, h⟩ := ba h
  obtain ⟨a25, a26⟩ := ba h
  have oex : OexC K (ga K "TooMany") := ⟨excB_ok a1, eqO_ok a2, of_decide_eq_true a3, of_decide_eq_true a4, a5⟩
  have xf := xfB_ok a21
  refine ⟨⟨⟨oex, codeFB_ok a6, cellB_ok a7, eqO_ok a8, eqO_ok a9, of_decide_eq_true a10, of_decide_eq_true a11, by simpa using a12, m4⟩, eqO_ok a13, of_decide_eq_true a14, ti_ok ho a15, a16, eqO_ok a17, m1⟩,
    ⟨m2, m1, m3, of_decide_eq_true a18, of_decide_eq_true a19, of_decide_eq_true a20, eqO_ok a17, xf, ⟨a22, xf.ga, xf.gg, xf.exC, eqO_ok a23, eqO_ok a24, of_decide_eq_true a25, of_decide_eq_true a26⟩⟩⟩
def asY (g : Addr → Option Obj) (n : Nat) : List Addr := cStatics :: asD g n
structure SaysY (P : Program) (fa : List Fa) (fn : List DefD) (tf : List Defn) (h : Heap) (K : PySem.W.Frag) : Prop where
  d : SaysD fa fn K
  ti : tiObs K = tiVal
  more : exT P K = true
  hd : ∀ p ∈ tf, PySem.W.codeHdIn K (cT K p).1 (cT K p).2 = true
  out : ∀ p ∈ tf, K.lookup (cT K p).2 = none
  empty : ∀ p ∈ tf, h.get? (cT K p).2 = some { cls := .none, data := .fields #[] }
abbrev AlY : Type := AlD × TiV × Bool
def obsY (P : Program) (n : Nat) (fa : List Fa) (fn : List DefD) (tf : List Defn) (g : Addr → Option Obj) : AlY := (obsD fa fn (frT g (asY g n)), tiObs (frT g (asY g n)), exT P (frT g (asY g n)) && tabsB g tf (frT g (asY g n)))
theorem saysY_of {P : Program} {n : Nat} {fa : List Fa} {fn : List DefD} {tf : List Defn} {h : Heap} (e : obsY P n fa fn tf h.get? = (valD fn, tiVal, true)) : SaysY P fa fn tf h (frT h.get? (asY h.get? n)) := by
  have e1 : obsD fa fn (frT h.get? (asY h.get? n)) = valD fn := congrArg (fun z : AlY => z.1) e
  have e2 : tiObs (frT h.get? (asY h.get? n)) = tiVal := congrArg (fun z : AlY => z.2.1) e
  have e3 : (exT P (frT h.get? (asY h.get? n)) && tabsB h.get? tf (frT h.get? (asY h.get? n))) = true := congrArg (fun z : AlY => z.2.2) e
  obtain ⟨h1, h2⟩ := ba e3
  have key : ∀ p ∈ tf, PySem.W.codeHdIn (frT h.get? (asY h.get? n)) (cT (frT h.get? (asY h.get? n)) p).1 (cT (frT h.get? (asY h.get? n)) p).2 = true ∧ ∃ o, h.get? (cT (frT h.get? (asY h.get? n)) p).2 = some o ∧ emptyTab o = true := fun p hp => by
    obtain ⟨h3, h4⟩ := ba (List.all_eq_true.mp h2 p hp)
    refine ⟨h3, ?_⟩
    split at h4
    · rename_i o q; exact ⟨o, q, h4⟩
    · cases h4
  exact ⟨e1, e2, h1, fun p hp => (key p hp).1, fun p hp => let ⟨_, _, q, z⟩ := key p hp; frT_none q z, fun p hp => by
    obtain ⟨_, o, q, z⟩ := key p hp
    rw [q, emptyTab_eq z]⟩
def hookY (P : Program) (n : Nat) (fa : List Fa) (fn : List DefD) (tf : List Defn) : PySem.W.Hook where
  α := AlY
  obs := fun s => obsY P n fa fn tf s.heap.get?
  val := fun _ => (valD fn, tiVal, true)
  says := fun _ h => ∃ K : PySem.W.Frag, K.In h ∧ SaysY P fa fn tf h K
  of := fun _ _ e => ⟨_, frT_in, saysY_of e⟩
  keeps := fun _ _ _ ⟨K, hK, c⟩ k => ⟨K, PySem.W.Frag.In.keeps hK k, ⟨c.d, c.ti, c.more, c.hd, c.out, fun p hp => k _ _ (c.empty p hp)⟩⟩
theorem obsY_eq {P : Program} {n : Nat} {fa : List Fa} {fn : List DefD} {tf : List Defn} {g : Addr → Option Obj} {s : Shared} (h : ∀ a, g a = s.heap.get? a) : obsY P n fa fn tf g = (hookY P n fa fn tf).obs s := by
  have e : g = s.heap.get? := funext h
  rw [e] <;> rfl
theorem fun_of {K : PySem.W.Frag} {x qual : Str} {st : Stmt} {f : Addr} {fd : FuncData} (F : FunD K x qual (defArgs st) (defBody st) (defScope st) [] [] f fd) : Fun K x qual st f fd := by
  obtain ⟨oc, od, dV, kV, doc, pm, an, cdv, ct, osl, rfl, lk, hcd, hD, _⟩ := F.ex
  rcases hD with ⟨_, rfl⟩ | ⟨e, _⟩
  · exact ⟨⟨oc, od, kV, doc, pm, an, cdv, ct, osl, rfl, lk, hcd⟩, F.kp⟩
  · exact absurd rfl e
theorem at_of {K : PySem.W.Frag} {mg : Str → Option Value} {x nm qual : Str} {st : Stmt} {f : Addr} {fd : FuncData} {ps : List Str} (F : Fun K nm qual st f fd) (gl : mg x = some (.ref f))
    (hb : ∀ (kV doc pm : Value) (an : Option Addr) (cdv ct : Value) (us : List Value), us.length = ps.length → bindArgs (PySem.W.fnOf nm qual (defArgs st) (defBody st) (defScope st) .none kV doc pm an cdv ct) ⟨us, []⟩ = pure (ps.zip us))
    (hk : ∀ (kV doc pm : Value) (an : Option Addr) (cdv ct : Value) (ws : List Value), ws.length = ps.length → bindArgs (PySem.W.fnOf nm qual (defArgs st) (defBody st) (defScope st) .none kV doc pm an cdv ct) ⟨[], ps.reverse.zip ws⟩ = pure (ps.zip ws.reverse)) : At K mg x f fd ps := by
  have b := F.binds hb
  have kp := F.kp
  obtain ⟨oc, od, kV, doc, pm, an, cdv, ct, osl, rfl, lk, hcd⟩ := F.ex
  exact ⟨gl, kp, b, fun s ws hl => .of_eq (hk kV doc pm an cdv ct ws hl)⟩
end K87
end
section
set_option Elab.async false
set_option linter.all false
set_option maxRecDepth 100000
set_option maxHeartbeats 0
namespace K87
open PySem PySem.W PySem.Calls PyProof.Rows He
abbrev RW : OpenRow := OpenLaw.row PySem.Challenge.rw_eachsaysonce_k87_whole_words_as_programs
abbrev PG : Program := PySem.Challenge.pw_eachsaysonce_k87_whole_words_as_programs
abbrev qv : Program := view RW.prog [85]
def dd (x nm : PySem.Str) (st : Stmt) : DefD := ⟨(x, none), nm, nm, L2.defArgs st, L2.defBody st, L2.defScope st, [], []⟩
def names1 : List PySem.Str := ["MAX_HOLDERS", "MAX_LENGTH", "MAX_STEP", "MAX_TURNS", "__name__", "SayError", "Unfit", "TooMany", "put_together", "word_places", "places_behind", "turn_arrows", "program_of_word", "is_integer", "is_integer_fieldnumbers", "rows_product", "all_rows", "upper_item"]
def names2 : List PySem.Str := ["determinant_row", "determinant", "plain_order", "orders_joined", "order_back", "word_orders", "word_order", "words_joined", "word_back", "turn_behind", "word_led", "is_integer_programs", "is_arrow", "program_error", "arrow_weight", "values_to", "program_value", "need_step"]
def names3 : List PySem.Str := ["upper_of_weights", "stair_of", "unit_matrix", "matrix_turned", "matrix_product", "order_matrix", "order_of_matrix", "turn_matrices", "word_matrix", "states_along", "are_things", "states_error", "lead_numbers", "leading_items", "_law_pot", "_law_draw", "_law_pick", "_law_mixed"]
def names4 : List PySem.Str := ["_law_heard", "_law_rows", "_law_row", "_law_then", "_law_undone", "_law_order", "_law_word", "_law_done", "_law_comes", "_law_weight", "_law_program_value", "_law_matrix", "_law_places", "_law_is_program_right", "_law_are_leads_right"]
def names : List PySem.Str := names1 ++ names2 ++ names3 ++ names4
def fn1 : List DefD := [dd "put_together" "put_together" s_pt, dd "word_places" "word_places" s_wp, dd "places_behind" "places_behind" s_pb, dd "turn_arrows" "turn_arrows" s_ta, dd "program_of_word" "program_of_word" s_pw, dd "is_integer_fieldnumbers" "is_integer" s_isj, dd "rows_product" "rows_product" s_rp, dd "all_rows" "all_rows" s_ar, dd "upper_item" "upper_item" s_ui, dd "determinant_row" "determinant_row" s_dr, dd "determinant" "determinant" s_de, dd "plain_order" "plain_order" s_po, dd "orders_joined" "orders_joined" s_oj, dd "order_back" "order_back" s_ob, dd "word_orders" "word_orders" s_wos, dd "word_order" "word_order" s_wo]
def fn2 : List DefD := [dd "words_joined" "words_joined" s_wj, dd "word_back" "word_back" s_wb, dd "turn_behind" "turn_behind" s_tb, dd "word_led" "word_led" s_wl, dd "is_integer_programs" "is_integer" s_isi, dd "is_arrow" "is_arrow" s_ia, dd "program_error" "program_error" s_pe, dd "arrow_weight" "arrow_weight" s_aw, dd "values_to" "values_to" s_vt, dd "program_value" "program_value" s_pv, dd "need_step" "need_step" s_ns, dd "upper_of_weights" "upper_of_weights" s_uw, dd "stair_of" "stair_of" s_so, dd "unit_matrix" "unit_matrix" s_um, dd "matrix_turned" "matrix_turned" s_mt, dd "matrix_product" "matrix_product" s_mp]
def fn3 : List DefD := [dd "order_matrix" "order_matrix" s_om, dd "order_of_matrix" "order_of_matrix" s_om2, dd "turn_matrices" "turn_matrices" s_tm, dd "word_matrix" "word_matrix" s_wm, dd "states_along" "states_along" s_sa, dd "are_things" "are_things" s_at, dd "states_error" "states_error" s_se, dd "lead_numbers" "lead_numbers" s_ln, dd "leading_items" "leading_items" s_li, dd "_law_pot" "_law_pot" s_lpot, dd "_law_draw" "_law_draw" s_dw, dd "_law_pick" "_law_pick" s_pk, dd "_law_mixed" "_law_mixed" s_mx, dd "_law_heard" "_law_heard" s_lh, dd "_law_rows" "_law_rows" s_lr, dd "_law_row" "_law_row" s_rw]
def fn4 : List DefD := [dd "_law_then" "_law_then" s_lth, dd "_law_undone" "_law_undone" s_lu, dd "_law_order" "_law_order" s_or, dd "_law_word" "_law_word" s_wd, dd "_law_done" "_law_done" s_ld, dd "_law_comes" "_law_comes" s_lc, dd "_law_weight" "_law_weight" s_lw, dd "_law_program_value" "_law_program_value" s_lpv, dd "_law_matrix" "_law_matrix" s_lm, dd "_law_places" "_law_places" s_lp, dd "_law_is_program_right" "_law_is_program_right" s_ip, dd "_law_are_leads_right" "_law_are_leads_right" s_al, dd "law" "law" s_law]
def fn : List DefD := fn1 ++ fn2 ++ fn3 ++ fn4
def fa1 : List Fa := [.glo "put_together", .glo "word_places", .glo "places_behind", .glo "turn_arrows", .glo "program_of_word", .glo "is_integer_fieldnumbers", .glo "rows_product", .glo "all_rows", .glo "upper_item", .glo "determinant_row", .glo "determinant", .glo "plain_order", .glo "orders_joined", .glo "order_back", .glo "word_orders", .glo "word_order", .glo "words_joined", .glo "word_back", .glo "turn_behind", .glo "word_led"]
def fa2 : List Fa := [.glo "is_integer_programs", .glo "is_arrow", .glo "program_error", .glo "arrow_weight", .glo "values_to", .glo "program_value", .glo "need_step", .glo "upper_of_weights", .glo "stair_of", .glo "unit_matrix", .glo "matrix_turned", .glo "matrix_product", .glo "order_matrix", .glo "order_of_matrix", .glo "turn_matrices", .glo "word_matrix", .glo "states_along", .glo "are_things", .glo "states_error", .glo "lead_numbers"]
def fa3 : List Fa := [.glo "leading_items", .glo "_law_pot", .glo "_law_draw", .glo "_law_pick", .glo "_law_mixed", .glo "_law_heard", .glo "_law_rows", .glo "_law_row", .glo "_law_then", .glo "_law_undone", .glo "_law_order", .glo "_law_word", .glo "_law_done", .glo "_law_comes", .glo "_law_weight", .glo "_law_program_value", .glo "_law_matrix", .glo "_law_places", .glo "_law_is_program_right", .glo "_law_are_leads_right"]
def fa4 : List Fa := [.glo "law", .glo "SayError", .glo "Unfit", .glo "TooMany", .free "tuple", .free "list", .free "len", .free "range", .free "sum", .free "all", .free "int", .free "isinstance", .free "bool", .free "sorted", .free "set", .free "zip", .free "enumerate", .free "repr", .free "abs", .free "super"]
def fa5 : List Fa := [.int "MAX_HOLDERS" 6, .int "MAX_LENGTH" 40, .int "MAX_STEP" 8, .int "MAX_TURNS" 1024]
def fa : List Fa := fa1 ++ fa2 ++ fa3 ++ fa4 ++ fa5
def tf : List Defn := [("_law_is_program_right", none)]
abbrev hk : PySem.W.Hook := hookY PG 7 fa fn tf
def ob (s : PySem.W.SharedT) : AlY := obsY PG 7 fa fn tf (HandSHeadRun.getT s)
theorem ob_eq (s : PySem.W.SharedT) : ob s = hk.obs s.abs := obsY_eq (HandSHeadRun.getT_eq s)
theorem run (w : World) : HandSHeadRun.RunEq RW qv hk ob 8000 names w := by
  intro os
  kernel_rfl
end K87
end
section
set_option Elab.async false
set_option linter.all false
set_option maxRecDepth 100000
set_option maxHeartbeats 4000000
namespace DL
open PySem PySem.Spec PyProof.Rows LamX
section
variable {P : Program} {w : World} {K : PySem.W.Frag} {mg mb : Str → Option Value} {k : Nat} {fa a c0 P0 : Addr} {fd : FuncData} {x : Str} {sp : L2.Sp} {s₁ : Shared} {vs : List Value} {ns : List Int}
structure Trk (K : PySem.W.Frag) (vs : List Value) (ns : List Int) (a P0 : Addr) (H : L2.Hp) : Prop where
  tab : H P0 = some (.tbl #[])
  scr : L2.SqL K H a (ns.map L2.V.int)
  only : ∀ b u, H b = some u → (b = P0 ∧ u = .tbl #[]) ∨ (b = a ∧ K.lookup a = none ∧ u = .frz { cls := .type "list", data := .seq vs.toArray } (.lst (ns.map L2.V.int)))
theorem trk_made (nT : P0 ≠ a) (hz : ns.length ≤ sizeLine) (rv : L2.Vals (ns.map L2.V.int) vs) (hv : vs.length = ns.length) (hk : ∀ o, K.lookup a = some o → o = { cls := .type "list", data := .seq vs.toArray }) : ∃ H : L2.Hp, Trk K vs ns a P0 H := by
  cases q : K.lookup a with
  | some o =>
    have e := hk o q
    subst e
    refine ⟨fun b => if b = P0 then some (.tbl #[]) else none, if_pos rfl, .inr ⟨_, vs.toArray, _, q, rfl, rfl, rfl, by rw [List.size_toArray, hv]; exact hz, by simpa using rv⟩, fun b u h => ?_⟩
    by_cases hb : b = P0
    · have h1 : some (L2.HO.tbl #[]) = some u := (if_pos hb).symm.trans h
      cases h1
      exact .inl ⟨hb, rfl⟩
    · have h1 : none = some u := (if_neg hb).symm.trans h
      cases h1
  | none =>
    refine ⟨fun b => if b = a then some (.frz { cls := .type "list", data := .seq vs.toArray } (.lst (ns.map L2.V.int))) else if b = P0 then some (.tbl #[]) else none, (if_neg nT).trans (if_pos rfl), .inl (.inr ⟨_, if_pos rfl⟩), fun b u h => ?_⟩
    by_cases hb : b = a
    · have h1 : some _ = some u := (if_pos hb).symm.trans h
      cases h1
      exact .inr ⟨hb, q, rfl⟩
    · have h1 := (if_neg hb).symm.trans h
      by_cases hp : b = P0
      · have h2 : some (L2.HO.tbl #[]) = some u := (if_pos hp).symm.trans h1
        cases h2
        exact .inl ⟨hp, rfl⟩
      · have h2 : none = some u := (if_neg hp).symm.trans h1
        cases h2
theorem law_callG (KX : K.In s₁.heap) (hns : s₁.heap.Ns mainGlobals mg) (hb : s₁.heap.Ns builtinsNs mb) (hbb : ∀ x : Str, x ≠ "__name__" → mb x = bootBuiltins x) (hlim : s₁.heap.NoLimit) (hg : s₁.gens = #[])
    (hT : s₁.heap.get? P0 = some { cls := .none, data := .fields #[] }) (nT : K.lookup P0 = none) (C : PySem.W.CodeHd s₁.heap c0 P0)
    (hbm : ∃ (bm : Addr) (ob : Obj), mg "__builtins__" = some (.ref bm) ∧ bm ≠ builtinsNs ∧ s₁.heap.get? bm = some ob ∧ ob.cls = .type "module" ∧ ob.dict = some builtinsNs ∧ ob.data = .plain)
    (ha : s₁.heap.get? a = some { cls := .type "list", data := .seq vs.toArray }) (hi : IntsAre vs ns) (hl : ns.length ≤ sizeLine) (hr : L2.Room k callerA)
    (F : ∀ base : Heap, K.In base → base.Ns mainGlobals mg → TabB base mg c0 P0 → FnG P w K mg base L2.CX0 k fa fd [x] sp) (hbind : ∀ (s : Shared) (u : Value), BindsTo s fd ⟨[u], []⟩ [(x, u)])
    (hsp : ∀ H : L2.Hp, H P0 = some (.tbl #[]) → L2.SqL K H a (ns.map L2.V.int) → sp [.ref a] H (fun v _ => v = .bl true) fun _ _ _ => False) :
    codeAny (model P w) callerA (.call (.ref fa) ⟨[.ref a], []⟩) (fun r s' => r = .ok (.ret (.bool true)) ∧ OldK s₁.heap s'.heap ∧ s'.os = s₁.os ∧ AllBare s'.gens) s₁ := by
  have rv := L2.vals_ints hi
  have aT : P0 ≠ a := fun z => by
    rw [z, ha] at hT
    have z' : Data.seq vs.toArray _ = Data.fields #[] := congrArg Obj.data (Option.some.inj hT)
    cases z'
  obtain ⟨H, T⟩ := trk_made (K := K) aT hl rv hi.length fun o e => by
    have := KX a o e
    rw [ha] at this
    exact (Option.some.inj this).symm
  have free : ∀ {b : Addr} {o : Obj}, s₁.heap.get? b = some o → (∀ us n, o.data ≠ .seq us n) → o.data ≠ .fields #[] → H b = none := fun {b o} e h1 h2 => by
    cases q : H b with
    | none => rfl
    | some u =>
      rcases T.only b u q with ⟨rfl, _⟩ | ⟨rfl, _, _⟩
      · rw [hT] at e; cases e; exact absurd rfl h2
      · rw [ha] at e; cases e; exact absurd rfl (h1 _ _)
  have dct : ∀ {b : Addr} {m : Str → Option Value}, s₁.heap.Ns b m → (L2.hidT s₁.heap H).Ns b m := fun {b m} ⟨o, es, ep, e, d, r⟩ =>
    ⟨o, es, ep, L2.hidT_get e (free e (fun us n z => by rw [d] at z; cases z) (fun z => by rw [d] at z; cases z)), d, r⟩
  have hKb : K.In (L2.hidT s₁.heap H) := fun b o e => L2.hidT_get (KX b o e) (by
    cases q : H b with
    | none => rfl
    | some u =>
      rcases T.only b u q with ⟨rfl, _⟩ | ⟨rfl, z, _⟩
      · rw [nT] at e; cases e
      · rw [z] at e; cases e)
  have hok : L2.HOk P w H s₁.heap := fun b u e => by
    rcases T.only b u e with ⟨rfl, rfl⟩ | ⟨rfl, _, rfl⟩
    · exact hT
    · exact ⟨ha, by rw [List.length_map]; exact hl, vs, _, rv, ha⟩
  have TB : TabB (L2.hidT s₁.heap H) mg c0 P0 := by
    refine ⟨?_, ?_, fun z => ?_⟩
    · obtain ⟨o, us, file, tf, flags, tg, inF, text, tt, e1, r1, r2, r3, r4, r5, r6, r7, r8, hne⟩ := C
      exact ⟨o, us, file, tf, flags, tg, inF, text, tt, L2.hidT_get e1 (free e1 (fun ws n z => by rw [r2] at z; cases z) (fun z => by rw [r2] at z; cases z; simp at r3)), r1, r2, r3, r4, r5, r6, r7, r8, hne⟩
    · obtain ⟨bm, ob, b1, b2, b3, b4, b5, b6⟩ := hbm
      refine ⟨bm, ob, b1, b2, fun q => ?_, fun q => ?_, L2.hidT_get b3 (free b3 (fun ws n z => by rw [b6] at z; cases z) (fun z => by rw [b6] at z; cases z)), b4, b5, b6⟩
      · obtain ⟨o, es, ep, e, hd, _⟩ := hns
        rw [q, e] at b3
        cases b3
        rw [hd] at b6; cases b6
      · rw [q, hT] at b3
        cases b3
        cases b6
    · obtain ⟨o, es, ep, e, hd, _⟩ := hns
      rw [z, hT] at e
      cases e
      cases hd
  have e0 : L2.Env0 P w K mg (L2.hidT s₁.heap H) callerA [] s₁ H := ⟨rfl, ⟨hKb, dct hns, ⟨mb, dct hb, hbb⟩, let ⟨mc, h1, h2⟩ := hlim; ⟨mc, dct h1, h2⟩⟩, fun b o e => L2.of_hidT e, Nat.le_of_eq (L2.hidT_size _ _), trivial, fun b hb => absurd (show b ∈ ([] : List Addr) from hb) (by simp), hok, .of_eq hg⟩
  refine codeAny_mono ((F _ hKb (dct hns) TB).go callerA [] s₁ H ⟨[.ref a], []⟩ [.ref a] [.ref a] _ _ rfl hr e0 (hbind s₁ (.ref a)) (.cons rfl .nil) (hsp H T.tab T.scr)) fun r s' h => ?_
  cases r with
  | error e => exact False.elim h
  | ok fl =>
    cases fl with
    | next => exact False.elim h
    | brk => exact False.elim h
    | cont => exact False.elim h
    | ret u =>
      obtain ⟨v, H', os, bare, un, hok', r', q⟩ := h
      have q' : v = .bl true := q
      subst q'
      obtain rfl : u = Value.bool true := r'
      have same : ∀ b o, b ≠ P0 → s₁.heap.get? b = some o → s'.heap.get? b = some o := fun b o nb e => by
        cases q : H b with
        | none => exact un.keep b o e q (by intro z; exact absurd (show b ∈ ([] : List Addr) from z) (by simp)) (by simp)
        | some u =>
          rcases T.only b u q with ⟨z, _⟩ | ⟨rfl, _, rfl⟩
          · exact absurd z nb
          · obtain ⟨e1, _⟩ := hok' _ _ (un.frzs _ _ _ q)
            rw [ha] at e
            cases e
            exact e1
      obtain ⟨more, z⟩ := un.tbls P0 #[] T.tab
      have grown : s'.heap.get? P0 = some { cls := .none, data := .fields (#[] ++ more) } := hok' P0 _ z
      refine ⟨rfl, ⟨fun b o e => ?_, fun b o e => ?_⟩, os, bare⟩
      · by_cases hb : b = P0
        · subst hb
          rw [hT] at e
          cases e
          exact .inr (.inl ⟨(C.tab hT).isCodeTable, rfl, #[], more, rfl, grown⟩)
        · exact .inl (same b o hb e)
      · by_cases hb : b = P0
        · subst hb
          exact ⟨_, grown⟩
        · exact ⟨o, same b o hb e⟩
end
theorem walk_G {l : PySem.W.OpenLaw} {n k : Nat} {q : Program} {loose : List Str} {XP : (Str → Option Value) → Heap → Prop} {YP : World → Heap → Prop} {d : DefRec} {x : Str}
    (hn : l.most = some n) (hn2 : n ≤ sizeLine) (hdf : d.params.defaults = []) (hr : L2.Room k callerA)
    (F : ∀ (w : World) (mg : Str → Option Value) (fa : Addr) (h : Heap), YP w h → h.Ns mainGlobals mg → mg d.name = some (.ref fa) → ∃ (K : PySem.W.Frag) (fd : FuncData) (c0 P0 : Addr) (sp : L2.Sp), K.In h ∧
      h.get? P0 = some { cls := .none, data := .fields #[] } ∧ K.lookup P0 = none ∧ PySem.W.CodeHd h c0 P0 ∧ (∀ (s : Shared) (u : Value), BindsTo s fd ⟨[u], []⟩ [(x, u)]) ∧
      (∀ (H : L2.Hp) (a : Addr) (ns : List Int), ns.length ≤ n → (∀ z ∈ ns, Builtin.Int.intBits z ≤ 1048576) → H P0 = some (.tbl #[]) → L2.SqL K H a (ns.map L2.V.int) → sp [.ref a] H (fun v _ => v = .bl true) fun _ _ _ => False) ∧
      ∀ base : Heap, K.In base → base.Ns mainGlobals mg → TabB base mg c0 P0 → FnG l.prog w K mg base L2.CX0 k fa fd [x] sp) :
    PySem.W.WalkO q loose XP YP l.row.toRowW d [] (fun f vs => PySem.call f vs) := by
  refine Att.attach_callB hn hdf fun w s₀ s₁ mg mb fa o pm cd doc a vs ns G Y ho hd hcd hmg hobj hints hlen hbits hg => ?_
  obtain ⟨K, fd, c0, P0, sp, KX, hT, nT, C, hb, hsp, hF⟩ := F w mg fa _ Y G.T.g hmg
  exact law_callG KX G.T.g G.T.b G.T.builtins G.T.nolimit hg hT nT C G.T.bmain hobj hints (Nat.le_trans hlen hn2) hr hF hb fun H h1 h2 => hsp H a ns hlen hbits h1 h2
end DL
end
section
set_option Elab.async false
set_option linter.all false
set_option maxRecDepth 100000
set_option maxHeartbeats 8000000
namespace K87
open PySem PySem.Spec L2 DL He
section
variable {w : World} {K : PySem.W.Frag} {h : Heap} {mg : Str → Option Value} {base : Heap}
theorem txt (X : K.In h) (G : h.Ns mainGlobals mg) (c : SaysY PG fa fn tf h K) : Txt mg where
  tuple := free_ok X G (c.d.fact 64 (f := .free "tuple") rfl)
  list := free_ok X G (c.d.fact 65 (f := .free "list") rfl)
  len := free_ok X G (c.d.fact 66 (f := .free "len") rfl)
  range := free_ok X G (c.d.fact 67 (f := .free "range") rfl)
  sum := free_ok X G (c.d.fact 68 (f := .free "sum") rfl)
  all := free_ok X G (c.d.fact 69 (f := .free "all") rfl)
  int := free_ok X G (c.d.fact 70 (f := .free "int") rfl)
  isinstance := free_ok X G (c.d.fact 71 (f := .free "isinstance") rfl)
  bool := free_ok X G (c.d.fact 72 (f := .free "bool") rfl)
  sorted := free_ok X G (c.d.fact 73 (f := .free "sorted") rfl)
  set := free_ok X G (c.d.fact 74 (f := .free "set") rfl)
  zip := free_ok X G (c.d.fact 75 (f := .free "zip") rfl)
  enumerate := free_ok X G (c.d.fact 76 (f := .free "enumerate") rfl)
  repr := free_ok X G (c.d.fact 77 (f := .free "repr") rfl)
  abs := free_ok X G (c.d.fact 78 (f := .free "abs") rfl)
  MAX_HOLDERS := int_ok X G (c.d.fact 80 (f := .int "MAX_HOLDERS" 6) rfl)
  MAX_LENGTH := int_ok X G (c.d.fact 81 (f := .int "MAX_LENGTH" 40) rfl)
  MAX_STEP := int_ok X G (c.d.fact 82 (f := .int "MAX_STEP" 8) rfl)
  MAX_TURNS := int_ok X G (c.d.fact 83 (f := .int "MAX_TURNS" 1024) rfl)
theorem Fu.up {P : Program} {x : Str} {ps : List Str} {j k : Nat} {S : List PyData → PyData → Prop} (F : Fu P w K mg base x ps j S) (hj : j ≤ k) : Fu P w K mg base x ps k S := let ⟨f, fd, A, G⟩ := F.ex; ⟨f, fd, A, G.mono hj⟩
theorem f_s_wp (c : SaysY PG fa fn tf h K) : ∃ fd, Fun K "word_places" "word_places" s_wp (ga K "word_places") fd := let ⟨fd, D⟩ := c.d.def_ 1 (d := dd "word_places" "word_places" s_wp) rfl; ⟨fd, fun_of D⟩
theorem a_s_wp (X : K.In h) (G : h.Ns mainGlobals mg) (c : SaysY PG fa fn tf h K) {fd : FuncData} (F : Fun K "word_places" "word_places" s_wp (ga K "word_places") fd) : At K mg "word_places" (ga K "word_places") fd ["word"] := at_of F (glo_ok X G (c.d.fact 1 (f := .glo "word_places") rfl)) (fun _ _ _ _ _ _ us hl => match us, hl with | [_], _ => rfl) (fun _ _ _ _ _ _ us hl => match us, hl with | [_], _ => rfl)
theorem gu_s_wp (X : K.In h) (G : h.Ns mainGlobals mg) (c : SaysY PG fa fn tf h K) : Fu PG w K mg base "word_places" ["word"] 1 S_wp := let ⟨fd, F⟩ := f_s_wp c; ⟨_, fd, a_s_wp X G c F, ok_wp (txt X G c)  F⟩
theorem f_s_rp (c : SaysY PG fa fn tf h K) : ∃ fd, Fun K "rows_product" "rows_product" s_rp (ga K "rows_product") fd := let ⟨fd, D⟩ := c.d.def_ 6 (d := dd "rows_product" "rows_product" s_rp) rfl; ⟨fd, fun_of D⟩
theorem a_s_rp (X : K.In h) (G : h.Ns mainGlobals mg) (c : SaysY PG fa fn tf h K) {fd : FuncData} (F : Fun K "rows_product" "rows_product" s_rp (ga K "rows_product") fd) : At K mg "rows_product" (ga K "rows_product") fd ["p", "one", "other"] := at_of F (glo_ok X G (c.d.fact 6 (f := .glo "rows_product") rfl)) (fun _ _ _ _ _ _ us hl => match us, hl with | [_, _, _], _ => rfl) (fun _ _ _ _ _ _ us hl => match us, hl with | [_, _, _], _ => rfl)
theorem gu_s_rp (X : K.In h) (G : h.Ns mainGlobals mg) (c : SaysY PG fa fn tf h K) : Fu PG w K mg base "rows_product" ["p", "one", "other"] 1 S_rp := let ⟨fd, F⟩ := f_s_rp c; ⟨_, fd, a_s_rp X G c F, ok_rp (txt X G c)  F⟩
theorem f_s_ui (c : SaysY PG fa fn tf h K) : ∃ fd, Fun K "upper_item" "upper_item" s_ui (ga K "upper_item") fd := let ⟨fd, D⟩ := c.d.def_ 8 (d := dd "upper_item" "upper_item" s_ui) rfl; ⟨fd, fun_of D⟩
theorem a_s_ui (X : K.In h) (G : h.Ns mainGlobals mg) (c : SaysY PG fa fn tf h K) {fd : FuncData} (F : Fun K "upper_item" "upper_item" s_ui (ga K "upper_item") fd) : At K mg "upper_item" (ga K "upper_item") fd ["upper", "i", "j"] := at_of F (glo_ok X G (c.d.fact 8 (f := .glo "upper_item") rfl)) (fun _ _ _ _ _ _ us hl => match us, hl with | [_, _, _], _ => rfl) (fun _ _ _ _ _ _ us hl => match us, hl with | [_, _, _], _ => rfl)
theorem gu_s_ui (X : K.In h) (G : h.Ns mainGlobals mg) (c : SaysY PG fa fn tf h K) : Fu PG w K mg base "upper_item" ["upper", "i", "j"] 1 S_ui := let ⟨fd, F⟩ := f_s_ui c; ⟨_, fd, a_s_ui X G c F, ok_ui (txt X G c)  F⟩
theorem f_s_po (c : SaysY PG fa fn tf h K) : ∃ fd, Fun K "plain_order" "plain_order" s_po (ga K "plain_order") fd := let ⟨fd, D⟩ := c.d.def_ 11 (d := dd "plain_order" "plain_order" s_po) rfl; ⟨fd, fun_of D⟩
theorem a_s_po (X : K.In h) (G : h.Ns mainGlobals mg) (c : SaysY PG fa fn tf h K) {fd : FuncData} (F : Fun K "plain_order" "plain_order" s_po (ga K "plain_order") fd) : At K mg "plain_order" (ga K "plain_order") fd ["d"] := at_of F (glo_ok X G (c.d.fact 11 (f := .glo "plain_order") rfl)) (fun _ _ _ _ _ _ us hl => match us, hl with | [_], _ => rfl) (fun _ _ _ _ _ _ us hl => match us, hl with | [_], _ => rfl)
theorem gu_s_po (X : K.In h) (G : h.Ns mainGlobals mg) (c : SaysY PG fa fn tf h K) : Fu PG w K mg base "plain_order" ["d"] 1 S_po := let ⟨fd, F⟩ := f_s_po c; ⟨_, fd, a_s_po X G c F, ok_po (txt X G c)  F⟩
theorem f_s_oj (c : SaysY PG fa fn tf h K) : ∃ fd, Fun K "orders_joined" "orders_joined" s_oj (ga K "orders_joined") fd := let ⟨fd, D⟩ := c.d.def_ 12 (d := dd "orders_joined" "orders_joined" s_oj) rfl; ⟨fd, fun_of D⟩
theorem a_s_oj (X : K.In h) (G : h.Ns mainGlobals mg) (c : SaysY PG fa fn tf h K) {fd : FuncData} (F : Fun K "orders_joined" "orders_joined" s_oj (ga K "orders_joined") fd) : At K mg "orders_joined" (ga K "orders_joined") fd ["one", "other"] := at_of F (glo_ok X G (c.d.fact 12 (f := .glo "orders_joined") rfl)) (fun _ _ _ _ _ _ us hl => match us, hl with | [_, _], _ => rfl) (fun _ _ _ _ _ _ us hl => match us, hl with | [_, _], _ => rfl)
theorem gu_s_oj (X : K.In h) (G : h.Ns mainGlobals mg) (c : SaysY PG fa fn tf h K) : Fu PG w K mg base "orders_joined" ["one", "other"] 1 S_oj := let ⟨fd, F⟩ := f_s_oj c; ⟨_, fd, a_s_oj X G c F, ok_oj (txt X G c)  F⟩
theorem f_s_aw (c : SaysY PG fa fn tf h K) : ∃ fd, Fun K "arrow_weight" "arrow_weight" s_aw (ga K "arrow_weight") fd := let ⟨fd, D⟩ := c.d.def_ 23 (d := dd "arrow_weight" "arrow_weight" s_aw) rfl; ⟨fd, fun_of D⟩
theorem a_s_aw (X : K.In h) (G : h.Ns mainGlobals mg) (c : SaysY PG fa fn tf h K) {fd : FuncData} (F : Fun K "arrow_weight" "arrow_weight" s_aw (ga K "arrow_weight") fd) : At K mg "arrow_weight" (ga K "arrow_weight") fd ["p", "arrow", "items"] := at_of F (glo_ok X G (c.d.fact 23 (f := .glo "arrow_weight") rfl)) (fun _ _ _ _ _ _ us hl => match us, hl with | [_, _, _], _ => rfl) (fun _ _ _ _ _ _ us hl => match us, hl with | [_, _, _], _ => rfl)
theorem gu_s_aw (X : K.In h) (G : h.Ns mainGlobals mg) (c : SaysY PG fa fn tf h K) : Fu PG w K mg base "arrow_weight" ["p", "arrow", "items"] 1 S_aw := let ⟨fd, F⟩ := f_s_aw c; ⟨_, fd, a_s_aw X G c F, ok_aw (txt X G c)  F⟩
theorem f_s_um (c : SaysY PG fa fn tf h K) : ∃ fd, Fun K "unit_matrix" "unit_matrix" s_um (ga K "unit_matrix") fd := let ⟨fd, D⟩ := c.d.def_ 29 (d := dd "unit_matrix" "unit_matrix" s_um) rfl; ⟨fd, fun_of D⟩
theorem a_s_um (X : K.In h) (G : h.Ns mainGlobals mg) (c : SaysY PG fa fn tf h K) {fd : FuncData} (F : Fun K "unit_matrix" "unit_matrix" s_um (ga K "unit_matrix") fd) : At K mg "unit_matrix" (ga K "unit_matrix") fd ["n"] := at_of F (glo_ok X G (c.d.fact 29 (f := .glo "unit_matrix") rfl)) (fun _ _ _ _ _ _ us hl => match us, hl with | [_], _ => rfl) (fun _ _ _ _ _ _ us hl => match us, hl with | [_], _ => rfl)
theorem gu_s_um (X : K.In h) (G : h.Ns mainGlobals mg) (c : SaysY PG fa fn tf h K) : Fu PG w K mg base "unit_matrix" ["n"] 1 S_um := let ⟨fd, F⟩ := f_s_um c; ⟨_, fd, a_s_um X G c F, ok_um (txt X G c)  F⟩
theorem f_s_mt (c : SaysY PG fa fn tf h K) : ∃ fd, Fun K "matrix_turned" "matrix_turned" s_mt (ga K "matrix_turned") fd := let ⟨fd, D⟩ := c.d.def_ 30 (d := dd "matrix_turned" "matrix_turned" s_mt) rfl; ⟨fd, fun_of D⟩
theorem a_s_mt (X : K.In h) (G : h.Ns mainGlobals mg) (c : SaysY PG fa fn tf h K) {fd : FuncData} (F : Fun K "matrix_turned" "matrix_turned" s_mt (ga K "matrix_turned") fd) : At K mg "matrix_turned" (ga K "matrix_turned") fd ["matrix"] := at_of F (glo_ok X G (c.d.fact 30 (f := .glo "matrix_turned") rfl)) (fun _ _ _ _ _ _ us hl => match us, hl with | [_], _ => rfl) (fun _ _ _ _ _ _ us hl => match us, hl with | [_], _ => rfl)
theorem gu_s_mt (X : K.In h) (G : h.Ns mainGlobals mg) (c : SaysY PG fa fn tf h K) : Fu PG w K mg base "matrix_turned" ["matrix"] 1 S_mt := let ⟨fd, F⟩ := f_s_mt c; ⟨_, fd, a_s_mt X G c F, ok_mt (txt X G c)  F⟩
theorem f_s_mp (c : SaysY PG fa fn tf h K) : ∃ fd, Fun K "matrix_product" "matrix_product" s_mp (ga K "matrix_product") fd := let ⟨fd, D⟩ := c.d.def_ 31 (d := dd "matrix_product" "matrix_product" s_mp) rfl; ⟨fd, fun_of D⟩
theorem a_s_mp (X : K.In h) (G : h.Ns mainGlobals mg) (c : SaysY PG fa fn tf h K) {fd : FuncData} (F : Fun K "matrix_product" "matrix_product" s_mp (ga K "matrix_product") fd) : At K mg "matrix_product" (ga K "matrix_product") fd ["p", "first", "second"] := at_of F (glo_ok X G (c.d.fact 31 (f := .glo "matrix_product") rfl)) (fun _ _ _ _ _ _ us hl => match us, hl with | [_, _, _], _ => rfl) (fun _ _ _ _ _ _ us hl => match us, hl with | [_, _, _], _ => rfl)
theorem gu_s_mp (X : K.In h) (G : h.Ns mainGlobals mg) (c : SaysY PG fa fn tf h K) : Fu PG w K mg base "matrix_product" ["p", "first", "second"] 2 S_mp := let ⟨fd, F⟩ := f_s_mp c; ⟨_, fd, a_s_mp X G c F, ok_mp (txt X G c) (gu_s_rp X G c) (gu_s_mt X G c) F⟩
theorem f_s_om (c : SaysY PG fa fn tf h K) : ∃ fd, Fun K "order_matrix" "order_matrix" s_om (ga K "order_matrix") fd := let ⟨fd, D⟩ := c.d.def_ 32 (d := dd "order_matrix" "order_matrix" s_om) rfl; ⟨fd, fun_of D⟩
theorem a_s_om (X : K.In h) (G : h.Ns mainGlobals mg) (c : SaysY PG fa fn tf h K) {fd : FuncData} (F : Fun K "order_matrix" "order_matrix" s_om (ga K "order_matrix") fd) : At K mg "order_matrix" (ga K "order_matrix") fd ["order"] := at_of F (glo_ok X G (c.d.fact 32 (f := .glo "order_matrix") rfl)) (fun _ _ _ _ _ _ us hl => match us, hl with | [_], _ => rfl) (fun _ _ _ _ _ _ us hl => match us, hl with | [_], _ => rfl)
theorem gu_s_om (X : K.In h) (G : h.Ns mainGlobals mg) (c : SaysY PG fa fn tf h K) : Fu PG w K mg base "order_matrix" ["order"] 1 S_om := let ⟨fd, F⟩ := f_s_om c; ⟨_, fd, a_s_om X G c F, ok_om (txt X G c)  F⟩
theorem f_s_tb (c : SaysY PG fa fn tf h K) : ∃ fd, Fun K "turn_behind" "turn_behind" s_tb (ga K "turn_behind") fd := let ⟨fd, D⟩ := c.d.def_ 18 (d := dd "turn_behind" "turn_behind" s_tb) rfl; ⟨fd, fun_of D⟩
theorem a_s_tb (X : K.In h) (G : h.Ns mainGlobals mg) (c : SaysY PG fa fn tf h K) {fd : FuncData} (F : Fun K "turn_behind" "turn_behind" s_tb (ga K "turn_behind") fd) : At K mg "turn_behind" (ga K "turn_behind") fd ["turn", "order"] := at_of F (glo_ok X G (c.d.fact 18 (f := .glo "turn_behind") rfl)) (fun _ _ _ _ _ _ us hl => match us, hl with | [_, _], _ => rfl) (fun _ _ _ _ _ _ us hl => match us, hl with | [_, _], _ => rfl)
theorem gu_s_tb (X : K.In h) (G : h.Ns mainGlobals mg) (c : SaysY PG fa fn tf h K) : Fu PG w K mg base "turn_behind" ["turn", "order"] 2 S_tb := let ⟨fd, F⟩ := f_s_tb c; ⟨_, fd, a_s_tb X G c F, ok_tb (txt X G c) (gu_s_oj X G c) F⟩
theorem f_s_lth (c : SaysY PG fa fn tf h K) : ∃ fd, Fun K "_law_then" "_law_then" s_lth (ga K "_law_then") fd := let ⟨fd, D⟩ := c.d.def_ 48 (d := dd "_law_then" "_law_then" s_lth) rfl; ⟨fd, fun_of D⟩
theorem a_s_lth (X : K.In h) (G : h.Ns mainGlobals mg) (c : SaysY PG fa fn tf h K) {fd : FuncData} (F : Fun K "_law_then" "_law_then" s_lth (ga K "_law_then") fd) : At K mg "_law_then" (ga K "_law_then") fd ["one", "other"] := at_of F (glo_ok X G (c.d.fact 48 (f := .glo "_law_then") rfl)) (fun _ _ _ _ _ _ us hl => match us, hl with | [_, _], _ => rfl) (fun _ _ _ _ _ _ us hl => match us, hl with | [_, _], _ => rfl)
theorem gu_s_lth (X : K.In h) (G : h.Ns mainGlobals mg) (c : SaysY PG fa fn tf h K) : Fu PG w K mg base "_law_then" ["one", "other"] 1 S_lth := let ⟨fd, F⟩ := f_s_lth c; ⟨_, fd, a_s_lth X G c F, ok_lth (txt X G c)  F⟩
theorem f_s_lw (c : SaysY PG fa fn tf h K) : ∃ fd, Fun K "_law_weight" "_law_weight" s_lw (ga K "_law_weight") fd := let ⟨fd, D⟩ := c.d.def_ 54 (d := dd "_law_weight" "_law_weight" s_lw) rfl; ⟨fd, fun_of D⟩
theorem a_s_lw (X : K.In h) (G : h.Ns mainGlobals mg) (c : SaysY PG fa fn tf h K) {fd : FuncData} (F : Fun K "_law_weight" "_law_weight" s_lw (ga K "_law_weight") fd) : At K mg "_law_weight" (ga K "_law_weight") fd ["p", "arrow", "items"] := at_of F (glo_ok X G (c.d.fact 54 (f := .glo "_law_weight") rfl)) (fun _ _ _ _ _ _ us hl => match us, hl with | [_, _, _], _ => rfl) (fun _ _ _ _ _ _ us hl => match us, hl with | [_, _, _], _ => rfl)
theorem gu_s_lw (X : K.In h) (G : h.Ns mainGlobals mg) (c : SaysY PG fa fn tf h K) : Fu PG w K mg base "_law_weight" ["p", "arrow", "items"] 1 S_lw := let ⟨fd, F⟩ := f_s_lw c; ⟨_, fd, a_s_lw X G c F, ok_lw (txt X G c)  F⟩
theorem f_s_lm (c : SaysY PG fa fn tf h K) : ∃ fd, Fun K "_law_matrix" "_law_matrix" s_lm (ga K "_law_matrix") fd := let ⟨fd, D⟩ := c.d.def_ 56 (d := dd "_law_matrix" "_law_matrix" s_lm) rfl; ⟨fd, fun_of D⟩
theorem a_s_lm (X : K.In h) (G : h.Ns mainGlobals mg) (c : SaysY PG fa fn tf h K) {fd : FuncData} (F : Fun K "_law_matrix" "_law_matrix" s_lm (ga K "_law_matrix") fd) : At K mg "_law_matrix" (ga K "_law_matrix") fd ["order"] := at_of F (glo_ok X G (c.d.fact 56 (f := .glo "_law_matrix") rfl)) (fun _ _ _ _ _ _ us hl => match us, hl with | [_], _ => rfl) (fun _ _ _ _ _ _ us hl => match us, hl with | [_], _ => rfl)
theorem gu_s_lm (X : K.In h) (G : h.Ns mainGlobals mg) (c : SaysY PG fa fn tf h K) : Fu PG w K mg base "_law_matrix" ["order"] 1 S_lm := let ⟨fd, F⟩ := f_s_lm c; ⟨_, fd, a_s_lm X G c F, ok_lm (txt X G c)  F⟩
theorem f_s_lp (c : SaysY PG fa fn tf h K) : ∃ fd, Fun K "_law_places" "_law_places" s_lp (ga K "_law_places") fd := let ⟨fd, D⟩ := c.d.def_ 57 (d := dd "_law_places" "_law_places" s_lp) rfl; ⟨fd, fun_of D⟩
theorem a_s_lp (X : K.In h) (G : h.Ns mainGlobals mg) (c : SaysY PG fa fn tf h K) {fd : FuncData} (F : Fun K "_law_places" "_law_places" s_lp (ga K "_law_places") fd) : At K mg "_law_places" (ga K "_law_places") fd ["word"] := at_of F (glo_ok X G (c.d.fact 57 (f := .glo "_law_places") rfl)) (fun _ _ _ _ _ _ us hl => match us, hl with | [_], _ => rfl) (fun _ _ _ _ _ _ us hl => match us, hl with | [_], _ => rfl)
theorem gu_s_lp (X : K.In h) (G : h.Ns mainGlobals mg) (c : SaysY PG fa fn tf h K) : Fu PG w K mg base "_law_places" ["word"] 1 S_lp := let ⟨fd, F⟩ := f_s_lp c; ⟨_, fd, a_s_lp X G c F, ok_lp (txt X G c)  F⟩
theorem f_s_ob (c : SaysY PG fa fn tf h K) : ∃ fd, Fun K "order_back" "order_back" s_ob (ga K "order_back") fd := let ⟨fd, D⟩ := c.d.def_ 13 (d := dd "order_back" "order_back" s_ob) rfl; ⟨fd, fun_of D⟩
theorem a_s_ob (X : K.In h) (G : h.Ns mainGlobals mg) (c : SaysY PG fa fn tf h K) {fd : FuncData} (F : Fun K "order_back" "order_back" s_ob (ga K "order_back") fd) : At K mg "order_back" (ga K "order_back") fd ["order"] := at_of F (glo_ok X G (c.d.fact 13 (f := .glo "order_back") rfl)) (fun _ _ _ _ _ _ us hl => match us, hl with | [_], _ => rfl) (fun _ _ _ _ _ _ us hl => match us, hl with | [_], _ => rfl)
theorem gu_s_ob (X : K.In h) (G : h.Ns mainGlobals mg) (c : SaysY PG fa fn tf h K) : Fu PG w K mg base "order_back" ["order"] 1 S_ob := let ⟨fd, F⟩ := f_s_ob c; ⟨_, fd, a_s_ob X G c F, ok_ob (txt X G c)  F⟩
theorem f_s_vt (c : SaysY PG fa fn tf h K) : ∃ fd, Fun K "values_to" "values_to" s_vt (ga K "values_to") fd := let ⟨fd, D⟩ := c.d.def_ 24 (d := dd "values_to" "values_to" s_vt) rfl; ⟨fd, fun_of D⟩
theorem a_s_vt (X : K.In h) (G : h.Ns mainGlobals mg) (c : SaysY PG fa fn tf h K) {fd : FuncData} (F : Fun K "values_to" "values_to" s_vt (ga K "values_to") fd) : At K mg "values_to" (ga K "values_to") fd ["program", "items"] := at_of F (glo_ok X G (c.d.fact 24 (f := .glo "values_to") rfl)) (fun _ _ _ _ _ _ us hl => match us, hl with | [_, _], _ => rfl) (fun _ _ _ _ _ _ us hl => match us, hl with | [_, _], _ => rfl)
theorem gu_s_vt (X : K.In h) (G : h.Ns mainGlobals mg) (c : SaysY PG fa fn tf h K) : Fu PG w K mg base "values_to" ["program", "items"] 2 S_vt := let ⟨fd, F⟩ := f_s_vt c; ⟨_, fd, a_s_vt X G c F, ok_vt (txt X G c) (gu_s_aw X G c) F⟩
theorem f_s_pv (c : SaysY PG fa fn tf h K) : ∃ fd, Fun K "program_value" "program_value" s_pv (ga K "program_value") fd := let ⟨fd, D⟩ := c.d.def_ 25 (d := dd "program_value" "program_value" s_pv) rfl; ⟨fd, fun_of D⟩
theorem a_s_pv (X : K.In h) (G : h.Ns mainGlobals mg) (c : SaysY PG fa fn tf h K) {fd : FuncData} (F : Fun K "program_value" "program_value" s_pv (ga K "program_value") fd) : At K mg "program_value" (ga K "program_value") fd ["program", "items"] := at_of F (glo_ok X G (c.d.fact 25 (f := .glo "program_value") rfl)) (fun _ _ _ _ _ _ us hl => match us, hl with | [_, _], _ => rfl) (fun _ _ _ _ _ _ us hl => match us, hl with | [_, _], _ => rfl)
theorem gu_s_pv (X : K.In h) (G : h.Ns mainGlobals mg) (c : SaysY PG fa fn tf h K) : Fu PG w K mg base "program_value" ["program", "items"] 3 S_pv := let ⟨fd, F⟩ := f_s_pv c; ⟨_, fd, a_s_pv X G c F, ok_pv (txt X G c) (gu_s_vt X G c) F⟩
theorem f_s_dr (c : SaysY PG fa fn tf h K) : ∃ fd, Fun K "determinant_row" "determinant_row" s_dr (ga K "determinant_row") fd := let ⟨fd, D⟩ := c.d.def_ 9 (d := dd "determinant_row" "determinant_row" s_dr) rfl; ⟨fd, fun_of D⟩
theorem a_s_dr (X : K.In h) (G : h.Ns mainGlobals mg) (c : SaysY PG fa fn tf h K) {fd : FuncData} (F : Fun K "determinant_row" "determinant_row" s_dr (ga K "determinant_row") fd) : At K mg "determinant_row" (ga K "determinant_row") fd ["p", "upper"] := at_of F (glo_ok X G (c.d.fact 9 (f := .glo "determinant_row") rfl)) (fun _ _ _ _ _ _ us hl => match us, hl with | [_, _], _ => rfl) (fun _ _ _ _ _ _ us hl => match us, hl with | [_, _], _ => rfl)
theorem gu_s_dr (X : K.In h) (G : h.Ns mainGlobals mg) (c : SaysY PG fa fn tf h K) : Fu PG w K mg base "determinant_row" ["p", "upper"] 2 S_dr := let ⟨fd, F⟩ := f_s_dr c; ⟨_, fd, a_s_dr X G c F, ok_dr (txt X G c) (gu_s_ui X G c) F⟩
theorem f_s_de (c : SaysY PG fa fn tf h K) : ∃ fd, Fun K "determinant" "determinant" s_de (ga K "determinant") fd := let ⟨fd, D⟩ := c.d.def_ 10 (d := dd "determinant" "determinant" s_de) rfl; ⟨fd, fun_of D⟩
theorem a_s_de (X : K.In h) (G : h.Ns mainGlobals mg) (c : SaysY PG fa fn tf h K) {fd : FuncData} (F : Fun K "determinant" "determinant" s_de (ga K "determinant") fd) : At K mg "determinant" (ga K "determinant") fd ["p", "upper"] := at_of F (glo_ok X G (c.d.fact 10 (f := .glo "determinant") rfl)) (fun _ _ _ _ _ _ us hl => match us, hl with | [_, _], _ => rfl) (fun _ _ _ _ _ _ us hl => match us, hl with | [_, _], _ => rfl)
theorem gu_s_de (X : K.In h) (G : h.Ns mainGlobals mg) (c : SaysY PG fa fn tf h K) : Fu PG w K mg base "determinant" ["p", "upper"] 3 S_de := let ⟨fd, F⟩ := f_s_de c; ⟨_, fd, a_s_de X G c F, ok_de (txt X G c) (gu_s_dr X G c) F⟩
theorem f_s_tm (c : SaysY PG fa fn tf h K) : ∃ fd, Fun K "turn_matrices" "turn_matrices" s_tm (ga K "turn_matrices") fd := let ⟨fd, D⟩ := c.d.def_ 34 (d := dd "turn_matrices" "turn_matrices" s_tm) rfl; ⟨fd, fun_of D⟩
theorem a_s_tm (X : K.In h) (G : h.Ns mainGlobals mg) (c : SaysY PG fa fn tf h K) {fd : FuncData} (F : Fun K "turn_matrices" "turn_matrices" s_tm (ga K "turn_matrices") fd) : At K mg "turn_matrices" (ga K "turn_matrices") fd ["p", "word", "bits"] := at_of F (glo_ok X G (c.d.fact 34 (f := .glo "turn_matrices") rfl)) (fun _ _ _ _ _ _ us hl => match us, hl with | [_, _, _], _ => rfl) (fun _ _ _ _ _ _ us hl => match us, hl with | [_, _, _], _ => rfl)
theorem gu_s_tm (X : K.In h) (G : h.Ns mainGlobals mg) (c : SaysY PG fa fn tf h K) : Fu PG w K mg base "turn_matrices" ["p", "word", "bits"] 2 S_tm := let ⟨fd, F⟩ := f_s_tm c; ⟨_, fd, a_s_tm X G c F, ok_tm (txt X G c) (gu_s_om X G c) F⟩
theorem f_s_wm (c : SaysY PG fa fn tf h K) : ∃ fd, Fun K "word_matrix" "word_matrix" s_wm (ga K "word_matrix") fd := let ⟨fd, D⟩ := c.d.def_ 35 (d := dd "word_matrix" "word_matrix" s_wm) rfl; ⟨fd, fun_of D⟩
theorem a_s_wm (X : K.In h) (G : h.Ns mainGlobals mg) (c : SaysY PG fa fn tf h K) {fd : FuncData} (F : Fun K "word_matrix" "word_matrix" s_wm (ga K "word_matrix") fd) : At K mg "word_matrix" (ga K "word_matrix") fd ["p", "word", "bits"] := at_of F (glo_ok X G (c.d.fact 35 (f := .glo "word_matrix") rfl)) (fun _ _ _ _ _ _ us hl => match us, hl with | [_, _, _], _ => rfl) (fun _ _ _ _ _ _ us hl => match us, hl with | [_, _, _], _ => rfl)
theorem gu_s_wm (X : K.In h) (G : h.Ns mainGlobals mg) (c : SaysY PG fa fn tf h K) : Fu PG w K mg base "word_matrix" ["p", "word", "bits"] 3 S_wm := let ⟨fd, F⟩ := f_s_wm c; ⟨_, fd, a_s_wm X G c F, ok_wm (txt X G c) (gu_s_um X G c) (gu_s_mp X G c) (gu_s_tm X G c) F⟩
theorem f_s_wos (c : SaysY PG fa fn tf h K) : ∃ fd, Fun K "word_orders" "word_orders" s_wos (ga K "word_orders") fd := let ⟨fd, D⟩ := c.d.def_ 14 (d := dd "word_orders" "word_orders" s_wos) rfl; ⟨fd, fun_of D⟩
theorem a_s_wos (X : K.In h) (G : h.Ns mainGlobals mg) (c : SaysY PG fa fn tf h K) {fd : FuncData} (F : Fun K "word_orders" "word_orders" s_wos (ga K "word_orders") fd) : At K mg "word_orders" (ga K "word_orders") fd ["word", "items"] := at_of F (glo_ok X G (c.d.fact 14 (f := .glo "word_orders") rfl)) (fun _ _ _ _ _ _ us hl => match us, hl with | [_, _], _ => rfl) (fun _ _ _ _ _ _ us hl => match us, hl with | [_, _], _ => rfl)
theorem gu_s_wos (X : K.In h) (G : h.Ns mainGlobals mg) (c : SaysY PG fa fn tf h K) : Fu PG w K mg base "word_orders" ["word", "items"] 2 S_wos := let ⟨fd, F⟩ := f_s_wos c; ⟨_, fd, a_s_wos X G c F, ok_wos (txt X G c) (gu_s_po X G c) (gu_s_oj X G c) F⟩
theorem f_s_wo (c : SaysY PG fa fn tf h K) : ∃ fd, Fun K "word_order" "word_order" s_wo (ga K "word_order") fd := let ⟨fd, D⟩ := c.d.def_ 15 (d := dd "word_order" "word_order" s_wo) rfl; ⟨fd, fun_of D⟩
theorem a_s_wo (X : K.In h) (G : h.Ns mainGlobals mg) (c : SaysY PG fa fn tf h K) {fd : FuncData} (F : Fun K "word_order" "word_order" s_wo (ga K "word_order") fd) : At K mg "word_order" (ga K "word_order") fd ["word", "items"] := at_of F (glo_ok X G (c.d.fact 15 (f := .glo "word_order") rfl)) (fun _ _ _ _ _ _ us hl => match us, hl with | [_, _], _ => rfl) (fun _ _ _ _ _ _ us hl => match us, hl with | [_, _], _ => rfl)
theorem gu_s_wo (X : K.In h) (G : h.Ns mainGlobals mg) (c : SaysY PG fa fn tf h K) : Fu PG w K mg base "word_order" ["word", "items"] 3 S_wo := let ⟨fd, F⟩ := f_s_wo c; ⟨_, fd, a_s_wo X G c F, ok_wo (txt X G c) (gu_s_wos X G c) F⟩
theorem f_s_sa (c : SaysY PG fa fn tf h K) : ∃ fd, Fun K "states_along" "states_along" s_sa (ga K "states_along") fd := let ⟨fd, D⟩ := c.d.def_ 36 (d := dd "states_along" "states_along" s_sa) rfl; ⟨fd, fun_of D⟩
theorem a_s_sa (X : K.In h) (G : h.Ns mainGlobals mg) (c : SaysY PG fa fn tf h K) {fd : FuncData} (F : Fun K "states_along" "states_along" s_sa (ga K "states_along") fd) : At K mg "states_along" (ga K "states_along") fd ["word", "bits", "first"] := at_of F (glo_ok X G (c.d.fact 36 (f := .glo "states_along") rfl)) (fun _ _ _ _ _ _ us hl => match us, hl with | [_, _, _], _ => rfl) (fun _ _ _ _ _ _ us hl => match us, hl with | [_, _, _], _ => rfl)
theorem gu_s_sa (X : K.In h) (G : h.Ns mainGlobals mg) (c : SaysY PG fa fn tf h K) : Fu PG w K mg base "states_along" ["word", "bits", "first"] 1 S_sa := let ⟨fd, F⟩ := f_s_sa c; ⟨_, fd, a_s_sa X G c F, ok_sa (txt X G c)  F⟩
theorem f_s_lpv (c : SaysY PG fa fn tf h K) : ∃ fd, Fun K "_law_program_value" "_law_program_value" s_lpv (ga K "_law_program_value") fd := let ⟨fd, D⟩ := c.d.def_ 55 (d := dd "_law_program_value" "_law_program_value" s_lpv) rfl; ⟨fd, fun_of D⟩
theorem a_s_lpv (X : K.In h) (G : h.Ns mainGlobals mg) (c : SaysY PG fa fn tf h K) {fd : FuncData} (F : Fun K "_law_program_value" "_law_program_value" s_lpv (ga K "_law_program_value") fd) : At K mg "_law_program_value" (ga K "_law_program_value") fd ["program", "items"] := at_of F (glo_ok X G (c.d.fact 55 (f := .glo "_law_program_value") rfl)) (fun _ _ _ _ _ _ us hl => match us, hl with | [_, _], _ => rfl) (fun _ _ _ _ _ _ us hl => match us, hl with | [_, _], _ => rfl)
theorem gu_s_lpv (X : K.In h) (G : h.Ns mainGlobals mg) (c : SaysY PG fa fn tf h K) : Fu PG w K mg base "_law_program_value" ["program", "items"] 2 S_lpv := let ⟨fd, F⟩ := f_s_lpv c; ⟨_, fd, a_s_lpv X G c F, ok_lpv (txt X G c) (gu_s_lw X G c) F⟩
theorem f_s_ar (c : SaysY PG fa fn tf h K) : ∃ fd, Fun K "all_rows" "all_rows" s_ar (ga K "all_rows") fd := let ⟨fd, D⟩ := c.d.def_ 7 (d := dd "all_rows" "all_rows" s_ar) rfl; ⟨fd, fun_of D⟩
theorem a_s_ar (X : K.In h) (G : h.Ns mainGlobals mg) (c : SaysY PG fa fn tf h K) {fd : FuncData} (F : Fun K "all_rows" "all_rows" s_ar (ga K "all_rows") fd) : At K mg "all_rows" (ga K "all_rows") fd ["p", "n"] := at_of F (glo_ok X G (c.d.fact 7 (f := .glo "all_rows") rfl)) (fun _ _ _ _ _ _ us hl => match us, hl with | [_, _], _ => rfl) (fun _ _ _ _ _ _ us hl => match us, hl with | [_, _], _ => rfl)
theorem gu_s_ar (X : K.In h) (G : h.Ns mainGlobals mg) (c : SaysY PG fa fn tf h K) : Fu PG w K mg base "all_rows" ["p", "n"] 1 S_ar := let ⟨fd, F⟩ := f_s_ar c; ⟨_, fd, a_s_ar X G c F, ok_ar (txt X G c)  F⟩
theorem f_s_lr (c : SaysY PG fa fn tf h K) : ∃ fd, Fun K "_law_rows" "_law_rows" s_lr (ga K "_law_rows") fd := let ⟨fd, D⟩ := c.d.def_ 46 (d := dd "_law_rows" "_law_rows" s_lr) rfl; ⟨fd, fun_of D⟩
theorem a_s_lr (X : K.In h) (G : h.Ns mainGlobals mg) (c : SaysY PG fa fn tf h K) {fd : FuncData} (F : Fun K "_law_rows" "_law_rows" s_lr (ga K "_law_rows") fd) : At K mg "_law_rows" (ga K "_law_rows") fd ["p", "n"] := at_of F (glo_ok X G (c.d.fact 46 (f := .glo "_law_rows") rfl)) (fun _ _ _ _ _ _ us hl => match us, hl with | [_, _], _ => rfl) (fun _ _ _ _ _ _ us hl => match us, hl with | [_, _], _ => rfl)
theorem gu_s_lr (X : K.In h) (G : h.Ns mainGlobals mg) (c : SaysY PG fa fn tf h K) : Fu PG w K mg base "_law_rows" ["p", "n"] 1 S_lr := let ⟨fd, F⟩ := f_s_lr c; ⟨_, fd, a_s_lr X G c F, ok_lr (txt X G c)  F⟩
theorem f_s_ld (c : SaysY PG fa fn tf h K) : ∃ fd, Fun K "_law_done" "_law_done" s_ld (ga K "_law_done") fd := let ⟨fd, D⟩ := c.d.def_ 52 (d := dd "_law_done" "_law_done" s_ld) rfl; ⟨fd, fun_of D⟩
theorem a_s_ld (X : K.In h) (G : h.Ns mainGlobals mg) (c : SaysY PG fa fn tf h K) {fd : FuncData} (F : Fun K "_law_done" "_law_done" s_ld (ga K "_law_done") fd) : At K mg "_law_done" (ga K "_law_done") fd ["word", "items"] := at_of F (glo_ok X G (c.d.fact 52 (f := .glo "_law_done") rfl)) (fun _ _ _ _ _ _ us hl => match us, hl with | [_, _], _ => rfl) (fun _ _ _ _ _ _ us hl => match us, hl with | [_, _], _ => rfl)
theorem gu_s_ld (X : K.In h) (G : h.Ns mainGlobals mg) (c : SaysY PG fa fn tf h K) : Fu PG w K mg base "_law_done" ["word", "items"] 1 S_ld := let ⟨fd, F⟩ := f_s_ld c; ⟨_, fd, a_s_ld X G c F, ok_ld (txt X G c)  F⟩
theorem f_s_lc (c : SaysY PG fa fn tf h K) : ∃ fd, Fun K "_law_comes" "_law_comes" s_lc (ga K "_law_comes") fd := let ⟨fd, D⟩ := c.d.def_ 53 (d := dd "_law_comes" "_law_comes" s_lc) rfl; ⟨fd, fun_of D⟩
theorem a_s_lc (X : K.In h) (G : h.Ns mainGlobals mg) (c : SaysY PG fa fn tf h K) {fd : FuncData} (F : Fun K "_law_comes" "_law_comes" s_lc (ga K "_law_comes") fd) : At K mg "_law_comes" (ga K "_law_comes") fd ["d", "orders"] := at_of F (glo_ok X G (c.d.fact 53 (f := .glo "_law_comes") rfl)) (fun _ _ _ _ _ _ us hl => match us, hl with | [_, _], _ => rfl) (fun _ _ _ _ _ _ us hl => match us, hl with | [_, _], _ => rfl)
theorem gu_s_lc (X : K.In h) (G : h.Ns mainGlobals mg) (c : SaysY PG fa fn tf h K) : Fu PG w K mg base "_law_comes" ["d", "orders"] 2 S_lc := let ⟨fd, F⟩ := f_s_lc c; ⟨_, fd, a_s_lc X G c F, ok_lc (txt X G c) (gu_s_lth X G c) F⟩
theorem f_s_lu (c : SaysY PG fa fn tf h K) : ∃ fd, Fun K "_law_undone" "_law_undone" s_lu (ga K "_law_undone") fd := let ⟨fd, D⟩ := c.d.def_ 49 (d := dd "_law_undone" "_law_undone" s_lu) rfl; ⟨fd, fun_of D⟩
theorem a_s_lu (X : K.In h) (G : h.Ns mainGlobals mg) (c : SaysY PG fa fn tf h K) {fd : FuncData} (F : Fun K "_law_undone" "_law_undone" s_lu (ga K "_law_undone") fd) : At K mg "_law_undone" (ga K "_law_undone") fd ["order"] := at_of F (glo_ok X G (c.d.fact 49 (f := .glo "_law_undone") rfl)) (fun _ _ _ _ _ _ us hl => match us, hl with | [_], _ => rfl) (fun _ _ _ _ _ _ us hl => match us, hl with | [_], _ => rfl)
theorem gu_s_lu (X : K.In h) (G : h.Ns mainGlobals mg) (c : SaysY PG fa fn tf h K) : Fu PG w K mg base "_law_undone" ["order"] 1 S_lu := let ⟨fd, F⟩ := f_s_lu c; ⟨_, fd, a_s_lu X G c F, ok_lu (txt X G c)  F⟩
theorem f_s_om2 (c : SaysY PG fa fn tf h K) : ∃ fd, Fun K "order_of_matrix" "order_of_matrix" s_om2 (ga K "order_of_matrix") fd := let ⟨fd, D⟩ := c.d.def_ 33 (d := dd "order_of_matrix" "order_of_matrix" s_om2) rfl; ⟨fd, fun_of D⟩
theorem a_s_om2 (X : K.In h) (G : h.Ns mainGlobals mg) (c : SaysY PG fa fn tf h K) {fd : FuncData} (F : Fun K "order_of_matrix" "order_of_matrix" s_om2 (ga K "order_of_matrix") fd) : At K mg "order_of_matrix" (ga K "order_of_matrix") fd ["matrix"] := at_of F (glo_ok X G (c.d.fact 33 (f := .glo "order_of_matrix") rfl)) (fun _ _ _ _ _ _ us hl => match us, hl with | [_], _ => rfl) (fun _ _ _ _ _ _ us hl => match us, hl with | [_], _ => rfl)
theorem gu_s_om2 (X : K.In h) (G : h.Ns mainGlobals mg) (c : SaysY PG fa fn tf h K) : Fu PG w K mg base "order_of_matrix" ["matrix"] 1 S_om2 := let ⟨fd, F⟩ := f_s_om2 c; ⟨_, fd, a_s_om2 X G c F, ok_om2 (txt X G c)  F⟩
theorem f_s_isj (c : SaysY PG fa fn tf h K) : ∃ fd, Fun K "is_integer" "is_integer" s_isj (ga K "is_integer_fieldnumbers") fd := let ⟨fd, D⟩ := c.d.def_ 5 (d := dd "is_integer_fieldnumbers" "is_integer" s_isj) rfl; ⟨fd, fun_of D⟩
theorem a_s_isj (X : K.In h) (G : h.Ns mainGlobals mg) (c : SaysY PG fa fn tf h K) {fd : FuncData} (F : Fun K "is_integer" "is_integer" s_isj (ga K "is_integer_fieldnumbers") fd) : At K mg "is_integer_fieldnumbers" (ga K "is_integer_fieldnumbers") fd ["value"] := at_of F (glo_ok X G (c.d.fact 5 (f := .glo "is_integer_fieldnumbers") rfl)) (fun _ _ _ _ _ _ us hl => match us, hl with | [_], _ => rfl) (fun _ _ _ _ _ _ us hl => match us, hl with | [_], _ => rfl)
theorem gu_s_isj (X : K.In h) (G : h.Ns mainGlobals mg) (c : SaysY PG fa fn tf h K) : Fu PG w K mg base "is_integer_fieldnumbers" ["value"] 1 S_isj := let ⟨fd, F⟩ := f_s_isj c; ⟨_, fd, a_s_isj X G c F, ok_isj (txt X G c)  F⟩
theorem f_s_isi (c : SaysY PG fa fn tf h K) : ∃ fd, Fun K "is_integer" "is_integer" s_isi (ga K "is_integer_programs") fd := let ⟨fd, D⟩ := c.d.def_ 20 (d := dd "is_integer_programs" "is_integer" s_isi) rfl; ⟨fd, fun_of D⟩
theorem a_s_isi (X : K.In h) (G : h.Ns mainGlobals mg) (c : SaysY PG fa fn tf h K) {fd : FuncData} (F : Fun K "is_integer" "is_integer" s_isi (ga K "is_integer_programs") fd) : At K mg "is_integer_programs" (ga K "is_integer_programs") fd ["value"] := at_of F (glo_ok X G (c.d.fact 20 (f := .glo "is_integer_programs") rfl)) (fun _ _ _ _ _ _ us hl => match us, hl with | [_], _ => rfl) (fun _ _ _ _ _ _ us hl => match us, hl with | [_], _ => rfl)
theorem gu_s_isi (X : K.In h) (G : h.Ns mainGlobals mg) (c : SaysY PG fa fn tf h K) : Fu PG w K mg base "is_integer_programs" ["value"] 1 S_isi := let ⟨fd, F⟩ := f_s_isi c; ⟨_, fd, a_s_isi X G c F, ok_isi (txt X G c)  F⟩
theorem f_s_at (c : SaysY PG fa fn tf h K) : ∃ fd, Fun K "are_things" "are_things" s_at (ga K "are_things") fd := let ⟨fd, D⟩ := c.d.def_ 37 (d := dd "are_things" "are_things" s_at) rfl; ⟨fd, fun_of D⟩
theorem a_s_at (X : K.In h) (G : h.Ns mainGlobals mg) (c : SaysY PG fa fn tf h K) {fd : FuncData} (F : Fun K "are_things" "are_things" s_at (ga K "are_things") fd) : At K mg "are_things" (ga K "are_things") fd ["d", "value", "many"] := at_of F (glo_ok X G (c.d.fact 37 (f := .glo "are_things") rfl)) (fun _ _ _ _ _ _ us hl => match us, hl with | [_, _, _], _ => rfl) (fun _ _ _ _ _ _ us hl => match us, hl with | [_, _, _], _ => rfl)
theorem gu_s_at (X : K.In h) (G : h.Ns mainGlobals mg) (c : SaysY PG fa fn tf h K) : Fu PG w K mg base "are_things" ["d", "value", "many"] 2 S_at := let ⟨fd, F⟩ := f_s_at c; ⟨_, fd, a_s_at X G c F, ok_at (txt X G c) (gu_s_isj X G c) F⟩
theorem f_s_ns (c : SaysY PG fa fn tf h K) : ∃ fd, Fun K "need_step" "need_step" s_ns (ga K "need_step") fd := let ⟨fd, D⟩ := c.d.def_ 26 (d := dd "need_step" "need_step" s_ns) rfl; ⟨fd, fun_of D⟩
theorem a_s_ns (X : K.In h) (G : h.Ns mainGlobals mg) (c : SaysY PG fa fn tf h K) {fd : FuncData} (F : Fun K "need_step" "need_step" s_ns (ga K "need_step") fd) : At K mg "need_step" (ga K "need_step") fd ["program"] := at_of F (glo_ok X G (c.d.fact 26 (f := .glo "need_step") rfl)) (fun _ _ _ _ _ _ us hl => match us, hl with | [_], _ => rfl) (fun _ _ _ _ _ _ us hl => match us, hl with | [_], _ => rfl)
theorem gu_s_ns (X : K.In h) (G : h.Ns mainGlobals mg) (c : SaysY PG fa fn tf h K) : Fu PG w K mg base "need_step" ["program"] 1 S_ns := let ⟨fd, F⟩ := f_s_ns c; ⟨_, fd, a_s_ns X G c F, ok_ns (txt X G c)  F⟩
theorem f_s_wj (c : SaysY PG fa fn tf h K) : ∃ fd, Fun K "words_joined" "words_joined" s_wj (ga K "words_joined") fd := let ⟨fd, D⟩ := c.d.def_ 16 (d := dd "words_joined" "words_joined" s_wj) rfl; ⟨fd, fun_of D⟩
theorem a_s_wj (X : K.In h) (G : h.Ns mainGlobals mg) (c : SaysY PG fa fn tf h K) {fd : FuncData} (F : Fun K "words_joined" "words_joined" s_wj (ga K "words_joined") fd) : At K mg "words_joined" (ga K "words_joined") fd ["one", "other"] := at_of F (glo_ok X G (c.d.fact 16 (f := .glo "words_joined") rfl)) (fun _ _ _ _ _ _ us hl => match us, hl with | [_, _], _ => rfl) (fun _ _ _ _ _ _ us hl => match us, hl with | [_, _], _ => rfl)
theorem gu_s_wj (X : K.In h) (G : h.Ns mainGlobals mg) (c : SaysY PG fa fn tf h K) : Fu PG w K mg base "words_joined" ["one", "other"] 1 S_wj := let ⟨fd, F⟩ := f_s_wj c; ⟨_, fd, a_s_wj X G c F, ok_wj (txt X G c)  F⟩
theorem f_s_wb (c : SaysY PG fa fn tf h K) : ∃ fd, Fun K "word_back" "word_back" s_wb (ga K "word_back") fd := let ⟨fd, D⟩ := c.d.def_ 17 (d := dd "word_back" "word_back" s_wb) rfl; ⟨fd, fun_of D⟩
theorem a_s_wb (X : K.In h) (G : h.Ns mainGlobals mg) (c : SaysY PG fa fn tf h K) {fd : FuncData} (F : Fun K "word_back" "word_back" s_wb (ga K "word_back") fd) : At K mg "word_back" (ga K "word_back") fd ["word"] := at_of F (glo_ok X G (c.d.fact 17 (f := .glo "word_back") rfl)) (fun _ _ _ _ _ _ us hl => match us, hl with | [_], _ => rfl) (fun _ _ _ _ _ _ us hl => match us, hl with | [_], _ => rfl)
theorem gu_s_wb (X : K.In h) (G : h.Ns mainGlobals mg) (c : SaysY PG fa fn tf h K) : Fu PG w K mg base "word_back" ["word"] 2 S_wb := let ⟨fd, F⟩ := f_s_wb c; ⟨_, fd, a_s_wb X G c F, ok_wb (txt X G c) (gu_s_ob X G c) F⟩
theorem f_s_se (c : SaysY PG fa fn tf h K) : ∃ fd, Fun K "states_error" "states_error" s_se (ga K "states_error") fd := let ⟨fd, D⟩ := c.d.def_ 38 (d := dd "states_error" "states_error" s_se) rfl; ⟨fd, fun_of D⟩
theorem a_s_se (X : K.In h) (G : h.Ns mainGlobals mg) (c : SaysY PG fa fn tf h K) {fd : FuncData} (F : Fun K "states_error" "states_error" s_se (ga K "states_error") fd) : At K mg "states_error" (ga K "states_error") fd ["word", "bits", "first", "value"] := at_of F (glo_ok X G (c.d.fact 38 (f := .glo "states_error") rfl)) (fun _ _ _ _ _ _ us hl => match us, hl with | [_, _, _, _], _ => rfl) (fun _ _ _ _ _ _ us hl => match us, hl with | [_, _, _, _], _ => rfl)
theorem gu_s_se (X : K.In h) (G : h.Ns mainGlobals mg) (c : SaysY PG fa fn tf h K) : Fu PG w K mg base "states_error" ["word", "bits", "first", "value"] 3 S_se := let ⟨fd, F⟩ := f_s_se c; ⟨_, fd, a_s_se X G c F, ok_se (txt X G c) (gu_s_at X G c) F⟩
theorem f_s_li (c : SaysY PG fa fn tf h K) : ∃ fd, Fun K "leading_items" "leading_items" s_li (ga K "leading_items") fd := let ⟨fd, D⟩ := c.d.def_ 40 (d := dd "leading_items" "leading_items" s_li) rfl; ⟨fd, fun_of D⟩
theorem a_s_li (X : K.In h) (G : h.Ns mainGlobals mg) (c : SaysY PG fa fn tf h K) {fd : FuncData} (F : Fun K "leading_items" "leading_items" s_li (ga K "leading_items") fd) : At K mg "leading_items" (ga K "leading_items") fd ["n", "word", "first", "last"] := at_of F (glo_ok X G (c.d.fact 40 (f := .glo "leading_items") rfl)) (fun _ _ _ _ _ _ us hl => match us, hl with | [_, _, _, _], _ => rfl) (fun _ _ _ _ _ _ us hl => match us, hl with | [_, _, _, _], _ => rfl)
theorem gu_s_li (X : K.In h) (G : h.Ns mainGlobals mg) (c : SaysY PG fa fn tf h K) : Fu PG w K mg base "leading_items" ["n", "word", "first", "last"] 2 S_li := let ⟨fd, F⟩ := f_s_li c; ⟨_, fd, a_s_li X G c F, ok_li (txt X G c) (gu_s_sa X G c) (gu_s_ar X G c) F⟩
theorem f_s_ia (c : SaysY PG fa fn tf h K) : ∃ fd, Fun K "is_arrow" "is_arrow" s_ia (ga K "is_arrow") fd := let ⟨fd, D⟩ := c.d.def_ 21 (d := dd "is_arrow" "is_arrow" s_ia) rfl; ⟨fd, fun_of D⟩
theorem a_s_ia (X : K.In h) (G : h.Ns mainGlobals mg) (c : SaysY PG fa fn tf h K) {fd : FuncData} (F : Fun K "is_arrow" "is_arrow" s_ia (ga K "is_arrow") fd) : At K mg "is_arrow" (ga K "is_arrow") fd ["p", "n", "l", "value"] := at_of F (glo_ok X G (c.d.fact 21 (f := .glo "is_arrow") rfl)) (fun _ _ _ _ _ _ us hl => match us, hl with | [_, _, _, _], _ => rfl) (fun _ _ _ _ _ _ us hl => match us, hl with | [_, _, _, _], _ => rfl)
theorem gu_s_ia (X : K.In h) (G : h.Ns mainGlobals mg) (c : SaysY PG fa fn tf h K) : Fu PG w K mg base "is_arrow" ["p", "n", "l", "value"] 2 S_ia := let ⟨fd, F⟩ := f_s_ia c; ⟨_, fd, a_s_ia X G c F, ok_ia (txt X G c) (gu_s_isi X G c) F⟩
theorem f_s_pe (c : SaysY PG fa fn tf h K) : ∃ fd, Fun K "program_error" "program_error" s_pe (ga K "program_error") fd := let ⟨fd, D⟩ := c.d.def_ 22 (d := dd "program_error" "program_error" s_pe) rfl; ⟨fd, fun_of D⟩
theorem a_s_pe (X : K.In h) (G : h.Ns mainGlobals mg) (c : SaysY PG fa fn tf h K) {fd : FuncData} (F : Fun K "program_error" "program_error" s_pe (ga K "program_error") fd) : At K mg "program_error" (ga K "program_error") fd ["value"] := at_of F (glo_ok X G (c.d.fact 22 (f := .glo "program_error") rfl)) (fun _ _ _ _ _ _ us hl => match us, hl with | [_], _ => rfl) (fun _ _ _ _ _ _ us hl => match us, hl with | [_], _ => rfl)
theorem gu_s_pe (X : K.In h) (G : h.Ns mainGlobals mg) (c : SaysY PG fa fn tf h K) : Fu PG w K mg base "program_error" ["value"] 3 S_pe := let ⟨fd, F⟩ := f_s_pe c; ⟨_, fd, a_s_pe X G c F, ok_pe (txt X G c) (gu_s_isi X G c) (gu_s_ia X G c) F⟩
theorem f_s_wl (c : SaysY PG fa fn tf h K) : ∃ fd, Fun K "word_led" "word_led" s_wl (ga K "word_led") fd := let ⟨fd, D⟩ := c.d.def_ 19 (d := dd "word_led" "word_led" s_wl) rfl; ⟨fd, fun_of D⟩
theorem a_s_wl (X : K.In h) (G : h.Ns mainGlobals mg) (c : SaysY PG fa fn tf h K) {fd : FuncData} (F : Fun K "word_led" "word_led" s_wl (ga K "word_led") fd) : At K mg "word_led" (ga K "word_led") fd ["word", "by"] := at_of F (glo_ok X G (c.d.fact 19 (f := .glo "word_led") rfl)) (fun _ _ _ _ _ _ us hl => match us, hl with | [_, _], _ => rfl) (fun _ _ _ _ _ _ us hl => match us, hl with | [_, _], _ => rfl)
theorem gu_s_wl (X : K.In h) (G : h.Ns mainGlobals mg) (c : SaysY PG fa fn tf h K) : Fu PG w K mg base "word_led" ["word", "by"] 3 S_wl := let ⟨fd, F⟩ := f_s_wl c; ⟨_, fd, a_s_wl X G c F, ok_wl (txt X G c) (gu_s_oj X G c) (gu_s_ob X G c) (gu_s_tb X G c) F⟩
theorem f_s_uw (c : SaysY PG fa fn tf h K) : ∃ fd, Fun K "upper_of_weights" "upper_of_weights" s_uw (ga K "upper_of_weights") fd := let ⟨fd, D⟩ := c.d.def_ 27 (d := dd "upper_of_weights" "upper_of_weights" s_uw) rfl; ⟨fd, fun_of D⟩
theorem a_s_uw (X : K.In h) (G : h.Ns mainGlobals mg) (c : SaysY PG fa fn tf h K) {fd : FuncData} (F : Fun K "upper_of_weights" "upper_of_weights" s_uw (ga K "upper_of_weights") fd) : At K mg "upper_of_weights" (ga K "upper_of_weights") fd ["program", "weights"] := at_of F (glo_ok X G (c.d.fact 27 (f := .glo "upper_of_weights") rfl)) (fun _ _ _ _ _ _ us hl => match us, hl with | [_, _], _ => rfl) (fun _ _ _ _ _ _ us hl => match us, hl with | [_, _], _ => rfl)
theorem gu_s_uw (X : K.In h) (G : h.Ns mainGlobals mg) (c : SaysY PG fa fn tf h K) : Fu PG w K mg base "upper_of_weights" ["program", "weights"] 1 S_uw := let ⟨fd, F⟩ := f_s_uw c; ⟨_, fd, a_s_uw X G c F, ok_uw (txt X G c)  F⟩
theorem f_s_so (c : SaysY PG fa fn tf h K) : ∃ fd, Fun K "stair_of" "stair_of" s_so (ga K "stair_of") fd := let ⟨fd, D⟩ := c.d.def_ 28 (d := dd "stair_of" "stair_of" s_so) rfl; ⟨fd, fun_of D⟩
theorem a_s_so (X : K.In h) (G : h.Ns mainGlobals mg) (c : SaysY PG fa fn tf h K) {fd : FuncData} (F : Fun K "stair_of" "stair_of" s_so (ga K "stair_of") fd) : At K mg "stair_of" (ga K "stair_of") fd ["program", "items"] := at_of F (glo_ok X G (c.d.fact 28 (f := .glo "stair_of") rfl)) (fun _ _ _ _ _ _ us hl => match us, hl with | [_, _], _ => rfl) (fun _ _ _ _ _ _ us hl => match us, hl with | [_, _], _ => rfl)
theorem gu_s_so (X : K.In h) (G : h.Ns mainGlobals mg) (c : SaysY PG fa fn tf h K) : Fu PG w K mg base "stair_of" ["program", "items"] 2 S_so := let ⟨fd, F⟩ := f_s_so c; ⟨_, fd, a_s_so X G c F, ok_so (txt X G c) (gu_s_aw X G c) (gu_s_ns X G c) (gu_s_uw X G c) F⟩
theorem f_s_ln (c : SaysY PG fa fn tf h K) : ∃ fd, Fun K "lead_numbers" "lead_numbers" s_ln (ga K "lead_numbers") fd := let ⟨fd, D⟩ := c.d.def_ 39 (d := dd "lead_numbers" "lead_numbers" s_ln) rfl; ⟨fd, fun_of D⟩
theorem a_s_ln (X : K.In h) (G : h.Ns mainGlobals mg) (c : SaysY PG fa fn tf h K) {fd : FuncData} (F : Fun K "lead_numbers" "lead_numbers" s_ln (ga K "lead_numbers") fd) : At K mg "lead_numbers" (ga K "lead_numbers") fd ["n", "word"] := at_of F (glo_ok X G (c.d.fact 39 (f := .glo "lead_numbers") rfl)) (fun _ _ _ _ _ _ us hl => match us, hl with | [_, _], _ => rfl) (fun _ _ _ _ _ _ us hl => match us, hl with | [_, _], _ => rfl)
theorem gu_s_ln (X : K.In h) (G : h.Ns mainGlobals mg) (c : SaysY PG fa fn tf h K) : Fu PG w K mg base "lead_numbers" ["n", "word"] 2 S_ln := let ⟨fd, F⟩ := f_s_ln c; ⟨_, fd, a_s_ln X G c F, ok_ln (txt X G c) (gu_s_sa X G c) (gu_s_ar X G c) F⟩
theorem f_s_dw (c : SaysY PG fa fn tf h K) : ∃ fd, Fun K "_law_draw" "_law_draw" s_dw (ga K "_law_draw") fd := let ⟨fd, D⟩ := c.d.def_ 42 (d := dd "_law_draw" "_law_draw" s_dw) rfl; ⟨fd, fun_of D⟩
theorem a_s_dw (X : K.In h) (G : h.Ns mainGlobals mg) (c : SaysY PG fa fn tf h K) {fd : FuncData} (F : Fun K "_law_draw" "_law_draw" s_dw (ga K "_law_draw") fd) : At K mg "_law_draw" (ga K "_law_draw") fd ["pot", "many"] := at_of F (glo_ok X G (c.d.fact 42 (f := .glo "_law_draw") rfl)) (fun _ _ _ _ _ _ us hl => match us, hl with | [_, _], _ => rfl) (fun _ _ _ _ _ _ us hl => match us, hl with | [_, _], _ => rfl)
theorem gu_s_dw (X : K.In h) (G : h.Ns mainGlobals mg) (c : SaysY PG fa fn tf h K) : FuE PG w K mg base "_law_draw" ["pot", "many"] 1 PreDw PostDw := let ⟨fd, F⟩ := f_s_dw c; ⟨_, fd, a_s_dw X G c F, ok_dw (txt X G c)  F⟩
theorem f_s_pk (c : SaysY PG fa fn tf h K) : ∃ fd, Fun K "_law_pick" "_law_pick" s_pk (ga K "_law_pick") fd := let ⟨fd, D⟩ := c.d.def_ 43 (d := dd "_law_pick" "_law_pick" s_pk) rfl; ⟨fd, fun_of D⟩
theorem a_s_pk (X : K.In h) (G : h.Ns mainGlobals mg) (c : SaysY PG fa fn tf h K) {fd : FuncData} (F : Fun K "_law_pick" "_law_pick" s_pk (ga K "_law_pick") fd) : At K mg "_law_pick" (ga K "_law_pick") fd ["pot", "row"] := at_of F (glo_ok X G (c.d.fact 43 (f := .glo "_law_pick") rfl)) (fun _ _ _ _ _ _ us hl => match us, hl with | [_, _], _ => rfl) (fun _ _ _ _ _ _ us hl => match us, hl with | [_, _], _ => rfl)
theorem gu_s_pk (X : K.In h) (G : h.Ns mainGlobals mg) (c : SaysY PG fa fn tf h K) : FuE PG w K mg base "_law_pick" ["pot", "row"] 2 PrePk PostPk := let ⟨fd, F⟩ := f_s_pk c; ⟨_, fd, a_s_pk X G c F, ok_pk (txt X G c) (gu_s_dw X G c) F⟩
theorem f_s_rw (c : SaysY PG fa fn tf h K) : ∃ fd, Fun K "_law_row" "_law_row" s_rw (ga K "_law_row") fd := let ⟨fd, D⟩ := c.d.def_ 47 (d := dd "_law_row" "_law_row" s_rw) rfl; ⟨fd, fun_of D⟩
theorem a_s_rw (X : K.In h) (G : h.Ns mainGlobals mg) (c : SaysY PG fa fn tf h K) {fd : FuncData} (F : Fun K "_law_row" "_law_row" s_rw (ga K "_law_row") fd) : At K mg "_law_row" (ga K "_law_row") fd ["pot", "p", "n"] := at_of F (glo_ok X G (c.d.fact 47 (f := .glo "_law_row") rfl)) (fun _ _ _ _ _ _ us hl => match us, hl with | [_, _, _], _ => rfl) (fun _ _ _ _ _ _ us hl => match us, hl with | [_, _, _], _ => rfl)
theorem gu_s_rw (X : K.In h) (G : h.Ns mainGlobals mg) (c : SaysY PG fa fn tf h K) : FuE PG w K mg base "_law_row" ["pot", "p", "n"] 2 PreRw PostRw := let ⟨fd, F⟩ := f_s_rw c; ⟨_, fd, a_s_rw X G c F, ok_rw (txt X G c) (gu_s_dw X G c) F⟩
theorem f_s_mx (c : SaysY PG fa fn tf h K) : ∃ fd, Fun K "_law_mixed" "_law_mixed" s_mx (ga K "_law_mixed") fd := let ⟨fd, D⟩ := c.d.def_ 44 (d := dd "_law_mixed" "_law_mixed" s_mx) rfl; ⟨fd, fun_of D⟩
theorem a_s_mx (X : K.In h) (G : h.Ns mainGlobals mg) (c : SaysY PG fa fn tf h K) {fd : FuncData} (F : Fun K "_law_mixed" "_law_mixed" s_mx (ga K "_law_mixed") fd) : At K mg "_law_mixed" (ga K "_law_mixed") fd ["pot", "row"] := at_of F (glo_ok X G (c.d.fact 44 (f := .glo "_law_mixed") rfl)) (fun _ _ _ _ _ _ us hl => match us, hl with | [_, _], _ => rfl) (fun _ _ _ _ _ _ us hl => match us, hl with | [_, _], _ => rfl)
theorem gu_s_mx (X : K.In h) (G : h.Ns mainGlobals mg) (c : SaysY PG fa fn tf h K) : FuE PG w K mg base "_law_mixed" ["pot", "row"] 2 PreMx PostMx := let ⟨fd, F⟩ := f_s_mx c; ⟨_, fd, a_s_mx X G c F, ok_mx (txt X G c) (gu_s_dw X G c) F⟩
theorem f_s_or (c : SaysY PG fa fn tf h K) : ∃ fd, Fun K "_law_order" "_law_order" s_or (ga K "_law_order") fd := let ⟨fd, D⟩ := c.d.def_ 50 (d := dd "_law_order" "_law_order" s_or) rfl; ⟨fd, fun_of D⟩
theorem a_s_or (X : K.In h) (G : h.Ns mainGlobals mg) (c : SaysY PG fa fn tf h K) {fd : FuncData} (F : Fun K "_law_order" "_law_order" s_or (ga K "_law_order") fd) : At K mg "_law_order" (ga K "_law_order") fd ["pot", "d"] := at_of F (glo_ok X G (c.d.fact 50 (f := .glo "_law_order") rfl)) (fun _ _ _ _ _ _ us hl => match us, hl with | [_, _], _ => rfl) (fun _ _ _ _ _ _ us hl => match us, hl with | [_, _], _ => rfl)
theorem gu_s_or (X : K.In h) (G : h.Ns mainGlobals mg) (c : SaysY PG fa fn tf h K) : FuE PG w K mg base "_law_order" ["pot", "d"] 3 PreOr PostOr := let ⟨fd, F⟩ := f_s_or c; ⟨_, fd, a_s_or X G c F, ok_or (txt X G c) (gu_s_mx X G c) F⟩
theorem f_s_wd (c : SaysY PG fa fn tf h K) : ∃ fd, Fun K "_law_word" "_law_word" s_wd (ga K "_law_word") fd := let ⟨fd, D⟩ := c.d.def_ 51 (d := dd "_law_word" "_law_word" s_wd) rfl; ⟨fd, fun_of D⟩
theorem a_s_wd (X : K.In h) (G : h.Ns mainGlobals mg) (c : SaysY PG fa fn tf h K) {fd : FuncData} (F : Fun K "_law_word" "_law_word" s_wd (ga K "_law_word") fd) : At K mg "_law_word" (ga K "_law_word") fd ["pot", "n", "d", "many"] := at_of F (glo_ok X G (c.d.fact 51 (f := .glo "_law_word") rfl)) (fun _ _ _ _ _ _ us hl => match us, hl with | [_, _, _, _], _ => rfl) (fun _ _ _ _ _ _ us hl => match us, hl with | [_, _, _, _], _ => rfl)
theorem gu_s_wd (X : K.In h) (G : h.Ns mainGlobals mg) (c : SaysY PG fa fn tf h K) : FuE PG w K mg base "_law_word" ["pot", "n", "d", "many"] 4 PreWd PostWd := let ⟨fd, F⟩ := f_s_wd c; ⟨_, fd, a_s_wd X G c F, ok_wd (txt X G c) (gu_s_dw X G c) (gu_s_pk X G c) (gu_s_or X G c) F⟩
theorem f_s_pt (c : SaysY PG fa fn tf h K) : ∃ fd, Fun K "put_together" "put_together" s_pt (ga K "put_together") fd := let ⟨fd, D⟩ := c.d.def_ 0 (d := dd "put_together" "put_together" s_pt) rfl; ⟨fd, fun_of D⟩
theorem a_s_pt (X : K.In h) (G : h.Ns mainGlobals mg) (c : SaysY PG fa fn tf h K) {fd : FuncData} (F : Fun K "put_together" "put_together" s_pt (ga K "put_together") fd) : At K mg "put_together" (ga K "put_together") fd ["p", "arrows"] := at_of F (glo_ok X G (c.d.fact 0 (f := .glo "put_together") rfl)) (fun _ _ _ _ _ _ us hl => match us, hl with | [_, _], _ => rfl) (fun _ _ _ _ _ _ us hl => match us, hl with | [_, _], _ => rfl)
theorem gu_s_pt (X : K.In h) (G : h.Ns mainGlobals mg) (c : SaysY PG fa fn tf h K) : Fu PG w K mg base "put_together" ["p", "arrows"] 1 S_pt := let ⟨fd, F⟩ := f_s_pt c; ⟨_, fd, a_s_pt X G c F, ok_pt (txt X G c)  F⟩
theorem f_s_pb (c : SaysY PG fa fn tf h K) : ∃ fd, Fun K "places_behind" "places_behind" s_pb (ga K "places_behind") fd := let ⟨fd, D⟩ := c.d.def_ 2 (d := dd "places_behind" "places_behind" s_pb) rfl; ⟨fd, fun_of D⟩
theorem a_s_pb (X : K.In h) (G : h.Ns mainGlobals mg) (c : SaysY PG fa fn tf h K) {fd : FuncData} (F : Fun K "places_behind" "places_behind" s_pb (ga K "places_behind") fd) : At K mg "places_behind" (ga K "places_behind") fd ["word", "first", "last", "t"] := at_of F (glo_ok X G (c.d.fact 2 (f := .glo "places_behind") rfl)) (fun _ _ _ _ _ _ us hl => match us, hl with | [_, _, _, _], _ => rfl) (fun _ _ _ _ _ _ us hl => match us, hl with | [_, _, _, _], _ => rfl)
theorem gu_s_pb (X : K.In h) (G : h.Ns mainGlobals mg) (c : SaysY PG fa fn tf h K) : Fu PG w K mg base "places_behind" ["word", "first", "last", "t"] 2 S_pb := let ⟨fd, F⟩ := f_s_pb c; ⟨_, fd, a_s_pb X G c F, ok_pb (txt X G c) (gu_s_wp X G c) F⟩
theorem f_s_ta (c : SaysY PG fa fn tf h K) : ∃ fd, Fun K "turn_arrows" "turn_arrows" s_ta (ga K "turn_arrows") fd := let ⟨fd, D⟩ := c.d.def_ 3 (d := dd "turn_arrows" "turn_arrows" s_ta) rfl; ⟨fd, fun_of D⟩
theorem a_s_ta (X : K.In h) (G : h.Ns mainGlobals mg) (c : SaysY PG fa fn tf h K) {fd : FuncData} (F : Fun K "turn_arrows" "turn_arrows" s_ta (ga K "turn_arrows") fd) : At K mg "turn_arrows" (ga K "turn_arrows") fd ["turn", "here", "behind"] := at_of F (glo_ok X G (c.d.fact 3 (f := .glo "turn_arrows") rfl)) (fun _ _ _ _ _ _ us hl => match us, hl with | [_, _, _], _ => rfl) (fun _ _ _ _ _ _ us hl => match us, hl with | [_, _, _], _ => rfl)
theorem gu_s_ta (X : K.In h) (G : h.Ns mainGlobals mg) (c : SaysY PG fa fn tf h K) : Fu PG w K mg base "turn_arrows" ["turn", "here", "behind"] 1 S_ta := let ⟨fd, F⟩ := f_s_ta c; ⟨_, fd, a_s_ta X G c F, ok_ta (txt X G c)  F⟩
theorem f_s_pw (c : SaysY PG fa fn tf h K) : ∃ fd, Fun K "program_of_word" "program_of_word" s_pw (ga K "program_of_word") fd := let ⟨fd, D⟩ := c.d.def_ 4 (d := dd "program_of_word" "program_of_word" s_pw) rfl; ⟨fd, fun_of D⟩
theorem a_s_pw (X : K.In h) (G : h.Ns mainGlobals mg) (c : SaysY PG fa fn tf h K) {fd : FuncData} (F : Fun K "program_of_word" "program_of_word" s_pw (ga K "program_of_word") fd) : At K mg "program_of_word" (ga K "program_of_word") fd ["p", "n", "word", "first", "last"] := at_of F (glo_ok X G (c.d.fact 4 (f := .glo "program_of_word") rfl)) (fun _ _ _ _ _ _ us hl => match us, hl with | [_, _, _, _, _], _ => rfl) (fun _ _ _ _ _ _ us hl => match us, hl with | [_, _, _, _, _], _ => rfl)
theorem f_s_lh (c : SaysY PG fa fn tf h K) : ∃ fd, Fun K "_law_heard" "_law_heard" s_lh (ga K "_law_heard") fd := let ⟨fd, D⟩ := c.d.def_ 45 (d := dd "_law_heard" "_law_heard" s_lh) rfl; ⟨fd, fun_of D⟩
theorem a_s_lh (X : K.In h) (G : h.Ns mainGlobals mg) (c : SaysY PG fa fn tf h K) {fd : FuncData} (F : Fun K "_law_heard" "_law_heard" s_lh (ga K "_law_heard") fd) : At K mg "_law_heard" (ga K "_law_heard") fd ["call"] := at_of F (glo_ok X G (c.d.fact 45 (f := .glo "_law_heard") rfl)) (fun _ _ _ _ _ _ us hl => match us, hl with | [_], _ => rfl) (fun _ _ _ _ _ _ us hl => match us, hl with | [_], _ => rfl)
theorem f_s_ip (c : SaysY PG fa fn tf h K) : ∃ fd, Fun K "_law_is_program_right" "_law_is_program_right" s_ip (ga K "_law_is_program_right") fd := let ⟨fd, D⟩ := c.d.def_ 58 (d := dd "_law_is_program_right" "_law_is_program_right" s_ip) rfl; ⟨fd, fun_of D⟩
theorem a_s_ip (X : K.In h) (G : h.Ns mainGlobals mg) (c : SaysY PG fa fn tf h K) {fd : FuncData} (F : Fun K "_law_is_program_right" "_law_is_program_right" s_ip (ga K "_law_is_program_right") fd) : At K mg "_law_is_program_right" (ga K "_law_is_program_right") fd ["pot", "n", "word", "p", "first", "last"] := at_of F (glo_ok X G (c.d.fact 58 (f := .glo "_law_is_program_right") rfl)) (fun _ _ _ _ _ _ us hl => match us, hl with | [_, _, _, _, _, _], _ => rfl) (fun _ _ _ _ _ _ us hl => match us, hl with | [_, _, _, _, _, _], _ => rfl)
theorem f_s_al (c : SaysY PG fa fn tf h K) : ∃ fd, Fun K "_law_are_leads_right" "_law_are_leads_right" s_al (ga K "_law_are_leads_right") fd := let ⟨fd, D⟩ := c.d.def_ 59 (d := dd "_law_are_leads_right" "_law_are_leads_right" s_al) rfl; ⟨fd, fun_of D⟩
theorem a_s_al (X : K.In h) (G : h.Ns mainGlobals mg) (c : SaysY PG fa fn tf h K) {fd : FuncData} (F : Fun K "_law_are_leads_right" "_law_are_leads_right" s_al (ga K "_law_are_leads_right") fd) : At K mg "_law_are_leads_right" (ga K "_law_are_leads_right") fd ["pot", "n", "word", "p"] := at_of F (glo_ok X G (c.d.fact 59 (f := .glo "_law_are_leads_right") rfl)) (fun _ _ _ _ _ _ us hl => match us, hl with | [_, _, _, _], _ => rfl) (fun _ _ _ _ _ _ us hl => match us, hl with | [_, _, _, _], _ => rfl)
theorem f_s_lpot (c : SaysY PG fa fn tf h K) : ∃ fd, Fun K "_law_pot" "_law_pot" s_lpot (ga K "_law_pot") fd := let ⟨fd, D⟩ := c.d.def_ 41 (d := dd "_law_pot" "_law_pot" s_lpot) rfl; ⟨fd, fun_of D⟩
theorem a_s_lpot (X : K.In h) (G : h.Ns mainGlobals mg) (c : SaysY PG fa fn tf h K) {fd : FuncData} (F : Fun K "_law_pot" "_law_pot" s_lpot (ga K "_law_pot") fd) : At K mg "_law_pot" (ga K "_law_pot") fd ["script"] := at_of F (glo_ok X G (c.d.fact 41 (f := .glo "_law_pot") rfl)) (fun _ _ _ _ _ _ us hl => match us, hl with | [_], _ => rfl) (fun _ _ _ _ _ _ us hl => match us, hl with | [_], _ => rfl)
theorem f_s_law (c : SaysY PG fa fn tf h K) : ∃ fd, Fun K "law" "law" s_law (ga K "law") fd := let ⟨fd, D⟩ := c.d.def_ 60 (d := dd "law" "law" s_law) rfl; ⟨fd, fun_of D⟩
theorem a_s_law (X : K.In h) (G : h.Ns mainGlobals mg) (c : SaysY PG fa fn tf h K) {fd : FuncData} (F : Fun K "law" "law" s_law (ga K "law") fd) : At K mg "law" (ga K "law") fd ["script"] := at_of F (glo_ok X G (c.d.fact 60 (f := .glo "law") rfl)) (fun _ _ _ _ _ _ us hl => match us, hl with | [_], _ => rfl) (fun _ _ _ _ _ _ us hl => match us, hl with | [_], _ => rfl)
theorem funC_of {nm qual : Str} {st : Stmt} {p : Defn} {fd : FuncData} (F : Fun K nm qual st (fAd K p) fd) : FunC K nm qual st (fAd K p) fd (cT K p).1 := by
  have kp := F.kp
  obtain ⟨oc, od, kV, doc, pm, an, cdv, ct, osl, rfl, lk, hcd⟩ := F.ex
  obtain ⟨c, rfl⟩ := codeIn_ref hcd
  have e : (cT K p).1 = c := codeOf_eq lk rfl
  rw [e]
  exact ⟨⟨oc, od, kV, doc, pm, an, ct, osl, rfl, lk, hcd⟩, kp⟩
theorem law_base (X : K.In h) (G : h.Ns mainGlobals mg) (c : SaysY PG fa fn tf h K) (TB : LamX.TabB base mg (cT K ("_law_is_program_right", none)).1 (cT K ("_law_is_program_right", none)).2) {fd : FuncData} (F : Fun K "law" "law" s_law (ga K "law") fd) :
    FnG PG w K mg base L2.CX0 7 (ga K "law") fd ["script"] (spLaw K (cT K ("_law_is_program_right", none)).2) := by
  have T := txt X G c
  obtain ⟨U1, U2⟩ := err_of (P := PG) (mg := mg) c.ti c.more (glo_ok X G (c.d.fact 63 (f := .glo "TooMany") rfl)) (glo_ok X G (c.d.fact 62 (f := .glo "Unfit") rfl)) (glo_ok X G (c.d.fact 61 (f := .glo "SayError") rfl)) (free_ok X G (c.d.fact 79 (f := .free "super") rfl))
  obtain ⟨fdp, Fp⟩ := f_s_pw c
  obtain ⟨fdh, Fh⟩ := f_s_lh c
  obtain ⟨fdi, Fi⟩ := f_s_ip c
  obtain ⟨fda, Fa'⟩ := f_s_al c
  obtain ⟨fdo, Fo⟩ := f_s_lpot c
  have Ap := a_s_pw X G c Fp
  have Ah := a_s_lh X G c Fh
  have Gp := ok_pw (P := PG) (w := w) (base := base) T (gu_s_wp X G c) (gu_s_pb X G c) (gu_s_ta X G c) (gu_s_pt X G c) U1 Fp
  have Gi : FuG PG w K mg base "_law_is_program_right" ["pot", "n", "word", "p", "first", "last"] 6 (fun Pt => Pt.tabs = some [((cT K ("_law_is_program_right", none)).2, qLam)]) PreIp PostIp := ⟨_, fdi, a_s_ip X G c Fi, ok_ip (fT := tiAd K) (cda := tiCode K) (cc := tiCell K) T ⟨gu_s_lp X G c, gu_s_lr X G c, gu_s_lc X G c, gu_s_ld X G c, gu_s_pe X G c, gu_s_pv X G c, gu_s_lpv X G c, gu_s_de X G c, (Fu.up (gu_s_so X G c) (by decide))⟩ U2 Fh Ah.bd Ah.gl Ap Gp TB (funC_of (p := ("_law_is_program_right", none)) Fi)⟩
  have Ga : FuG PG w K mg base "_law_are_leads_right" ["pot", "n", "word", "p"] 5 (fun _ => True) PreAl PostAl := ⟨_, fda, a_s_al X G c Fa', ok_al T ⟨gu_s_lr X G c, gu_s_lc X G c, gu_s_ld X G c, gu_s_dw X G c, gu_s_lm X G c, gu_s_wo X G c, gu_s_wm X G c, gu_s_tm X G c, gu_s_om2 X G c, gu_s_om X G c, gu_s_sa X G c, gu_s_se X G c, gu_s_ln X G c, gu_s_li X G c⟩ Fa'⟩
  exact ok_law T ⟨gu_s_dw X G c, gu_s_pk X G c, gu_s_wd X G c, gu_s_or X G c, gu_s_rw X G c, gu_s_wp X G c, gu_s_lp X G c, gu_s_lc X G c, gu_s_ld X G c, gu_s_lth X G c, gu_s_lu X G c, gu_s_om2 X G c, gu_s_wm X G c, gu_s_wj X G c, gu_s_wb X G c, gu_s_wl X G c, Gi, Ga⟩ (a_s_lpot X G c Fo) (ok_pot T Fo) F
end
end K87
end
section
set_option Elab.async false
set_option linter.all false
set_option maxRecDepth 100000
set_option maxHeartbeats 0
open PySem PySem.W PySem.Calls PyProof.Rows
theorem PySem.Challenge.cw_eachsaysonce_k87_whole_words_as_programs_holds : PySem.Challenge.rw_eachsaysonce_k87_whole_words_as_programs.Holds := by
  w_on; o_law
  refine HandSHeadRun.head_any (r := OpenLaw.row PySem.Challenge.rw_eachsaysonce_k87_whole_words_as_programs) (q := K87.qv) (H := K87.hk) (ob := K87.ob) (M := 8000) (loose := K87.names) (d := HandSHeadRun.topDef (OpenLaw.row PySem.Challenge.rw_eachsaysonce_k87_whole_words_as_programs).prog 85) (kwd := []) K87.ob_eq
    (by kernel_rfl) (fun s => by kernel_rfl) K87.run (by kernel_rfl) (by kernel_rfl) (by kernel_rfl) (by rfl) (by first | assumption | decide +kernel) (by decide +kernel) ⟨rfl, rfl, rfl, rfl, rfl, by decide +kernel⟩ ?hw ?hc
  case hw => w_witness2
  case hc =>
    refine DL.walk_G (l := PySem.Challenge.rw_eachsaysonce_k87_whole_words_as_programs) (n := 63) (k := 7) (x := "script") rfl (by decide) (by kernel_rfl) ⟨rfl, by decide, by decide⟩ ?F
    intro w mg fa h Y G hmg0
    obtain ⟨K, KX, c⟩ := Y
    have hmg : mg ("law" : PySem.Str) = some (.ref fa) := by
      have e : (HandSHeadRun.topDef (OpenLaw.row PySem.Challenge.rw_eachsaysonce_k87_whole_words_as_programs).prog 85).name = ("law" : PySem.Str) := by kernel_rfl
      rw [← e]
      exact hmg0
    obtain ⟨fd, F⟩ := K87.f_s_law c
    have e : fa = He.ga K "law" := by
      have := hmg.symm.trans (K87.a_s_law KX G c F).gl
      cases this
      rfl
    subst e
    have hmem : (("_law_is_program_right" : PySem.Str), (none : Option PySem.Str)) ∈ K87.tf := List.mem_singleton.mpr rfl
    refine ⟨K, fd, _, _, K87.spLaw K (He.cT K ("_law_is_program_right", none)).2, KX, c.empty _ hmem, c.out _ hmem, PySem.W.codeHd_of_K KX (c.hd _ hmem), fun s u => ?_, fun H a ns hl hb hP hS => ⟨a, ns, rfl, hS, hl, hb, fun p hp => ?_, fun _ => rfl⟩, fun base KB GB TB => ?_⟩
    · have hb : ∀ (s : Shared) (u : Value), BindsTo s fd ⟨[u], []⟩ [(("script" : PySem.Str), u)] := by
        obtain ⟨oc, od, kV, doc, pm, an, cdv, ct, osl, rfl, lk, hcd⟩ := F.ex
        exact fun s u => .of_eq rfl
      exact hb s u
    · rw [List.mem_singleton.mp hp]
      exact LamX.TabS.nil hP
    · exact K87.law_base KX G c TB F
#print axioms PySem.Challenge.cw_eachsaysonce_k87_whole_words_as_programs_holds
end
