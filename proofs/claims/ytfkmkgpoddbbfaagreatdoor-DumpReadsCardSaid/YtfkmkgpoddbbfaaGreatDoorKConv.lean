
import Derived.Test.YtfkmkgpoddbbfaaGreatDoorKGen2
import Derived.Lib.ConvBytes
import Derived.Laws.BytesArg
import Derived.Laws.AppendOwn
set_option linter.unusedSimpArgs false
set_option linter.unusedVariables false
namespace Go.KK
open Go
def bytesOf (s:ByteArray):List Int:=s.data.toList.map fun b=>(b.toNat:Int)
theorem QfK (s:ByteArray):(bytesOf s).length=s.size:=by unfold bytesOf;rw [List.length_map,Array.length_toList];rfl
section
variable {P : Program} {ρ : Nat → Value} {M : IM} {H : HL} {d : Option Nat} {ty : TypeId} {pos : String} {af : Array Edge} {g : Option (Nat × Bool)}
theorem PO.b2s {src dst e:TypeId}{x:Operand}{u:Value}{ys:List Int}(hs:P.underlying src=some (.slice e)) (he:P.underlying e=some (.int .u8)) (hd:P.underlying dst=some .string)
  (hx:ev ρ x=u) (hS:Src (Kd.int .u8) M H u ys):PO P ⟨d, .convert src dst x,ty,pos,af,g⟩ ρ M H (.string (strOfNums ys)):=fun w hw=>by
 obtain ⟨a,n,cap,f,rfl,rfl,hr,hc⟩:=hS
 have h1:(convert src dst (.slice a ys.length cap)).run P w= .ok (.string (strOfNums ys)) w:=by
  cases a with
  |none=>
   have h0:ys=[]:=by
    cases ys with
    |nil=>rfl
    |cons y t=>
     obtain ⟨cs,r,m⟩:=hr 0 (by simp)
     have r':cs=[.int .u8 y]:=r
     subst r'
     obtain ⟨ad,e1,_⟩:=hc _ _ (m 0 _ rfl)
     cases e1
   subst h0
   rw [run_convert_bytes_nil w src e hs he _ _ dst hd]
   rfl
  |some ad=>
   have hl:(loadCells ad ys.length).run P w= .ok (ys.map (Value.int .u8)).toArray w:=by
    have:=run_loadCells_list (P:=P) w ad (ys.map (Value.int .u8)) (fun j v hj=>by
     have hjl:j<ys.length:=by
      have:=(List.getElem?_eq_some_iff.1 hj).1
      simpa using this
     obtain ⟨cs,r,m⟩:=hr j hjl
     have r':cs=[.int .u8 ys[j]]:=r
     subst r'
     obtain ⟨ad',e1,k⟩:=hc _ _ (m 0 _ rfl)
     cases e1
     have k':=k w hw
     have ez:j*(Kd.int .u8).sz+0=j:=by show j*1+0=j;omega
     rw [ez] at k'
     rw [k']
     simp [List.getElem?_eq_getElem hjl] at hj
     rw [←hj])
    simpa using this
   rw [run_convert_bytes_string w src dst e _ _ cap hs he hd,run_bytesToString w _ _ cap ys hl,foldl_push_bytes]
   simp [strOfNums,ByteArray.empty,ByteArray.emptyWithCapacity]
   rfl
 simp only [execOp,hx,Sem.run_bind,h1,Result.andThen_ok]
 rfl
theorem EO.s2b {src dst e:TypeId}{x:Operand}{s:ByteArray}{u:TypeDesc}(hs:P.underlying src=some u) (hd:P.underlying dst=some (.slice e)) (he:P.underlying e=some (.int .u8))
  (hx:ev ρ x= .string s):EO P ⟨d, .convert src dst x,ty,pos,af,g⟩ ρ M H fun v M' H'=>M=M'∧∃ c',H'=c'::H∧OwnS (Kd.int .u8) M v (bytesOf s) c':=by
 intro w hw
 have h1:=Lib.run_convert_string_bytes (P:=P) w src dst e s hs hd he
 have h2:Sat w.drew M H:=⟨hw.os,hw.tape,hw.output,hw.imm,hw.own,hw.nodup,hw.apart,hw.pre,hw.apre,hw.shr⟩
 have h3:=h2.alloc (.cells (Lib.bytesCells w e s) e)
 have hsz:w.drew.heap.size=w.heap.size:=rfl
 rw [hsz] at h3
 have h4:Sat (Lib.bytesWorld w e s) M ([(w.heap.size, .cells (Lib.bytesCells w e s) e ((Lib.bytesCells w e s).size,(Lib.bytesCells w e s).size+1))]::H):=by
  refine h3.write rfl rfl rfl (Lib.bytesWorld_at_new w e s) fun b hb=> ?_
  show ((w.drew.alloc _).freeze _ 1).heap[b]?=_
  simp only [World.freeze,Nat.succ_ne_zero,if_false,Array.getElem?_modify]
  rw [if_neg (by simpa using Ne.symm hb)]
 simp only [execOp,hx,Sem.run_bind,h1,Result.andThen_ok]
 have hg:=grownCap_ge w s.size 0 e
 have hcs:(Lib.bytesCells w e s).size=grownCap w s.size 0 e:=by
  unfold Lib.bytesCells
  have:s.data.size=s.size:=rfl
  simp
  omega
 refine⟨M,_, .refl M,h4,rfl,_,rfl,some ⟨w.heap.size,0,none⟩,s.size,grownCap w s.size 0 e,rfl,(QfK s).symm,hg, .inr ⟨w.heap.size,0,_,e,_,rfl,rfl, ?_, .inr ?_, ?_⟩⟩
 ·rw [hcs];show 0+_*1≤_;omega
 ·exact Nat.le_refl _
 ·intro i hi
  refine⟨[.int .u8 (bytesOf s)[i]],rfl,fun j v hj=> ?_⟩
  have hi':i<s.size:=by rw [←QfK];exact hi
  have hi2:i<s.data.size:=hi'
  cases j with
  |zero=>
   cases hj
   show (Lib.bytesCells w e s)[0+(i*1+0)]?=_
   rw [show 0+(i*1+0)=i by omega]
   unfold Lib.bytesCells
   rw [Array.getElem?_append_left (by simpa using hi2)]
   simp only [bytesOf,Array.getElem?_map,List.getElem_map,Array.getElem_toList,Array.getElem?_eq_getElem hi2,Option.map_some]
  |succ j=>cases hj
end
end Go.KK
