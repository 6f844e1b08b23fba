/- Go functions: what they come to, and that they do. Printed by a program of the session (gen). -/
import Derived.Test.YtpmofealbmapiaaDoorSF
import Derived.Test.YtpmofealbmapiaaDoorS0
import Derived.Test.YtpmofealbmapiaaDoorS1
import Derived.Test.YtpmofealbmapiaaDoorS2
import Derived.Test.YtpmofealbmapiaaDoorKShar2
import Derived.Test.YtpmofealbmapiaaDoorKConv
import Derived.Test.YtpmofealbmapiaaDoorKShar
import Derived.Test.YtpmofealbmapiaaDoorKArith
import Derived.Test.YtpmofealbmapiaaDoorKTight2
set_option linter.unusedVariables false
set_option linter.unusedSimpArgs false
set_option maxHeartbeats 8000000
set_option maxRecDepth 100000
namespace Go.Proofs.YtpmofealbmapiaaDoor.G
open Go Go.KK
open PO EO IntKind Sum Tryd

noncomputable def f_record_Same_1 (a0:T_api_Record):Option (List Int):=
 (some [a0.Kind,a0.Broker,a0.Epoch,a0.Topic,a0.Part,a0.Leader,a0.Client,a0.Serial,a0.Code])
def f_record_Same_1_post (a0:T_api_Record) (b c d e:Value):(List Int)→Value→IM→HL→Prop:=
 fun(a:(List Int)) (v:Value) (g:IM) (f:HL)=>(.agg #[(.int .i64 (rd a (0:Int))),(.int .i64 (rd a (1:Int))),(.int .i64 (rd a (2:Int))),(.int .i64 (rd a (3:Int))),(.int .i64 (rd a (4:Int))),(.int .i64 (rd a (5:Int))),(.int .i64 (rd a (6:Int))),(.int .i64 (rd a (7:Int))),(.int .i64 (rd a (8:Int)))])=v∧f=[]
theorem f_record_Same_1_ok (a0:T_api_Record) (M:IM) (a b c d:Value) (g:RS (Kd.int .i64) M a a0.Ids) (i:RS (Kd.int .i64) M b a0.Isr) (j:RS (Kd.int .i64) M c a0.Add) (k:RS (Kd.int .i64) M d a0.Drop) (f:(List Int)) (h:f_record_Same_1 a0=some f):
 Tri prog 47 #[(a36_ a0 a b c d)] M [] (f_record_Same_1_post a0 a b c d f):=by
 unfold f_record_Same_1 at h
 refine Te func47 Z Z ?_
 intro F n l
 refine Sr (We (box (cs:=(l36 a0 a b c d).toArray) (congrArg Value.cells (asE (a36_ a0 a b c d) (l 0)))) Z ?_)
 rintro _ _ _ - ⟨rfl,e,rfl,rfl⟩
 refine We (Al ze82 Z) Z ?_
 rintro _ _ _ - ⟨rfl,m,rfl,rfl⟩
 refine Ns (qu (pt e 0) (Fa fo36_0 Z Z) (qu (Iv a0.Kind) (Lb 1 pl3 Z Z Z) (qu (pt e 1) (Fa fo36_1 Z Z) (qu (Iv a0.Broker) (Lb 1 pl3 Z Z Z) (qu (pt e 2) (Fa fo36_2 Z Z) (qu (Iv a0.Epoch) (Lb 1 pl3 Z Z Z) (qu (pt e 3) (Fa fo36_3 Z Z) (qu (Iv a0.Topic) (Lb 1 pl3 Z Z Z) (qu (pt e 4) (Fa fo36_4 Z Z) (qu (Iv a0.Part) (Lb 1 pl3 Z Z Z) (qu (pt e 5) (Fa fo36_5 Z Z) ?_)))))))))))
 refine qu (Iv a0.Leader) (Lb 1 pl3 Z Z Z) (qu (pt e 6) (Fa fo36_6 Z Z) (qu (Iv a0.Client) (Lb 1 pl3 Z Z Z) (qu (pt e 7) (Fa fo36_7 Z Z) (qu (Iv a0.Serial) (Lb 1 pl3 Z Z Z) (qu (pt e 8) (Fa fo36_8 Z Z) (qu (Iv a0.Code) (Lb 1 pl3 Z Z Z) (qu (.agg #[(Iv a0.Kind),(Iv a0.Broker),(Iv a0.Epoch),(Iv a0.Topic),(Iv a0.Part),(Iv a0.Leader),(Iv a0.Client),(Iv a0.Serial),(Iv a0.Code)]) (buildAL (cl:=[(Iv a0.Kind),(Iv a0.Broker),(Iv a0.Epoch),(Iv a0.Topic),(Iv a0.Part),(Iv a0.Leader),(Iv a0.Client),(Iv a0.Serial),(Iv a0.Code)]) ze82 underlying82 sz3 (Pc (Iv a0.Kind) Z Z (Pc (Iv a0.Broker) Z Z (Pc (Iv a0.Epoch) Z Z (Pc (Iv a0.Topic) Z Z (Pc (Iv a0.Part) Z Z (Pc (Iv a0.Leader) Z Z (Pc (Iv a0.Client) Z Z (Pc (Iv a0.Serial) Z Z (Pc (Iv a0.Code) Z Z Pz))))))))) Z) (We (Sg (v:=(.agg #[(Iv a0.Kind),(Iv a0.Broker),(Iv a0.Epoch),(Iv a0.Topic),(Iv a0.Part),(Iv a0.Leader),(Iv a0.Client),(Iv a0.Serial),(Iv a0.Code)])) (vl:=[(Iv a0.Kind),(Iv a0.Broker),(Iv a0.Epoch),(Iv a0.Topic),(Iv a0.Part),(Iv a0.Leader),(Iv a0.Client),(Iv a0.Serial),(Iv a0.Code)]) (arr':=[(Iv a0.Kind),(Iv a0.Broker),(Iv a0.Epoch),(Iv a0.Topic),(Iv a0.Part),(Iv a0.Leader),(Iv a0.Client),(Iv a0.Serial),(Iv a0.Code)]) Z sz82 Z Z (onb Z) Z Z (by kernel_rfl)) Z ?_))))))))
 rintro _ _ _ - ⟨rfl,rfl⟩
 exact Nt (Cr (Qa (Dr (Rd h [] (fun _ hs=>hs.drop) (resultsL1 Z (Rc (cs:=[(Iv a0.Kind),(Iv a0.Broker),(Iv a0.Epoch),(Iv a0.Topic),(Iv a0.Part),(Iv a0.Leader),(Iv a0.Client),(Iv a0.Serial),(Iv a0.Code)]) 0 ag82 sz82 Z Z Z)) lr ⟨Z,Z⟩))))
noncomputable def f_record_Same_2 (a0:T_api_Record):Option (List ByteArray):=
 (some [a0.Name,a0.Key,a0.Value,a0.Rack])
def f_record_Same_2_post (a0:T_api_Record) (b c d e:Value):(List ByteArray)→Value→IM→HL→Prop:=
 fun(a:(List ByteArray)) (v:Value) (g:IM) (f:HL)=>(.agg #[(.string (rd a (0:Int))),(.string (rd a (1:Int))),(.string (rd a (2:Int))),(.string (rd a (3:Int)))])=v∧f=[]
theorem f_record_Same_2_ok (a0:T_api_Record) (M:IM) (a b c d:Value) (g:RS (Kd.int .i64) M a a0.Ids) (i:RS (Kd.int .i64) M b a0.Isr) (j:RS (Kd.int .i64) M c a0.Add) (k:RS (Kd.int .i64) M d a0.Drop) (f:(List ByteArray)) (h:f_record_Same_2 a0=some f):
 Tri prog 48 #[(a36_ a0 a b c d)] M [] (f_record_Same_2_post a0 a b c d f):=by
 unfold f_record_Same_2 at h
 refine Te func48 Z Z ?_
 intro F n l
 refine Sr (We (box (cs:=(l36 a0 a b c d).toArray) (congrArg Value.cells (asE (a36_ a0 a b c d) (l 0)))) Z ?_)
 rintro _ _ _ - ⟨rfl,e,rfl,rfl⟩
 refine We (Al ze84 Z) Z ?_
 rintro _ _ _ - ⟨rfl,m,rfl,rfl⟩
 refine Ns (qu (pt e 10) (Fa fo36_10 Z Z) (qu (Sv a0.Name) (Lb 1 pl9 Z Z Z) (qu (pt e 11) (Fa fo36_11 Z Z) (qu (Sv a0.Key) (Lb 1 pl9 Z Z Z) (qu (pt e 12) (Fa fo36_12 Z Z) (qu (Sv a0.Value) (Lb 1 pl9 Z Z Z) (qu (pt e 13) (Fa fo36_13 Z Z) (qu (Sv a0.Rack) (Lb 1 pl9 Z Z Z) (qu (.agg #[(Sv a0.Name),(Sv a0.Key),(Sv a0.Value),(Sv a0.Rack)]) (buildAL (cl:=[(Sv a0.Name),(Sv a0.Key),(Sv a0.Value),(Sv a0.Rack)]) ze84 underlying84 sz9 (Pc (Sv a0.Name) Z Z (Pc (Sv a0.Key) Z Z (Pc (Sv a0.Value) Z Z (Pc (Sv a0.Rack) Z Z Pz)))) Z) (We (Sg (v:=(.agg #[(Sv a0.Name),(Sv a0.Key),(Sv a0.Value),(Sv a0.Rack)])) (vl:=[(Sv a0.Name),(Sv a0.Key),(Sv a0.Value),(Sv a0.Rack)]) (arr':=[(Sv a0.Name),(Sv a0.Key),(Sv a0.Value),(Sv a0.Rack)]) Z sz84 Z Z (onb Z) Z Z Z) Z ?_))))))))))
 rintro _ _ _ - ⟨rfl,rfl⟩
 exact Nt (Cr (Qa (Dr (Rd h [] (fun _ hs=>hs.drop) (resultsL1 Z (Rc (cs:=[(Sv a0.Name),(Sv a0.Key),(Sv a0.Value),(Sv a0.Rack)]) 0 ag84 sz84 Z Z Z)) lr ⟨Z,Z⟩))))
noncomputable def f_record_Same (a0:T_api_Record) (a1:T_api_Record):Option Bool:=
 ((((f_slices_Equal_int_int a0.Ids a1.Ids).bind fun e=>(if(!e)=true then(some true)else((f_slices_Equal_int_int a0.Isr a1.Isr).bind fun f=>(if(!f)=true then(some true)else((f_slices_Equal_int_int a0.Add a1.Add).bind fun g=>(if(!g)=true then(some true)else((f_slices_Equal_int_int a0.Drop a1.Drop).bind fun i=>(some (!i))))))))):Option Bool).bind fun j=>(if j=true then(some false)else((((f_record_Same_1 a0).bind fun a=>((f_record_Same_1 a1).bind fun b=>(if(andL [decide ((rd a (0:Int))=(rd b (0:Int))),decide ((rd a (1:Int))=(rd b (1:Int))),decide ((rd a (2:Int))=(rd b (2:Int))),decide ((rd a (3:Int))=(rd b (3:Int))),decide ((rd a (4:Int))=(rd b (4:Int))),decide ((rd a (5:Int))=(rd b (5:Int))),decide ((rd a (6:Int))=(rd b (6:Int))),decide ((rd a (7:Int))=(rd b (7:Int))),decide ((rd a (8:Int))=(rd b (8:Int)))])=true then((f_record_Same_2 a0).bind fun c=>((f_record_Same_2 a1).bind fun d=>(if(andL [(rd c (0:Int))==(rd d (0:Int)),(rd c (1:Int))==(rd d (1:Int)),(rd c (2:Int))==(rd d (2:Int)),(rd c (3:Int))==(rd d (3:Int))])=true then(some (a0.Flag==a1.Flag))else(some false))))else(some false)))):Option Bool).bind fun k=>(some k))))
def f_record_Same_post (a0:T_api_Record) (a1:T_api_Record) (a b c d e f g i:Value):Bool→Value→IM→HL→Prop:=
 fun(j:Bool) (v:Value) (l:IM) (k:HL)=>(.bool j)=v∧k=[]
theorem f_record_Same_ok (a0:T_api_Record) (a1:T_api_Record) (M:IM) (f g i j b c d e:Value) (x:RS (Kd.int .i64) M f a0.Ids) (m:RS (Kd.int .i64) M g a0.Isr) (n:RS (Kd.int .i64) M i a0.Add) (o:RS (Kd.int .i64) M j a0.Drop) (y:RS (Kd.int .i64) M b a1.Ids) (p:RS (Kd.int .i64) M c a1.Isr) (q:RS (Kd.int .i64) M d a1.Add) (r:RS (Kd.int .i64) M e a1.Drop) (a5:Bool) (h:f_record_Same a0 a1=some a5):
 Tri prog 27 #[(a36_ a0 f g i j),(a36_ a1 b c d e)] M [] (f_record_Same_post a0 a1 f g i j b c d e a5):=by
 unfold f_record_Same at h
 refine Te func27 Z Z ?_
 intro F ρ c1
 refine Sr (We (box (cs:=(l36 a0 f g i j).toArray) (congrArg Value.cells (asE (a36_ a0 f g i j) (c1 0)))) Z ?_)
 rintro _ _ _ - ⟨rfl,J,rfl,rfl⟩
 refine We (box (cs:=(l36 a1 b c d e).toArray) (congrArg Value.cells (asE (a36_ a1 b c d e) (c1 1)))) Z ?_
 rintro _ _ _ - ⟨rfl,K,rfl,rfl⟩
 refine qa (Bv false) (Nt (Cs ?_))
 obtain ⟨U,a6,h⟩:=bnd h
 refine Jf (fun(U:Bool) a7 M' H'=>M.le M'∧[(K, .cells (l36 a1 b c d e).toArray 36 (0,0))]::[(J, .cells (l36 a0 f g i j).toArray 36 (0,0))]::F=H'∧a7 2=(pt J 0)∧a7 3=(pt K 0)∧a7 36=(Bv U)) U ?_ ?_
 have h:=a6
 refine Cg (qu (pt J 14) (Fa fo36_14 Z Z) (qu f (Lb 1 pl34 Z Z Z) (qu (pt K 14) (Fa fo36_14 Z Z) (qu b (Lb 0 pl34 Z Z Z) ?_))))
 obtain ⟨V,a8,h⟩:=bnd h
 refine We (Ca co46 (f_slices_Equal_int_int_ok a0.Ids a1.Ids _ _ _ x y V a8) (args2 Z Z)) Z ?_
 rintro _ c2 _ G ⟨_,⟨rfl,rfl⟩,rfl⟩
 refine WL.a0 (qu (Bv (!V)) (PO.not Z) (qm (Bv (!V)) ?_))
 rcases Bi h with⟨u,h⟩ |⟨u,h⟩
 iterate 6 refine Of 13 Z Z u Z ?_
 refine qu (Bv true) (Pt Z u Z) (qm (Bv true) ?_)
 iterate 6 refine Of 21 Z Z Z Z ?_
 refine qu (Bv true) (Pt Z Z Z) (qm (Bv true) ?_)
 iterate 6 refine Of 29 Z Z Z Z ?_
 refine qu (Bv true) (Pt Z Z Z) (Wz ?_)
 obtain rfl:=oi h
 exact Tj ⟨G,Z,Z,Z,Z⟩
 refine qo 13 u (pt J 15) (Fa fo36_15 Z Z) (qo 13 u g (Lb 1 pl34 Z Z Z) (qo 13 u (pt K 15) (Fa fo36_15 Z Z) (qo 13 u c (Lb 0 pl34 Z Z Z) (On 13 Z Z u ?_))))
 obtain ⟨P,a9,h⟩:=bnd h
 have m:=m.mono G
 have p:=p.mono G
 refine We (Ca co46 (f_slices_Equal_int_int_ok a0.Isr a1.Isr _ _ _ m p P a9) (args2 Z Z)) Z ?_
 rintro _ c3 _ W ⟨_,⟨rfl,rfl⟩,rfl⟩
 have Q:=G.trans W
 refine WL.a0 (qo 13 u (Bv (!P)) (PO.not Z) (qu (Bv (!P)) (Pf Z u Z) (qm (Bv (!P)) ?_)))
 rcases Bi h with⟨v,h⟩ |⟨v,h⟩
 iterate 6 refine Of 21 Z Z v Z ?_
 refine qu (Bv true) (Pt Z v Z) (qm (Bv true) ?_)
 iterate 6 refine Of 29 Z Z Z Z ?_
 refine qu (Bv true) (Pt Z Z Z) (Wz ?_)
 obtain rfl:=oi h
 exact Tj ⟨Q,Z,Z,Z,Z⟩
 refine qo 21 v (pt J 16) (Fa fo36_16 Z Z) (qo 21 v i (Lb 1 pl34 Z Z Z) (qo 21 v (pt K 16) (Fa fo36_16 Z Z) (qo 21 v d (Lb 0 pl34 Z Z Z) (On 21 Z Z v ?_))))
 obtain ⟨R,b0,h⟩:=bnd h
 have n:=n.mono Q
 have q:=q.mono Q
 refine We (Ca co46 (f_slices_Equal_int_int_ok a0.Add a1.Add _ _ _ n q R b0) (args2 Z Z)) Z ?_
 rintro _ c4 _ X ⟨_,⟨rfl,rfl⟩,rfl⟩
 have S:=Q.trans X
 refine WL.a0 (qo 21 v (Bv (!R)) (PO.not Z) (qu (Bv (!R)) (Pf Z v Z) (qm (Bv (!R)) ?_)))
 rcases Bi h with⟨w,h⟩ |⟨w,h⟩
 iterate 6 refine Of 29 Z Z w Z ?_
 refine qu (Bv true) (Pt Z w Z) (Wz ?_)
 obtain rfl:=oi h
 exact Tj ⟨S,Z,Z,Z,Z⟩
 refine qo 29 w (pt J 17) (Fa fo36_17 Z Z) (qo 29 w j (Lb 1 pl34 Z Z Z) (qo 29 w (pt K 17) (Fa fo36_17 Z Z) (qo 29 w e (Lb 0 pl34 Z Z Z) (On 29 Z Z w ?_))))
 obtain ⟨Y,b1,h⟩:=bnd h
 have o:=o.mono S
 have r:=r.mono S
 refine We (Ca co46 (f_slices_Equal_int_int_ok a0.Drop a1.Drop _ _ _ o r Y b1) (args2 Z Z)) Z ?_
 rintro _ c5 _ a2 ⟨_,⟨rfl,rfl⟩,rfl⟩
 refine WL.a0 (qo 29 w (Bv (!Y)) (PO.not Z) (qu (Bv (!Y)) (Pf Z w Z) (Wz ?_)))
 obtain rfl:=oi h
 exact Tj ⟨(S.trans a2),Z,Z,Z,Z⟩
 rintro c6 c0 c7 ⟨k,rfl,I,z,N⟩
 refine Ch h N (fun b2 h=> ?_) (fun b2 h=> ?_)
 exact Sr (qa (Bv false) (Nt (Cr (Tr (Dr (Dr (Rf h [] Z (Rs Z Z) k ⟨Z,Z⟩)))))))
 refine Ck (Tc (Sr (qa (.func (.func 47) #[] #[]) (Ns (qa (.func (.func 48) #[] #[]) (Nt ?_))))))
 obtain ⟨a3,b3,h⟩:=bnd h
 refine Jf (fun(a3:Bool) a7 M' H'=>c0.le M'∧[(K, .cells (l36 a1 b c d e).toArray 36 (0,0))]::[(J, .cells (l36 a0 f g i j).toArray 36 (0,0))]::F=H'∧a7 4=(Bv a3)) a3 ?_ ?_
 have h:=b3
 refine WC.draw [0,0,3,0,0,31,63,127,255,255,1023,255,255,8191,16383,32767,65535,131071,262143,131071,655359,2097151,4194303,8388607] (.pure 0 (.pure 1 (.pure 3 (.pure 4 (.alt 2 (.alt 5 (.pure 6 (.pure 7 (.pure 8 (.pure 9 (.pure 11 (.pure 12 (.alt 10 (.alt 13 (.pure 14 (.pure 15 (.pure 16 (.pure 17 (.pure 18 (.pure 19 (.pure 20 (.pure 21 (.pure 22 (.pure 23 .done)))))))))) .none) .none))))))) .none) .none))))) mixed (by kernel_rfl) (qt (.func (.func 47) #[] #[]) Z (Mv Z) (qt (a36_ a0 f g i j) Z (La (cs:=(l36 a0 f g i j)) 1 ag36 sz36 I Z Z) (qt (.func (.func 47) #[] #[]) Z (Mv Z) (qt (a36_ a1 b c d e) Z (La (cs:=(l36 a1 b c d e)) 0 ag36 sz36 z Z Z) ?_))))
 obtain ⟨s,b4,h⟩:=bnd h
 have x:=x.mono k
 have m:=m.mono k
 have n:=n.mono k
 have o:=o.mono k
 refine Ta Z (callV0 (first:=#[]) (cap:=#[]) co47 Z (f_record_Same_1_ok a0 _ _ _ _ _ x m n o s b4) (argsV1 Z Z)) Z ?_ ?_
 rintro _ c8 _ D ⟨_,⟨rfl,rfl⟩,rfl⟩
 refine⟨(Ss Z (La (cs:=(l36 a1 b c d e)) 0 ag36 sz36 z Z Z) Z (Ss Z (Mv Z) Z (Sl Z))), ?_⟩
 refine WT.a0 ?_
 obtain ⟨t,b5,h⟩:=bnd h
 have y:=y.mono (k.trans D)
 have p:=p.mono (k.trans D)
 have q:=q.mono (k.trans D)
 have r:=r.mono (k.trans D)
 refine Ta Z (callV0 (first:=#[]) (cap:=#[]) co47 Z (f_record_Same_1_ok a1 _ _ _ _ _ y p q r t b5) (argsV1 Z Z)) Z ?_ ?_
 rintro _ c9 _ E ⟨_,⟨rfl,rfl⟩,rfl⟩
 have L:=D.trans E
 refine⟨(Sl Z), ?_⟩
 refine WT.a0 (qt (Bv (andL [decide ((rd s (0:Int))=(rd t (0:Int))),decide ((rd s (1:Int))=(rd t (1:Int))),decide ((rd s (2:Int))=(rd t (2:Int))),decide ((rd s (3:Int))=(rd t (3:Int))),decide ((rd s (4:Int))=(rd t (4:Int))),decide ((rd s (5:Int))=(rd t (5:Int))),decide ((rd s (6:Int))=(rd t (6:Int))),decide ((rd s (7:Int))=(rd t (7:Int))),decide ((rd s (8:Int))=(rd t (8:Int)))])) Z (eqAgg eg82 Z Z (run_equal_array underlying82 pl3 sz3 (EqIs.cons Z Z (EqC.int underlying3) (EqIs.cons Z Z (EqC.int underlying3) (EqIs.cons Z Z (EqC.int underlying3) (EqIs.cons Z Z (EqC.int underlying3) (EqIs.cons Z Z (EqC.int underlying3) (EqIs.cons Z Z (EqC.int underlying3) (EqIs.cons Z Z (EqC.int underlying3) (EqIs.cons Z Z (EqC.int underlying3) (EqIs.cons Z Z (EqC.int underlying3) EqIs.nil))))))))))) (qt (Bv (andL [decide ((rd s (0:Int))=(rd t (0:Int))),decide ((rd s (1:Int))=(rd t (1:Int))),decide ((rd s (2:Int))=(rd t (2:Int))),decide ((rd s (3:Int))=(rd t (3:Int))),decide ((rd s (4:Int))=(rd t (4:Int))),decide ((rd s (5:Int))=(rd t (5:Int))),decide ((rd s (6:Int))=(rd t (6:Int))),decide ((rd s (7:Int))=(rd t (7:Int))),decide ((rd s (8:Int))=(rd t (8:Int)))])) Z (Mv Z) ?_))
 rcases Bi h with⟨a,h⟩ |⟨a,h⟩
 refine Tn (.func (.func 48) #[] #[]) 44 Z Z Z a (Mv Z) Z (Tn (a36_ a0 f g i j) 44 Z Z Z a (La (cs:=(l36 a0 f g i j)) 1 ag36 sz36 I Z Z) Z (Tn (.func (.func 48) #[] #[]) 44 Z Z Z a (Mv Z) Z (Tn (a36_ a1 b c d e) 44 Z Z Z a (La (cs:=(l36 a1 b c d e)) 0 ag36 sz36 z Z Z) Z ?_)))
 obtain ⟨A,b6,h⟩:=bnd h
 have x:=x.mono L
 have m:=m.mono L
 have n:=n.mono L
 have o:=o.mono L
 refine WT.altOn 44 Z Z Z a (callV0 (first:=#[]) (cap:=#[]) co48 Z (f_record_Same_2_ok a0 _ _ _ _ _ x m n o A b6) (argsV1 Z Z)) Z ?_ ?_
 rintro _ d0 _ B ⟨_,⟨rfl,rfl⟩,rfl⟩
 refine⟨(St (StabA.on 44 Z Z Z a (La (cs:=(l36 a1 b c d e)) 0 ag36 sz36 z Z Z) Z) (St (StabA.on 44 Z Z Z a (Mv Z) Z) (Sl Z))), ?_⟩
 refine WT.a0 ?_
 obtain ⟨C,b7,h⟩:=bnd h
 have y:=y.mono (E.trans B)
 have p:=p.mono (E.trans B)
 have q:=q.mono (E.trans B)
 have r:=r.mono (E.trans B)
 refine WT.altOn 44 Z Z Z a (callV0 (first:=#[]) (cap:=#[]) co48 Z (f_record_Same_2_ok a1 _ _ _ _ _ y p q r C b7) (argsV1 Z Z)) Z ?_ ?_
 rintro _ d1 _ O ⟨_,⟨rfl,rfl⟩,rfl⟩
 refine⟨(Sl Z), ?_⟩
 refine WT.a0 (Tn (Bv (andL [(rd A (0:Int))==(rd C (0:Int)),(rd A (1:Int))==(rd C (1:Int)),(rd A (2:Int))==(rd C (2:Int)),(rd A (3:Int))==(rd C (3:Int))])) 44 Z Z Z a (eqAgg eg84 Z Z (run_equal_array underlying84 pl9 sz9 (EqIs.cons Z Z (EqC.str underlying9) (EqIs.cons Z Z (EqC.str underlying9) (EqIs.cons Z Z (EqC.str underlying9) (EqIs.cons Z Z (EqC.str underlying9) EqIs.nil)))))) Z (qt (Bv (andL [(rd A (0:Int))==(rd C (0:Int)),(rd A (1:Int))==(rd C (1:Int)),(rd A (2:Int))==(rd C (2:Int)),(rd A (3:Int))==(rd C (3:Int))])) Z (Pt Z a Z) (qt (Bv (andL [(rd A (0:Int))==(rd C (0:Int)),(rd A (1:Int))==(rd C (1:Int)),(rd A (2:Int))==(rd C (2:Int)),(rd A (3:Int))==(rd C (3:Int))])) Z (Mv Z) ?_)))
 rcases Bi h with⟨l,h⟩ |⟨l,h⟩
 refine Tn (pt J 9) 53 Z Z Z l (Fa fo36_9 I Z) Z (Tn (Bv a0.Flag) 53 Z Z Z l (Lb 1 pl4 Z Z Z) Z (Tn (pt K 9) 53 Z Z Z l (Fa fo36_9 z Z) Z (Tn (Bv a1.Flag) 53 Z Z Z l (Lb 0 pl4 Z Z Z) Z (Tn (Bv (a0.Flag==a1.Flag)) 53 Z Z Z l (beql underlying4 Z Z) Z (qt (Bv (a0.Flag==a1.Flag)) Z (Pt Z l Z) (qt (Bv (a0.Flag==a1.Flag)) Z (Ag Z) (Ti ?_)))))))
 obtain rfl:=oi h
 exact Tj ⟨((L.trans B).trans O),Z,Z⟩
 refine Tf 53 Z Z Z l Z (Tf 53 Z Z Z l Z (Tf 53 Z Z Z l Z (Tf 53 Z Z Z l Z (Tf 53 Z Z Z l Z (qt (Bv false) Z (Pf Z l Z) (qt (Bv false) Z (Ag Z) (Ti ?_)))))))
 obtain rfl:=oi h
 exact Tj ⟨((L.trans B).trans O),Z,Z⟩
 exact Tz
 exact Tz
 refine Tf 44 Z Z Z a Z (Tf 44 Z Z Z a Z (Tf 44 Z Z Z a Z (Tf 44 Z Z Z a Z (Tg 44 Z Z Z a Z ⟨(St (Sf 44 Z Z Z a Z) (St (Sf 44 Z Z Z a Z) (Sl Z))), ?_⟩ ?_))))
 refine Tg 44 Z Z Z a Z ⟨(Sl Z), ?_⟩ ?_
 refine Tf 44 Z Z Z a Z (qt (Bv false) Z (Pf Z a Z) (qt (Bv false) Z (Mv Z) (Tf 53 Z Z Z Z Z (Tf 53 Z Z Z Z Z (Tf 53 Z Z Z Z Z (Tf 53 Z Z Z Z Z (Tf 53 Z Z Z Z Z (qt (Bv false) Z (Pf Z Z Z) (qt (Bv false) Z (Ag Z) (Ti ?_))))))))))
 obtain rfl:=oi h
 exact Tj ⟨L,Z,Z⟩
 exact Tz
 exact Tz
 exact Tz
 exact Tz
 rintro d2 d3 d4 ⟨a4,rfl,T⟩
 exact Cr (Dr (Dr (Rf h [] Z (Rs Z T) (k.trans a4) ⟨Z,Z⟩)))
noncomputable def f_slices_EqualFunc_api_Record_api_Record_Same_l0 (a0:(List T_api_Record)) (a1:(List T_api_Record)) (c:Int):Option (Int⊕(Unit⊕Unit)):=
 match c with
 |a=>
 (if(decide (a<(a0.length:Int)))=true then(grd (0≤a∧a<a0.length) (grd (0≤a∧a<a1.length) ((f_record_Same (rd a0 a) (rd a1 a)).bind fun b=>(if(!b)=true then(some (inr (inr ())))else(some (inl (i64.wrap (a+(1:Int)))))))))else(some (inr (inl ()))))
noncomputable def f_slices_EqualFunc_api_Record_api_Record_Same (a0:(List T_api_Record)) (a1:(List T_api_Record)):Option Bool:=
 (if(decide ((a0.length:Int)≠(a1.length:Int)))=true then(some false)else((((iter (f_slices_EqualFunc_api_Record_api_Record_Same_l0 a0 a1) (0:Int)).bind (Sum.elim (fun _=>(some (inl ()))) (fun _=>(((some false)).bind fun r=>some (inr r))))):Option (Unit⊕Bool)).bind (Sum.elim (fun _=>(some true)) some)))
def f_slices_EqualFunc_api_Record_api_Record_Same_post (a0:(List T_api_Record)) (a1:(List T_api_Record)) (c d:Value):Bool→Value→IM→HL→Prop:=
 fun(a:Bool) (v:Value) (e:IM) (b:HL)=>(.bool a)=v∧b=[]
theorem f_slices_EqualFunc_api_Record_api_Record_Same_ok (a0:(List T_api_Record)) (a1:(List T_api_Record)) (M:IM) (N O:Value) (Q:RS kd_api_Record M N a0) (h1:RS kd_api_Record M O a1) (R:Bool) (h:f_slices_EqualFunc_api_Record_api_Record_Same a0 a1=some R):
 Tri prog 26 #[N,O,(.func (.func 27) #[] #[])] M [] (f_slices_EqualFunc_api_Record_api_Record_Same_post a0 a1 N O R):=by
 unfold f_slices_EqualFunc_api_Record_api_Record_Same at h
 refine Te func26 Z Z ?_
 intro F ρ S
 refine Sr (qa (Bv false) (Nt (Cs (Sr (qM N (S 0) (qu (Iv (a0.length:Int)) (lenS underlying23 Z Q.len) (qM O (S 1) (qu (Iv (a1.length:Int)) (lenS underlying23 Z h1.len) (qu (Bv (decide ((a0.length:Int)≠(a1.length:Int)))) (neq Z Z) (Nt (Ch h Z (fun T h=> ?_) (fun T h=> ?_))))))))))))
 exact Sr (qa (Bv false) (Nt (Cr (Tr (Rf h [] Z (Rs Z Z) lr ⟨Z,Z⟩)))))
 refine Ck (Tc ?_)
 obtain ⟨a5,U,h⟩:=bnd h
 refine WC.joinE (fun(_:Unit) P M' H'=>M.le M'∧F=H') a5 ?_ ?_
 have V:=h
 have h:=U
 refine Sr (qM N (S 0) (qu (Iv (a0.length:Int)) (lenS underlying23 Z Q.len) (qm (Iv 0) (Nt (Bk ?_)))))
 obtain ⟨b2,W,E⟩:=bnd h
 clear h
 refine WC.loop W (fun(a:Int) P M' H'=>M.le M'∧F=H'∧P 1=O∧P 2=(.func (.func 27) #[] #[])∧P 15=N∧P 16=(Iv (a0.length:Int))∧P 17=(Iv a)) ?_ ?_
 exact⟨lr,Z,(S 1),(S 2),Z,Z,Z⟩
 rintro a b3 b4 b5 b6 h ⟨l,rfl,z,A,m,o,k⟩
 unfold f_slices_EqualFunc_api_Record_api_Record_Same_l0 at h
 refine Sr (qu (Bv (decide (a<(a0.length:Int)))) (lss k o) (Nt (Cs (Ch h Z (fun X h=> ?_) (fun X h=> ?_)))))
 refine Ck (Tc (Cs (Bk (Sr (qM (Iv a) k ?_)))))
 obtain ⟨B,h⟩:=grd_i h
 have Q:=Q.mono l
 obtain ⟨a8,b0,G,I,hhas31⟩:=Q.at B.1 B.2 (by decide)
 obtain ⟨b,c,d,e,rfl,p,q,r,s⟩:=kd_api_Record_open I
 refine qu (.pointer (some a8)) (indexAddr (n:=a0.length) underlying23 sz36 m k B.1 B.2 G) (qu (a36_ (rd a0 a) b c d e) (loadMA (cs:=(l36 (rd a0 a) b c d e)) ag36 sz36 Z hhas31) (We (Al ze36 Z) Z ?_))
 rintro _ _ _ - ⟨rfl,b7,rfl,rfl⟩
 refine qa (Iv a) (We (Sg (v:=(a36_ (rd a0 a) b c d e)) (vl:=(l36 (rd a0 a) b c d e)) (arr':=(l36 (rd a0 a) b c d e)) Z sz36 Z Z (onesOf (Oc Z (Oc Z (Oc Z (Oc Z (Oc Z (Oc Z (Oc Z (Oc Z (Oc Z (Oc Z (Oc Z (Oc Z (Oc Z (Oc Z (Oc (RS.one p) (Oc (RS.one q) (Oc (RS.one r) (Oc (RS.one s) Oz))))))))))))))))))) Z Z (by kernel_rfl)) Z ?_)
 rintro _ _ _ - ⟨rfl,rfl⟩
 refine Ns (qM O z (qm (Iv a) ?_))
 obtain ⟨C,h⟩:=grd_i h
 have h1:=h1.mono l
 obtain ⟨a9,b1,J,K,hhas39⟩:=h1.at C.1 C.2 (by decide)
 obtain ⟨f,g,i,j,rfl,t,u,w,x⟩:=kd_api_Record_open K
 refine qu (.pointer (some a9)) (indexAddr (n:=a1.length) underlying23 sz36 Z Z C.1 C.2 J) (qu (a36_ (rd a1 a) f g i j) (loadMA (cs:=(l36 (rd a1 a) f g i j)) ag36 sz36 Z hhas39) (We (Al ze36 Z) Z ?_))
 rintro _ _ _ - ⟨rfl,b8,rfl,rfl⟩
 refine We (Sg (v:=(a36_ (rd a1 a) f g i j)) (vl:=(l36 (rd a1 a) f g i j)) (arr':=(l36 (rd a1 a) f g i j)) Z sz36 Z Z (onesOf (Oc Z (Oc Z (Oc Z (Oc Z (Oc Z (Oc Z (Oc Z (Oc Z (Oc Z (Oc Z (Oc Z (Oc Z (Oc Z (Oc Z (Oc (RS.one t) (Oc (RS.one u) (Oc (RS.one w) (Oc (RS.one x) Oz))))))))))))))))))) Z Z (by kernel_rfl)) Z ?_
 rintro _ _ _ - ⟨rfl,rfl⟩
 refine Ns (qM (.func (.func 27) #[] #[]) A (qu (a36_ (rd a0 a) b c d e) (La (cs:=(l36 (rd a0 a) b c d e)) 1 ag36 sz36 Z Z Z) (qu (a36_ (rd a1 a) f g i j) (La (cs:=(l36 (rd a1 a) f g i j)) 0 ag36 sz36 Z Z Z) ?_)))
 obtain ⟨Y,a2,h⟩:=bnd h
 refine We (callV0 (first:=#[]) (cap:=#[]) co27 Z (f_record_Same_ok (rd a0 a) (rd a1 a) _ _ _ _ _ _ _ _ _ p q r s t u w x Y a2) (argsV2 Z Z Z)) Z ?_
 rintro _ b9 _ D ⟨_,⟨rfl,rfl⟩,rfl⟩
 refine WL.a0 (qu (Bv (!Y)) (PO.not Z) (Nt (Ch h Z (fun a3 h=> ?_) (fun a3 h=> ?_))))
 refine Sr (qa (Bv false) (Nt (Cr (Br (Tr (WQ.leaveR (inr ()) (oi h).symm (fun y=> ?_)))))))
 subst y
 have h:=(elimR E)
 refine Br (Tr ?_)
 have h:=KK.early h V
 exact Dr (Dr (Rf h [] Z (Rs Z Z) (l.trans D) ⟨Z,Z⟩))
 exact Ck (Bn (Tc (Cg (qu (Iv (i64.wrap (a+1))) (add k Z) (qm (Iv (i64.wrap (a+1))) (Wz (Dr (Dr (WQ.again (i64.wrap (a+1)) (oi h).symm ⟨(l.trans D),Z,z,A,m,o,Z⟩)))))))))
 refine WC.exit (WQ.thenE (WQ.leaveE (inl ()) (oi h).symm (fun y=> ?_)))
 subst y
 have h:=elimL E
 exact WQ.blockH (WQ.thenFE h ⟨l,Z⟩)
 rintro _ c0 c1 c2 rfl ⟨L,rfl⟩
 have h:=(Sum.elim_inl _ _ _).symm.trans h
 exact Sr (qa (Bv true) (Nt (Cr (Rf h [] Z (Rs Z Z) L ⟨Z,Z⟩))))
noncomputable def f_batch_Same (a0:T_api_Batch) (a1:T_api_Batch):Option Bool:=
 (((if(decide (a0.Term=a1.Term))=true then(if(decide (a0.Base=a1.Base))=true then((f_slices_EqualFunc_api_Record_api_Record_Same a0.Records a1.Records).bind fun a=>(some a))else(some false))else(some false)):Option Bool).bind fun b=>(some b))
def f_batch_Same_post (a0:T_api_Batch) (a1:T_api_Batch) (a b:Value):Bool→Value→IM→HL→Prop:=
 fun(c:Bool) (v:Value) (e:IM) (d:HL)=>(.bool c)=v∧d=[]
theorem f_batch_Same_ok (a0:T_api_Batch) (a1:T_api_Batch) (M:IM) (c d:Value) (m:RS kd_api_Record M c a0.Records) (n:RS kd_api_Record M d a1.Records) (o:Bool) (h:f_batch_Same a0 a1=some o):
 Tri prog 13 #[(a31_ a0 c),(a31_ a1 d)] M [] (f_batch_Same_post a0 a1 c d o):=by
 unfold f_batch_Same at h
 refine Te func13 Z Z ?_
 intro F z r
 refine Sr (We (box (cs:=(l31 a0 c).toArray) (congrArg Value.cells (asE (a31_ a0 c) (r 0)))) Z ?_)
 rintro _ _ _ - ⟨rfl,e,rfl,rfl⟩
 refine We (box (cs:=(l31 a1 d).toArray) (congrArg Value.cells (asE (a31_ a1 d) (r 1)))) Z ?_
 rintro _ _ _ - ⟨rfl,f,rfl,rfl⟩
 refine qa (Bv false) (Nt ?_)
 obtain ⟨i,p,h⟩:=bnd h
 refine Jf (fun(i:Bool) s t u=>M.le t∧[(f, .cells (l31 a1 d).toArray 31 (0,0))]::[(e, .cells (l31 a0 c).toArray 31 (0,0))]::F=u∧s 4=(Bv i)) i ?_ ?_
 have h:=p
 refine Cg (qu (pt e 0) (Fa fo31_0 Z Z) (qu (Iv a0.Term) (Lb 1 pl3 Z Z Z) (qu (pt f 0) (Fa fo31_0 Z Z) (qu (Iv a1.Term) (Lb 0 pl3 Z Z Z) (qu (Bv (decide (a0.Term=a1.Term))) (eql Z Z) (qm (Bv (decide (a0.Term=a1.Term))) ?_))))))
 rcases Bi h with⟨a,h⟩ |⟨a,h⟩
 refine qo 10 a (pt e 1) (Fa fo31_1 Z Z) (qo 10 a (Iv a0.Base) (Lb 1 pl3 Z Z Z) (qo 10 a (pt f 1) (Fa fo31_1 Z Z) (qo 10 a (Iv a1.Base) (Lb 0 pl3 Z Z Z) (qo 10 a (Bv (decide (a0.Base=a1.Base))) (eql Z Z) (qu (Bv (decide (a0.Base=a1.Base))) (Pt Z a Z) (qm (Bv (decide (a0.Base=a1.Base))) ?_))))))
 rcases Bi h with⟨b,h⟩ |⟨b,h⟩
 refine qo 17 b (pt e 2) (Fa fo31_2 Z Z) (qo 17 b c (Lb 1 pl23 Z Z Z) (qo 17 b (pt f 2) (Fa fo31_2 Z Z) (qo 17 b d (Lb 0 pl23 Z Z Z) (On 17 Z Z b ?_))))
 obtain ⟨j,q,h⟩:=bnd h
 refine We (Ca co26 (f_slices_EqualFunc_api_Record_api_Record_Same_ok a0.Records a1.Records _ _ _ m n j q) (args3 Z Z Z)) Z ?_
 rintro _ v _ k ⟨_,⟨rfl,rfl⟩,rfl⟩
 refine WL.a0 (qu (Bv j) (Pt Z b Z) (qa (Bv j) (Wz ?_)))
 obtain rfl:=oi h
 exact Tj ⟨k,Z,Z⟩
 iterate 5 refine Of 17 Z Z b Z ?_
 refine qu (Bv false) (Pf Z b Z) (qa (Bv false) (Wz ?_))
 obtain rfl:=oi h
 exact Tj ⟨lr,Z,Z⟩
 iterate 5 refine Of 10 Z Z a Z ?_
 refine qu (Bv false) (Pf Z a Z) (qm (Bv false) ?_)
 iterate 5 refine Of 17 Z Z Z Z ?_
 refine qu (Bv false) (Pf Z Z Z) (qa (Bv false) (Wz ?_))
 obtain rfl:=oi h
 exact Tj ⟨lr,Z,Z⟩
 rintro w x y ⟨l,rfl,g⟩
 exact Cr (Dr (Dr (Rf h [] Z (Rs Z g) l ⟨Z,Z⟩)))
noncomputable def f_errors_is_l0 (a1:Int) (f:GErr):Option (GErr⊕Bool):=
 match f with
 |b=>
 (match b with | .nil=>(some (inr false)) | .code c=>(if(decide (c=a1))=true then(some (inr true))else(some (inr false))) | .fault d a26 e=>((f_api_Fault_Unwrap (⟨d,a26,e⟩:T_api_Fault)).bind fun a=>(if a.isNil=true then(some (inr false))else(some (inl a)))) | .other g=>(some (inr false)))
noncomputable def f_errors_is (a0:GErr) (a1:Int):Option Bool:=
 ((iter (f_errors_is_l0 a1) a0).bind (fun(a:Bool)=>(some a)))
def f_errors_is_post (a0:GErr) (a1:Int):Bool→Value→IM→HL→Prop:=
 fun(a:Bool) (v:Value) (c:IM) (b:HL)=>(.bool a)=v∧b=[]
theorem f_errors_is_ok (a0:GErr) (a1:Int) (M:IM) (p:Bool) (h:f_errors_is a0 a1=some p):
 Tri prog 50 #[(GV a0),(GV (GErr.code a1)),(Bv true)] M [] (f_errors_is_post a0 a1 p):=by
 unfold f_errors_is at h
 refine Te func50 Z Z ?_
 intro F E u
 refine Sr (qa (Bv false) (Nt (Bk ?_)))
 obtain ⟨w,q,i⟩:=bnd h
 clear h
 refine WC.loop q (fun(o:GErr) v x y=>M.le x∧F=y∧v 0=(GV o)∧v 1=(GV (GErr.code a1))∧v 2=(Bv true)) ?_ ?_
 exact⟨lr,Z,(u 0),(u 1),(u 2)⟩
 rintro o z A B C h ⟨d,rfl,a,k,l⟩
 unfold f_errors_is_l0 at h
 refine Bk (Cs (Sr (qM (Bv true) l (qm (Bv true) (On 15 Z Z Z (qM (GV o) a (On 15 Z Z Z (qM (GV (GErr.code a1)) k (On 15 Z Z Z ?_)))))))))
 rcases o with _ |g |⟨e,a26,f⟩ |j
 refine qu (Bv false) (nilIfaceNe underlying40 (show ev _ _= .nilIface from Z) (show ev _ _=(.iface 47 (Iv a1)) from Z)) (qu (Bv false) (Pt Z Z Z) (Nt (WC.condF (b:=false) Z Z (Ck (Tc (Cs (Sr (qM (GV GErr.nil) a (qu (.tuple #[.nilIface,(Bv false)]) (asserts (show ev _ _= .nilIface from Z) (run_assert_nil zo105 underlying105)) (qm (.tuple #[.nilIface,(Bv false)]) (qu .nilIface (Xt Z Z) ?_)))))))))))
 refine qu (Bv false) (Xt Z Z) (qa .nilIface (qa (Bv false) (Ns (qm (Bv false) (qm (Bv false) ?_)))))
 iterate 3 refine Of 26 Z Z Z Z ?_
 refine qu (Bv false) (Pf Z Z Z) (Nt (WC.condF (b:=false) Z Z (Ck (Tc (Sr (qM (GV GErr.nil) a (Nt (Bk (Sr (qu (.tuple #[.nilIface,(Bv false)]) (asserts (show ev _ _= .nilIface from Z) (run_assert_nil zo108 underlying108)) (qu (Bv false) (Xt Z Z) ?_)))))))))))
 refine qu .nilIface (Xt Z Z) (Nt (WC.condF (b:=false) Z Z (Sr (qu (.tuple #[.nilIface,(Bv false)]) (asserts (show ev _ _= .nilIface from Z) (run_assert_nil zo109 underlying109)) (qu (Bv false) (Xt Z Z) (qu .nilIface (Xt Z Z) (Nt (WC.condF (b:=false) Z Z (Sr (qa (GV GErr.nil) (Ns ?_)))))))))))
 refine qa (Bv false) (Nt (Cr (Br (Br (WQ.leaveR false (oi h).symm (fun c=> ?_))))))
 subst c
 have h:=i
 exact Br (Rf h [] Z (Rs Z Z) d ⟨Z,Z⟩)
 refine qu (Bv (decide (g=a1))) (ifaceInt underlying40 underlying47 cm47 (show ev _ _=(.iface 47 (Iv g)) from Z) (show ev _ _=(.iface 47 (Iv a1)) from Z)) (qu (Bv (decide (g=a1))) (Pt Z Z Z) (Nt (Ch h Z (fun r h=> ?_) (fun r h=> ?_))))
 refine Sr (qa (Bv true) (Nt (Cr (Tr (Br (WQ.leaveR true (oi h).symm (fun c=> ?_)))))))
 subst c
 have h:=i
 exact Br (Rf h [] Z (Rs Z Z) d ⟨Z,Z⟩)
 refine Ck (Tc (Cs (Sr (qM (GV (GErr.code g)) a (qu (.tuple #[.nilIface,(Bv false)]) (asserts (show ev _ _=(.iface 47 (Iv g)) from Z) (la47_105 _ _)) (qm (.tuple #[.nilIface,(Bv false)]) (qu .nilIface (Xt Z Z) (qu (Bv false) (Xt Z Z) (qa .nilIface (qa (Bv false) (Ns ?_)))))))))))
 refine qm (Bv false) (qm (Bv false) ?_)
 iterate 3 refine Of 26 Z Z Z Z ?_
 refine qu (Bv false) (Pf Z Z Z) (Nt (WC.condF (b:=false) Z Z (Ck (Tc (Sr (qM (GV (GErr.code g)) a (Nt (Bk (Sr (qu (.tuple #[.nilIface,(Bv false)]) (asserts (show ev _ _=(.iface 47 (Iv g)) from Z) (la47_108 _ _)) (qu (Bv false) (Xt Z Z) ?_)))))))))))
 refine qu .nilIface (Xt Z Z) (Nt (WC.condF (b:=false) Z Z (Sr (qu (.tuple #[.nilIface,(Bv false)]) (asserts (show ev _ _=(.iface 47 (Iv g)) from Z) (la47_109 _ _)) (qu (Bv false) (Xt Z Z) (qu .nilIface (Xt Z Z) (Nt (WC.condF (b:=false) Z Z (Sr (qa (GV (GErr.code g)) (Ns ?_)))))))))))
 refine qa (Bv false) (Nt (Cr (Br (Br (WQ.leaveR false (oi h).symm (fun c=> ?_))))))
 subst c
 have h:=i
 exact Br (Rf h [] Z (Rs Z Z) d ⟨Z,Z⟩)
 refine qu (Bv false) (ifaceNe underlying40 (show ev _ _=(.iface 74 (.agg #[.string e, .int .i64 a26,GV f])) from Z) (show ev _ _=(.iface 47 (Iv a1)) from Z) Z) (qu (Bv false) (Pt Z Z Z) (Nt (WC.condF (b:=false) Z Z (Ck (Tc (Cs (Sr (qM (GV (GErr.fault e a26 f)) a (qu (.tuple #[.nilIface,(Bv false)]) (asserts (show ev _ _=(.iface 74 (.agg #[.string e, .int .i64 a26,GV f])) from Z) (la74_105 _ _)) (qm (.tuple #[.nilIface,(Bv false)]) (qu .nilIface (Xt Z Z) ?_)))))))))))
 refine qu (Bv false) (Xt Z Z) (qa .nilIface (qa (Bv false) (Ns (qm (Bv false) (qm (Bv false) ?_)))))
 iterate 3 refine Of 26 Z Z Z Z ?_
 refine qu (Bv false) (Pf Z Z Z) (Nt (WC.condF (b:=false) Z Z (Ck (Tc (Sr (qM (GV (GErr.fault e a26 f)) a (Nt (Bk (Sr (qu (.tuple #[(GV (GErr.fault e a26 f)),(Bv true)]) (asserts (show ev _ _=(.iface 74 (.agg #[.string e, .int .i64 a26,GV f])) from Z) (ha74_108 _ _)) (qu (Bv true) (Xt Z Z) ?_)))))))))))
 refine qu (GV (GErr.fault e a26 f)) (Xt Z Z) (Nt (WC.condT (b:=true) Z Z (Sr (qa (GV (GErr.fault e a26 f)) (Ns (qm (GV (GErr.fault e a26 f)) ?_))))))
 obtain ⟨m,s,h⟩:=bnd h
 refine We (invT (show ev _ _=(.iface 74 (.agg #[.string e, .int .i64 a26,GV f])) from Z) (me74_Unwrap _) co97 inv0 (f_api_Fault_Unwrap_ok (⟨e,a26,f⟩:T_api_Fault) _ m s)) Z ?_
 rintro _ D _ n ⟨_,⟨rfl,rfl⟩,rfl⟩
 refine WL.a0 (qa (GV m) (Ns (qm (GV m) (qu (Bv m.isNil) (errNil underlying40 Z) (Nt (Ch h Z (fun t h=> ?_) (fun t h=> ?_)))))))
 refine Sr (qa (Bv false) (Nt (Cr (Br (Br (WQ.leaveR false (oi h).symm (fun c=> ?_)))))))
 subst c
 have h:=i
 exact Br (Rf h [] Z (Rs Z Z) (d.trans n) ⟨Z,Z⟩)
 exact Ck (Bn (Bn (WQ.again m (oi h).symm ⟨(d.trans n),Z,Z,k,l⟩)))
 refine qu (Bv false) (ifaceNe underlying40 (show ev _ _=(.iface 0 (.pointer (some j))) from Z) (show ev _ _=(.iface 47 (Iv a1)) from Z) Z) (qu (Bv false) (Pt Z Z Z) (Nt (WC.condF (b:=false) Z Z (Ck (Tc (Cs (Sr (qM (GV (GErr.other j)) a (qu (.tuple #[.nilIface,(Bv false)]) (asserts (show ev _ _=(.iface 0 (.pointer (some j))) from Z) (la0_105 _ _)) (qm (.tuple #[.nilIface,(Bv false)]) (qu .nilIface (Xt Z Z) ?_)))))))))))
 refine qu (Bv false) (Xt Z Z) (qa .nilIface (qa (Bv false) (Ns (qm (Bv false) (qm (Bv false) ?_)))))
 iterate 3 refine Of 26 Z Z Z Z ?_
 refine qu (Bv false) (Pf Z Z Z) (Nt (WC.condF (b:=false) Z Z (Ck (Tc (Sr (qM (GV (GErr.other j)) a (Nt (Bk (Sr (qu (.tuple #[.nilIface,(Bv false)]) (asserts (show ev _ _=(.iface 0 (.pointer (some j))) from Z) (la0_108 _ _)) (qu (Bv false) (Xt Z Z) ?_)))))))))))
 refine qu .nilIface (Xt Z Z) (Nt (WC.condF (b:=false) Z Z (Sr (qu (.tuple #[.nilIface,(Bv false)]) (asserts (show ev _ _=(.iface 0 (.pointer (some j))) from Z) (la0_109 _ _)) (qu (Bv false) (Xt Z Z) (qu .nilIface (Xt Z Z) (Nt (WC.condF (b:=false) Z Z (Sr (qa (GV (GErr.other j)) (Ns ?_)))))))))))
 refine qa (Bv false) (Nt (Cr (Br (Br (WQ.leaveR false (oi h).symm (fun c=> ?_))))))
 subst c
 have h:=i
 exact Br (Rf h [] Z (Rs Z Z) d ⟨Z,Z⟩)
noncomputable def f_errors_Is (a0:GErr) (a1:Int):Option Bool:=
 (if a0.isNil=true then(match a0 with | .nil=>(some false) | .code a=>(some (decide (a=a1))) | .fault c a24 d=>(some false) | .other e=>(some false))else((f_errors_is a0 a1).bind fun b=>(some b)))
def f_errors_Is_post (a0:GErr) (a1:Int):Bool→Value→IM→HL→Prop:=
 fun(a:Bool) (v:Value) (c:IM) (b:HL)=>(.bool a)=v∧b=[]
theorem f_errors_Is_ok (a0:GErr) (a1:Int) (M:IM) (g:Bool) (h:f_errors_Is a0 a1=some g):
 Tri prog 28 #[(GV a0),(GV (GErr.code a1))] M [] (f_errors_Is_post a0 a1 g):=by
 unfold f_errors_Is at h
 refine Te func28 Z Z ?_
 intro F o c
 refine Sr (qa (Bv false) (Nt (Cs (Sr (qM (GV a0) (c 0) (qu (Bv a0.isNil) (errNil underlying40 Z) (qm (Bv a0.isNil) ?_)))))))
 rcases Bi h with⟨a,h⟩ |⟨a,h⟩
 iterate 2 refine Of 8 Z Z a Z ?_
 refine qu (Bv true) (Pt Z a Z) (Nt (WC.condT (b:=true) Z Z (Sr (qM (GV a0) (c 0) (qM (GV (GErr.code a1)) (c 1) ?_)))))
 rcases a0 with _ |d |⟨k,a24,l⟩ |m
 exact qu (Bv false) (nilIfaceNe underlying40 (show ev _ _= .nilIface from Z) (show ev _ _=(.iface 47 (Iv a1)) from Z)) (qa (Bv false) (Nt (Cr (Tr (Rf h [] Z (Rs Z Z) lr ⟨Z,Z⟩)))))
 exact qu (Bv (decide (d=a1))) (ifaceInt underlying40 underlying47 cm47 (show ev _ _=(.iface 47 (Iv d)) from Z) (show ev _ _=(.iface 47 (Iv a1)) from Z)) (qa (Bv (decide (d=a1))) (Nt (Cr (Tr (Rf h [] Z (Rs Z Z) lr ⟨Z,Z⟩)))))
 exact qu (Bv false) (ifaceNe underlying40 (show ev _ _=(.iface 74 (.agg #[.string k, .int .i64 a24,GV l])) from Z) (show ev _ _=(.iface 47 (Iv a1)) from Z) Z) (qa (Bv false) (Nt (Cr (Tr (Rf h [] Z (Rs Z Z) lr ⟨Z,Z⟩)))))
 exact qu (Bv false) (ifaceNe underlying40 (show ev _ _=(.iface 0 (.pointer (some m))) from Z) (show ev _ _=(.iface 47 (Iv a1)) from Z) Z) (qa (Bv false) (Nt (Cr (Tr (Rf h [] Z (Rs Z Z) lr ⟨Z,Z⟩)))))
 refine On 8 Z Z a (qM (GV (GErr.code a1)) (c 1) (qo 8 a (Bv false) (errNil (tc:=47) (tf:=74) (tp:=0) (e:=GErr.code a1) underlying40 Z) (qu (Bv false) (Pf Z a Z) (Nt (WC.condF (b:=false) Z Z (Ck (Tc (Sr (qM (GV (GErr.code a1)) (c 1) (We (extP xt49 (args1 (show ev _ _=(.iface 47 (Iv a1)) from Z)) (ty47 _)) Z ?_))))))))))
 rintro _ _ _ - ⟨rfl,rfl,rfl⟩
 refine We (invE (show ev _ _=(.iface 103 (.agg #[.pointer (some ⟨1,47,none⟩)])) from Z) (mm_Comparable (pt 1 47)) xt100 inv0 mr_Comparable_47) Z ?_
 rintro _ _ _ - ⟨rfl,rfl,rfl⟩
 refine qa (Bv true) (Ns (qM (GV a0) (c 0) (qM (GV (GErr.code a1)) (c 1) (qm (Bv true) ?_))))
 obtain ⟨i,j,h⟩:=bnd h
 refine We (Ca co50 (f_errors_is_ok a0 a1 _ i j) (args3 Z Z Z)) Z ?_
 rintro _ n _ f ⟨_,⟨rfl,rfl⟩,rfl⟩
 exact WL.a0 (qa (Bv i) (Nt (Cr (Rf h [] Z (Rs Z Z) f ⟨Z,Z⟩))))
noncomputable def f_fault_Is (a0:GErr) (a1:Int):Option Bool:=
 ((f_errors_Is a0 a1).bind fun a=>(some a))
def f_fault_Is_post (a0:GErr) (a1:Int):Bool→Value→IM→HL→Prop:=
 fun(a:Bool) (v:Value) (c:IM) (b:HL)=>(.bool a)=v∧b=[]
theorem f_fault_Is_ok (a0:GErr) (a1:Int) (M:IM) (b:Bool) (h:f_fault_Is a0 a1=some b):
 Tri prog 14 #[(GV a0),(Iv a1)] M [] (f_fault_Is_post a0 a1 b):=by
 unfold f_fault_Is at h
 refine Te func14 Z Z ?_
 intro F g e
 refine Sr (qa (Bv false) (Ns (qM (GV a0) (e 0) (qM (Iv a1) (e 1) (qu (GV (GErr.code a1)) (makeInterface cc47 Z) ?_)))))
 obtain ⟨c,d,h⟩:=bnd h
 refine We (Ca co28 (f_errors_Is_ok a0 a1 _ c d) (args2 Z Z)) Z ?_
 rintro _ f _ a ⟨_,⟨rfl,rfl⟩,rfl⟩
 exact WL.a0 (qa (Bv c) (Nt (Cr (Rf h [] Z (Rs Z Z) a ⟨Z,Z⟩))))
noncomputable def f_batch_Copy (a0:T_api_Batch):Option T_api_Batch:=
 ((f_batch_Of a0.Term a0.Base a0.Records).bind fun a=>(some a))
def f_batch_Copy_post (a0:T_api_Batch) (d:Value):T_api_Batch→Value→IM→HL→Prop:=
 fun(c:T_api_Batch) (v:Value) (e:IM) (f:HL)=>∃ a b,(.agg #[(.int .i64 c.Term),(.int .i64 c.Base),a])=v∧f=[b]∧OwnS kd_api_Record e a c.Records b
theorem f_batch_Copy_ok (a0:T_api_Batch) (M:IM) (b:Value) (i:RS kd_api_Record M b a0.Records) (j:T_api_Batch) (h:f_batch_Copy a0=some j):
 Tri prog 16 #[(a31_ a0 b)] M [] (f_batch_Copy_post a0 b j):=by
 unfold f_batch_Copy at h
 refine Te func16 Z Z ?_
 intro F o l
 refine Sr (We (box (cs:=(l31 a0 b).toArray) (congrArg Value.cells (asE (a31_ a0 b) (l 0)))) Z ?_)
 rintro _ _ _ - ⟨rfl,f,rfl,rfl⟩
 refine We (Al ze31 Z) Z ?_
 rintro _ _ _ - ⟨rfl,m,rfl,rfl⟩
 refine Ns (qu (pt f 0) (Fa fo31_0 Z Z) (qu (Iv a0.Term) (Lb 1 pl3 Z Z Z) (qu (pt f 1) (Fa fo31_1 Z Z) (qu (Iv a0.Base) (Lb 1 pl3 Z Z Z) (qu (pt f 2) (Fa fo31_2 Z Z) (qu b (Lb 1 pl23 Z Z Z) ?_))))))
 obtain ⟨e,k,h⟩:=bnd h
 refine We (Ca co10 (f_batch_Of_ok a0.Term a0.Base a0.Records _ _ i e k) (args3 Z Z Z)) Z ?_
 rintro _ n _ g ⟨_,⟨a,c,rfl,rfl,d⟩,rfl⟩
 refine WL.a1 (WL.f1 (We (Sg (v:=(a31_ e a)) (vl:=(l31 e a)) (arr':=(l31 e a)) Z sz31 Z Z (onesOf (Oc Z (Oc Z (Oc (Ow d) Oz)))) Z Z Z) Z ?_))
 rintro _ _ _ - ⟨rfl,rfl⟩
 exact Nt (Cr (Qb (Dr (Rd h [c] (fun _ hs=>hs.drop) (resultsL1 Z (Rc (cs:=(l31 e a)) 0 ag31 sz31 Z Z Z)) g ⟨a,c,Z,Z,d⟩))))
noncomputable def f_law06_works:Option Bool:=
 ((f_batch_Of (3:Int) (9:Int) [lit2_,lit1_]).bind fun a=>((f_batch_Put a).bind fun(i,j)=>((f_batch_Read i).bind fun(c,k)=>((f_batch_Of (3:Int) (9:Int) []).bind fun l=>((f_batch_Put l).bind fun(r,m)=>(if(decide ((a.Records.length:Int)≠(2:Int)))=true then(some false)else(grd (0≤(0:Int)∧(0:Int)≤(1:Int)∧(1:Int)≤(a.Records.length:Int)) ((f_batch_Split (1:Int) (5:Int) (2:Int) (sub a.Records (0:Int) (1:Int))).bind fun b=>(((if j.isNil=true then(if k.isNil=true then((f_batch_Same c a).bind fun n=>(if n=true then((f_batch_Of (3:Int) (9:Int) []).bind fun o=>((f_batch_Same c o).bind fun p=>(if(!p)=true then((f_fault_Is m (6:Int)).bind fun d=>(if d=true then(if(decide ((b.length:Int)=(1:Int)))=true then(grd (0≤(0:Int)∧(0:Int)<b.length) (if(decide (((rd b (0:Int)).Base)=(5:Int)))=true then((f_batch_Check a).bind fun e=>(if e.isNil=true then((f_batch_Copy a).bind fun f=>((f_batch_Same a f).bind fun g=>(some g)))else(some false)))else(some false)))else(some false))else(some false)))else(some false))))else(some false)))else(some false))else(some false)):Option Bool).bind fun q=>(some q))))))))))
def f_law06_works_post:Bool→Value→IM→HL→Prop:=
 fun(a:Bool) (v:Value) (c:IM) (b:HL)=>(.bool a)=v∧b=[]
theorem f_law06_works_ok (M:IM) (hE:Env M) (d1:Bool) (h:f_law06_works=some d1):
 Tri prog 5 #[] M [] (f_law06_works_post d1):=by
 unfold f_law06_works at h
 refine Te func5 Z Z ?_
 intro F ρ k0
 refine Sr (qa (Bv false) (Ns (qu (.agg #[(Iv 1),(Iv 0),(Iv 0),(Iv 0),(Iv 0),(Iv 0),(Iv 0),(Iv 0),(Iv 0),(Bv false),(Sv ⟨#[]⟩),(Sv ⟨#[]⟩),(Sv ⟨#[]⟩),(Sv ⟨#[]⟩),Zs,Zs,Zs,Zs]) (Bl (cl:=[(Iv 1),(Iv 0),(Iv 0),(Iv 0),(Iv 0),(Iv 0),(Iv 0),(Iv 0),(Iv 0),(Bv false),(Sv ⟨#[]⟩),(Sv ⟨#[]⟩),(Sv ⟨#[]⟩),(Sv ⟨#[]⟩),Zs,Zs,Zs,Zs]) ze36 fp36 (Pc (Iv 1) Z Z Pz) Z) (qu (.agg #[(Iv 11),(Iv 0),(Iv 0),(Iv 2),(Iv 0),(Iv 0),(Iv 0),(Iv 0),(Iv 0),(Bv false),(Sv ⟨#[]⟩),(Sv ⟨#[]⟩),(Sv ⟨#[]⟩),(Sv ⟨#[]⟩),Zs,Zs,Zs,Zs]) (Bl (cl:=[(Iv 11),(Iv 0),(Iv 0),(Iv 2),(Iv 0),(Iv 0),(Iv 0),(Iv 0),(Iv 0),(Bv false),(Sv ⟨#[]⟩),(Sv ⟨#[]⟩),(Sv ⟨#[]⟩),(Sv ⟨#[]⟩),Zs,Zs,Zs,Zs]) ze36 fp36 (Pc (Iv 11) Z Z (Pc (Iv 2) Z Z Pz)) Z) (We (buildSliceL (cl:=[(Iv 1),(Iv 0),(Iv 0),(Iv 0),(Iv 0),(Iv 0),(Iv 0),(Iv 0),(Iv 0),(Bv false),(Sv ⟨#[]⟩),(Sv ⟨#[]⟩),(Sv ⟨#[]⟩),(Sv ⟨#[]⟩),Zs,Zs,Zs,Zs,(Iv 11),(Iv 0),(Iv 0),(Iv 2),(Iv 0),(Iv 0),(Iv 0),(Iv 0),(Iv 0),(Bv false),(Sv ⟨#[]⟩),(Sv ⟨#[]⟩),(Sv ⟨#[]⟩),(Sv ⟨#[]⟩),Zs,Zs,Zs,Zs]) underlying23 iz36 Z (Pc (.agg #[(Iv 1),(Iv 0),(Iv 0),(Iv 0),(Iv 0),(Iv 0),(Iv 0),(Iv 0),(Iv 0),(Bv false),(Sv ⟨#[]⟩),(Sv ⟨#[]⟩),(Sv ⟨#[]⟩),(Sv ⟨#[]⟩),Zs,Zs,Zs,Zs]) Z Z (Pc (.agg #[(Iv 11),(Iv 0),(Iv 0),(Iv 2),(Iv 0),(Iv 0),(Iv 0),(Iv 0),(Iv 0),(Bv false),(Sv ⟨#[]⟩),(Sv ⟨#[]⟩),(Sv ⟨#[]⟩),(Sv ⟨#[]⟩),Zs,Zs,Zs,Zs]) Z Z Pz)) Z) Z ?_)))))
 rintro _ _ _ - ⟨rfl,d2,rfl,rfl⟩
 have g8:OwnS kd_api_Record M (.slice (some ⟨d2,0,none⟩) 2 2) [lit2_,lit1_] [(d2, .cells #[(Iv 1),(Iv 0),(Iv 0),(Iv 0),(Iv 0),(Iv 0),(Iv 0),(Iv 0),(Iv 0),(Bv false),(Sv ⟨#[]⟩),(Sv ⟨#[]⟩),(Sv ⟨#[]⟩),(Sv ⟨#[]⟩),Zs,Zs,Zs,Zs,(Iv 11),(Iv 0),(Iv 0),(Iv 2),(Iv 0),(Iv 0),(Iv 0),(Iv 0),(Iv 0),(Bv false),(Sv ⟨#[]⟩),(Sv ⟨#[]⟩),(Sv ⟨#[]⟩),(Sv ⟨#[]⟩),Zs,Zs,Zs,Zs] 36 (0,0))]:=OwnS.rows (css:=[[(Iv 1),(Iv 0),(Iv 0),(Iv 0),(Iv 0),(Iv 0),(Iv 0),(Iv 0),(Iv 0),(Bv false),(Sv ⟨#[]⟩),(Sv ⟨#[]⟩),(Sv ⟨#[]⟩),(Sv ⟨#[]⟩),Zs,Zs,Zs,Zs],[(Iv 11),(Iv 0),(Iv 0),(Iv 2),(Iv 0),(Iv 0),(Iv 0),(Iv 0),(Iv 0),(Bv false),(Sv ⟨#[]⟩),(Sv ⟨#[]⟩),(Sv ⟨#[]⟩),(Sv ⟨#[]⟩),Zs,Zs,Zs,Zs]]) (Rows.cons (kd_api_Record_mk (x:=lit2_) (RS.nil _ _) (RS.nil _ _) (RS.nil _ _) (RS.nil _ _)) (Rows.cons (kd_api_Record_mk (x:=lit1_) (RS.nil _ _) (RS.nil _ _) (RS.nil _ _) (RS.nil _ _)) Rows.nil)) Z Z
 refine WL.know (fun _ hs=>g8.rs hs) (fun d3=> ?_)
 refine WL.freeze (fun J=> ?_)
 obtain ⟨f,d4,h⟩:=bnd h
 refine We (Ca co10 (f_batch_Of_ok (3:Int) (9:Int) [lit2_,lit1_] _ _ d3 f d4) (args3 Z Z Z)) Z ?_
 rintro _ j0 _ K ⟨_,⟨a,a6,rfl,rfl,e⟩,rfl⟩
 refine WL.a1 (We (Al ze31 Z) Z ?_)
 rintro _ _ _ - ⟨rfl,c0,rfl,rfl⟩
 refine We (Sg (v:=(a31_ f a)) (vl:=(l31 f a)) (arr':=(l31 f a)) Z sz31 Z Z (onesOf (Oc Z (Oc Z (Oc (Ow e) Oz)))) Z Z Z) Z ?_
 rintro _ _ _ - ⟨rfl,rfl⟩
 refine Ns (qu (a31_ f a) (La (cs:=(l31 f a)) 0 ag31 sz31 Z Z Z) ?_)
 obtain ⟨⟨c1,L⟩,d5,h⟩:=bnd h
 refine WL.f1 (We (Cb co11 (Tri.lend e.excl fun a7 a8 p=>(f_batch_Put_ok f _ _ (e.rs p) (c1,L) d5)) (args1 Z)) Z ?_)
 rintro _ _ _ y ⟨_,⟨d6,i2,g9,rfl,rfl,⟨E,d7,rfl,rfl,W⟩⟩,rfl⟩
 have W:OwnS (Kd.int .u8) (d6.minus a6) E c1 d7:=W.any (Kd.int_flat _)
 refine WL.a2 (qm (.tuple #[E,(GV L)]) (qu E (Xt Z Z) (qu (GV L) (Xt Z Z) (qa E (qa (GV L) (Ns (qm E (WL.f1 (WL.know (fun _ hs=>W.rs hs) (fun d8=> ?_))))))))))
 refine WL.freeze (fun z=> ?_)
 obtain ⟨⟨q,G⟩,d9,h⟩:=bnd h
 have hE:=hE.mono (((J.trans K).trans y).trans z)
 refine We (Ca co12 (f_batch_Read_ok c1 _ _ d8 hE (q,G) d9) (args1 Z)) Z ?_
 rintro _ j1 _ N ⟨_,⟨b,a9,rfl,rfl,g⟩,rfl⟩
 refine WL.a1 (qm (.tuple #[(a31_ q b),(GV G)]) (qu (a31_ q b) (Xt Z Z) (qu (GV G) (Xt Z Z) (We (Al ze31 Z) Z ?_))))
 rintro _ _ _ - ⟨rfl,h0,rfl,rfl⟩
 refine We (Sg (v:=(a31_ q b)) (vl:=(l31 q b)) (arr':=(l31 q b)) Z sz31 Z Z (onesOf (Oc Z (Oc Z (Oc (Ow g) Oz)))) Z Z Z) Z ?_
 rintro _ _ _ - ⟨rfl,rfl⟩
 refine qa (GV G) (Ns ?_)
 obtain ⟨e0,e1,h⟩:=bnd h
 refine We (Ca co10 (f_batch_Of_ok (3:Int) (9:Int) [] _ _ (RS.nil _ _) e0 e1) (args3 Z Z Z)) Z ?_
 rintro _ j2 _ A ⟨_,⟨g2,b0,rfl,rfl,P⟩,rfl⟩
 refine WL.a1 ?_
 obtain ⟨⟨e2,V⟩,e3,h⟩:=bnd h
 refine We (Cb co11 (Tri.lend P.excl fun a7 a8 p=>(f_batch_Put_ok e0 _ _ (P.rs p) (e2,V) e3)) (args1 Z)) Z ?_
 rintro _ _ _ B ⟨_,⟨e4,i3,h1,rfl,rfl,⟨Q,e5,rfl,rfl,b7⟩⟩,rfl⟩
 have b7:OwnS (Kd.int .u8) (e4.minus b0) Q e2 e5:=b7.any (Kd.int_flat _)
 refine WL.a2 (qm (.tuple #[Q,(GV V)]) (qu Q (Xt Z Z) (qu (GV V) (Xt Z Z) (qa Q (qa (GV V) (Nt (Cs (Sr (qu (pt c0 2) (Fa fo31_2 Z Z) (qu a (Lb 5 pl23 Z Z Z) ?_))))))))))
 have e:=e.mono ((((y.trans z).trans N).trans A).trans B)
 refine qu (Iv (f.Records.length:Int)) (lenS underlying23 Z e.len) (qu (Bv (decide ((f.Records.length:Int)≠(2:Int)))) (neq Z Z) (Nt (Ch h Z (fun e6 h=> ?_) (fun e6 h=> ?_))))
 exact Sr (qa (Bv false) (Nt (Cr (Tr (Dr (Dr (Dr (Dr (Dr (Dr (Rf h [] Z (Rs Z Z) ((((((J.trans K).trans y).trans z).trans N).trans A).trans B) ⟨Z,Z⟩)))))))))))
 refine Ck (Tc (Sr (qu (pt c0 2) (Fa fo31_2 Z Z) (qu a (Lb 5 pl23 Z Z Z) ?_))))
 obtain ⟨s,h⟩:=grd_i h
 have h2:=e.sub s.1 s.2.1 s.2.2
 refine qu (slV a 18 ((0:Int)).toNat ((1:Int)).toNat) (slice (n:=f.Records.length) (l:=((0:Int)).toNat) (h:=((1:Int)).toNat) underlying23 sz36 Z e.len e.cap (bound0 Z) ⟨_,_,Z,(Int.le_trans s.1 s.2.1),Z⟩ (Int.toNat_le_toNat s.2.1) (toNat_le_len s.2.2)) (WL.f4 (WL.know (fun _ hs=>e.rs hs) (fun m=> ?_)))
 refine WL.know (fun _ hs=>h2.rs hs) (fun e7=> ?_)
 refine WL.freeze (fun X=> ?_)
 obtain ⟨w,e8,h⟩:=bnd h
 refine We (Ca co6 (f_batch_Split_ok (1:Int) (5:Int) (2:Int) (sub f.Records (0:Int) (1:Int)) _ _ e7 w e8) (args4 Z Z Z Z)) Z ?_
 rintro _ h3 _ O ⟨_,⟨Y,i4,rfl,rfl,R⟩,rfl⟩
 refine WL.a1 (qa Y (Nt ?_))
 obtain ⟨c2,e9,h⟩:=bnd h
 refine Jf (fun(c2:Bool) j3 M' H'=>h3.le M'∧[(h0, .cells (l31 q b).toArray 31 (0,0))]::[(c0, .cells (l31 f a).toArray 31 (0,0))]::a9::F=H'∧j3 0=(Bv c2)) c2 ?_ ?_
 have h:=e9
 refine WC.draw [0,1,3,7,15,31,63,127,127,511,1023,2047,4095,4095,16383,32767,65535,131071,262143,524287,1048575,2097151,4194303,8388607,16777215,33554431,67108863,134217727,268435455,536870911,1073741823,2147483647,4294967295,8589934591,17179869183,34359738367,68719476735,137438953471,274877906943,549755813887,549755813887,1649267441663,4398046511103,8796093022207,17592186044415] (.pure 0 (.pure 1 (.pure 2 (.pure 3 (.pure 4 (.pure 5 (.pure 6 (.pure 7 (.pure 8 (.alt 9 (.pure 10 (.pure 11 (.pure 12 (.alt 13 (.alt 14 (.pure 15 (.pure 16 (.pure 17 (.pure 18 (.alt 19 (.pure 20 (.pure 21 (.pure 22 (.pure 23 (.pure 24 (.pure 25 (.pure 26 (.pure 27 (.pure 28 (.pure 29 (.pure 30 (.pure 31 (.pure 32 (.pure 33 (.pure 34 (.alt 35 (.pure 36 (.pure 37 (.pure 38 (.pure 39 (.pure 40 (.alt 41 (.alt 42 (.pure 43 (.pure 44 .done)) .none) .none)))))) .none)))))))))))))))) .none))))) .none) .none)))) .none)))))))))) mixed (by kernel_rfl) (qt (GV L) Z (Mv Z) (qt (Bv L.isNil) Z (errNil underlying40 Z) (qt (Bv L.isNil) Z (Mv Z) ?_)))
 rcases Bi h with⟨t,h⟩ |⟨t,h⟩
 refine Tn (GV G) 38 Z Z Z t (Mv Z) Z (Tn (Bv G.isNil) 38 Z Z Z t (errNil underlying40 Z) Z (qt (Bv G.isNil) Z (Pt Z t Z) (qt (Bv G.isNil) Z (Mv Z) ?_)))
 rcases Bi h with⟨r,h⟩ |⟨r,h⟩
 refine Tn (a31_ q b) 42 Z Z Z r (La (cs:=(l31 q b)) 3 ag31 sz31 Z Z Z) Z (Tn (a31_ f a) 42 Z Z Z r (La (cs:=(l31 f a)) 5 ag31 sz31 Z Z Z) Z ?_)
 obtain ⟨c3,f0,h⟩:=bnd h
 refine WT.f4 ?_
 have g:=g.mono (((A.trans B).trans X).trans O)
 have m:=m.mono O
 refine WT.altOn 42 Z Z Z r (Cb co13 (Tri.lend g.excl fun a7 a8 p=>(f_batch_Same_ok q f _ _ _ (g.rs p) (m.mono (IM.le_add _ _)) c3 f0)) (args2 Z Z)) Z ?_ ?_
 rintro _ _ _ a3 ⟨_,⟨i5,i6,h4,rfl,rfl,⟨rfl,rfl⟩⟩,rfl⟩
 refine⟨(Sl Z), ?_⟩
 refine WT.a1 (qt (Bv c3) Z (Pt Z r Z) (qt (Bv c3) Z (Mv Z) ?_))
 rcases Bi h with⟨i,h⟩ |⟨i,h⟩
 refine Tn (a31_ q b) 47 Z Z Z i (La (cs:=(l31 q b)) 4 ag31 sz31 Z Z Z) Z ?_
 obtain ⟨f2,f3,h⟩:=bnd h
 refine WT.altOn 47 Z Z Z i (Ca co10 (f_batch_Of_ok (3:Int) (9:Int) [] _ _ (RS.nil _ _) f2 f3) (args3 Z Z Z)) Z ?_ ?_
 rintro _ j6 _ c4 ⟨_,⟨g3,g4,rfl,rfl,S⟩,rfl⟩
 have f5:=a3.trans c4
 refine⟨(St (StabA.on 47 Z Z Z i (La (cs:=(l31 q b)) 5 ag31 sz31 Z Z Z) Z) (Sl Z)), ?_⟩
 refine WT.a1 ?_
 obtain ⟨b1,f6,h⟩:=bnd h
 refine WT.f1 ?_
 have g:=g.mono f5
 refine WT.altOn 47 Z Z Z i (EO.call2 co13 (Tri.lend g.excl fun a7 a8 p=>(Tri.lend S.excl fun w1_ H1_ hs1_=>(f_batch_Same_ok q f2 _ _ _ ((g.rs p).mono (IM.le_add _ _)) ((S.mono (IM.le_add _ _)).rs hs1_) b1 f6))) (args2 Z Z)) Z ?_ ?_
 rintro _ _ _ c5 ⟨_,⟨h5,h6,g5,rfl,rfl,⟨h7,h8,g6,rfl,rfl,⟨rfl,rfl⟩⟩⟩,rfl⟩
 have f7:=f5.trans c5
 refine⟨(Sl Z), ?_⟩
 refine WT.a2 (Tn (Bv (!b1)) 47 Z Z Z i (PO.not Z) Z (qt (Bv (!b1)) Z (Pt Z i Z) (qt (Bv (!b1)) Z (Mv Z) ?_)))
 rcases Bi h with⟨o,h⟩ |⟨o,h⟩
 refine Tn (GV V) 53 Z Z Z o (Mv Z) Z ?_
 obtain ⟨a4,c6,h⟩:=bnd h
 refine WT.altOn 53 Z Z Z o (Ca co14 (f_fault_Is_ok V (6:Int) _ a4 c6) (args2 Z Z)) Z ?_ ?_
 rintro _ i7 _ b2 ⟨_,⟨rfl,rfl⟩,rfl⟩
 have u:=f7.trans b2
 refine⟨(Sl Z), ?_⟩
 refine WT.a0 (qt (Bv a4) Z (Pt Z o Z) (qt (Bv a4) Z (Mv Z) ?_))
 rcases Bi h with⟨j,h⟩ |⟨j,h⟩
 refine Tn Y 57 Z Z Z j (Mv Z) Z ?_
 have R:=R.mono u
 refine Tn (Iv (w.length:Int)) 57 Z Z Z j (lenS underlying26 Z R.len) Z (Tn (Bv (decide ((w.length:Int)=(1:Int)))) 57 Z Z Z j (eql Z Z) Z (qt (Bv (decide ((w.length:Int)=(1:Int)))) Z (Pt Z j Z) (qt (Bv (decide ((w.length:Int)=(1:Int)))) Z (Mv Z) ?_)))
 rcases Bi h with⟨c,h⟩ |⟨c,h⟩
 refine Tn Y 62 Z Z Z c (Mv Z) Z ?_
 obtain ⟨C,h⟩:=grd_i h
 obtain ⟨b8,h9,b3,b4,hhas120⟩:=R.at C.1 C.2
 obtain ⟨f8,rfl,f9⟩:=kd_api_Batch_open b4
 refine Tn (.pointer (some b8)) 62 Z Z Z c (indexAddr (n:=w.length) underlying26 sz31 Z Z C.1 C.2 b3) Z (Tn (.pointer (some (b8.add 1))) 62 Z Z Z c (Fa fo31_1 Z Z) Z (Tn (Iv ((rd w (0:Int)).Base)) 62 Z Z Z c (loadC 2 pl3 Z Z (hhas120 1 _ Z)) Z (Tn (Bv (decide (((rd w (0:Int)).Base)=5))) 62 Z Z Z c (eql Z Z) Z (qt (Bv (decide (((rd w (0:Int)).Base)=5))) Z (Pt Z c Z) (qt (Bv (decide (((rd w (0:Int)).Base)=5))) Z (Mv Z) ?_)))))
 rcases Bi h with⟨k,h⟩ |⟨k,h⟩
 refine Tn (a31_ f a) 69 Z Z Z k (La (cs:=(l31 f a)) 6 ag31 sz31 Z Z Z) Z ?_
 obtain ⟨T,c7,h⟩:=bnd h
 have m:=m.mono u
 refine WT.altOn 69 Z Z Z k (Ca co15 (f_batch_Check_ok f _ _ m T c7) (args1 Z)) Z ?_ ?_
 rintro _ i8 _ D ⟨_,⟨rfl,rfl⟩,rfl⟩
 refine⟨(Sl Z), ?_⟩
 refine WT.a0 (Tn (Bv T.isNil) 69 Z Z Z k (errNil underlying40 Z) Z (qt (Bv T.isNil) Z (Pt Z k Z) (qt (Bv T.isNil) Z (Mv Z) ?_)))
 rcases Bi h with⟨d,h⟩ |⟨d,h⟩
 refine Tn (a31_ f a) 74 Z Z Z d (La (cs:=(l31 f a)) 6 ag31 sz31 Z Z Z) Z (Tn (a31_ f a) 74 Z Z Z d (La (cs:=(l31 f a)) 6 ag31 sz31 Z Z Z) Z ?_)
 obtain ⟨b9,c8,h⟩:=bnd h
 have m:=m.mono D
 refine WT.altOn 74 Z Z Z d (Ca co16 (f_batch_Copy_ok f _ _ m b9 c8) (args1 Z)) Z ?_ ?_
 rintro _ i9 _ U ⟨_,⟨g0,g1,rfl,rfl,I⟩,rfl⟩
 refine⟨(Sk 1 Z (St (StabA.on 74 Z Z Z d (La (cs:=(l31 f a)) 7 ag31 sz31 Z Z Z) Z) (Sl Z))), ?_⟩
 refine WT.a1 ?_
 obtain ⟨a5,c9,h⟩:=bnd h
 have m:=m.mono U
 refine WT.altOn 74 Z Z Z d (Cb co13 (Tri.lend I.excl fun a7 a8 p=>(f_batch_Same_ok f b9 _ _ _ (m.mono (IM.le_add _ _)) (I.rs p) a5 c9)) (args2 Z Z)) Z ?_ ?_
 rintro _ _ _ b5 ⟨_,⟨i0,i1,g7,rfl,rfl,⟨rfl,rfl⟩⟩,rfl⟩
 refine⟨(Sl Z), ?_⟩
 refine WT.a1 (qt (Bv a5) Z (Pt Z d Z) (qt (Bv a5) Z (Ag Z) (Ti (Dr (Qa (Dr (Qa (Dr (Qa (Dr (Qa ?_)))))))))))
 refine Dr (Qb (Qb ?_))
 obtain rfl:=oi h
 exact Tj ⟨(((u.trans D).trans U).trans b5),Z,Z⟩
 exact Tz
 exact Tz
 refine Tf 74 Z Z Z d Z (Tf 74 Z Z Z d Z (Tg 74 Z Z Z d Z ⟨(Sk 1 Z (St (Sf 74 Z Z Z d Z) (Sl Z))), ?_⟩ ?_))
 refine Tg 74 Z Z Z d Z ⟨(Sl Z), ?_⟩ ?_
 refine qt (Bv false) Z (Pf Z d Z) (qt (Bv false) Z (Ag Z) (Ti (Qa (Dr (Qa (Dr (Qa (Dr (Qa (Dr (Qb ?_)))))))))))
 refine Qb ?_
 obtain rfl:=oi h
 exact Tj ⟨(u.trans D),Z,Z⟩
 exact Tz
 exact Tz
 exact Tz
 refine Tf 69 Z Z Z k Z (Tg 69 Z Z Z k Z ⟨(Sl Z), ?_⟩ ?_)
 refine Tf 69 Z Z Z k Z (qt (Bv false) Z (Pf Z k Z) (qt (Bv false) Z (Mv Z) (Tf 74 Z Z Z Z Z (Tf 74 Z Z Z Z Z (Tg 74 Z Z Z Z Z ⟨(Sk 1 Z (St (Sf 74 Z Z Z Z Z) (Sl Z))), ?_⟩ ?_)))))
 refine Tg 74 Z Z Z Z Z ⟨(Sl Z), ?_⟩ ?_
 refine qt (Bv false) Z (Pf Z Z Z) (qt (Bv false) Z (Ag Z) (Ti (Qa (Dr (Qa (Dr (Qa (Dr (Qa (Dr (Qb ?_)))))))))))
 refine Qb ?_
 obtain rfl:=oi h
 exact Tj ⟨u,Z,Z⟩
 exact Tz
 exact Tz
 exact Tz
 refine Tf 62 Z Z Z c Z (Tf 62 Z Z Z c Z (Tf 62 Z Z Z c Z (Tf 62 Z Z Z c Z (Tf 62 Z Z Z c Z (qt (Bv false) Z (Pf Z c Z) (qt (Bv false) Z (Mv Z) (Tf 69 Z Z Z Z Z (Tg 69 Z Z Z Z Z ⟨(Sl Z), ?_⟩ ?_))))))))
 refine Tf 69 Z Z Z Z Z (qt (Bv false) Z (Pf Z Z Z) (qt (Bv false) Z (Mv Z) (Tf 74 Z Z Z Z Z (Tf 74 Z Z Z Z Z (Tg 74 Z Z Z Z Z ⟨(Sk 1 Z (St (Sf 74 Z Z Z Z Z) (Sl Z))), ?_⟩ ?_)))))
 refine Tg 74 Z Z Z Z Z ⟨(Sl Z), ?_⟩ ?_
 refine qt (Bv false) Z (Pf Z Z Z) (qt (Bv false) Z (Ag Z) (Ti (Qa (Dr (Qa (Dr (Qa (Dr (Qa (Dr (Qb ?_)))))))))))
 refine Qb ?_
 obtain rfl:=oi h
 exact Tj ⟨u,Z,Z⟩
 exact Tz
 exact Tz
 exact Tz
 refine Tf 57 Z Z Z j Z (Tf 57 Z Z Z j Z (Tf 57 Z Z Z j Z (qt (Bv false) Z (Pf Z j Z) (qt (Bv false) Z (Mv Z) (Tf 62 Z Z Z Z Z (Tf 62 Z Z Z Z Z (Tf 62 Z Z Z Z Z (Tf 62 Z Z Z Z Z (Tf 62 Z Z Z Z Z (qt (Bv false) Z (Pf Z Z Z) (qt (Bv false) Z (Mv Z) ?_)))))))))))
 refine Tf 69 Z Z Z Z Z (Tg 69 Z Z Z Z Z ⟨(Sl Z), ?_⟩ ?_)
 refine Tf 69 Z Z Z Z Z (qt (Bv false) Z (Pf Z Z Z) (qt (Bv false) Z (Mv Z) (Tf 74 Z Z Z Z Z (Tf 74 Z Z Z Z Z (Tg 74 Z Z Z Z Z ⟨(Sk 1 Z (St (Sf 74 Z Z Z Z Z) (Sl Z))), ?_⟩ ?_)))))
 refine Tg 74 Z Z Z Z Z ⟨(Sl Z), ?_⟩ ?_
 refine qt (Bv false) Z (Pf Z Z Z) (qt (Bv false) Z (Ag Z) (Ti (Qa (Dr (Qa (Dr (Qa (Dr (Qa (Dr (Qb ?_)))))))))))
 refine Qb ?_
 obtain rfl:=oi h
 exact Tj ⟨u,Z,Z⟩
 exact Tz
 exact Tz
 exact Tz
 exact Tz
 refine Tf 53 Z Z Z o Z (Tg 53 Z Z Z o Z ⟨(Sl Z), ?_⟩ ?_)
 refine qt (Bv false) Z (Pf Z o Z) (qt (Bv false) Z (Mv Z) (Tf 57 Z Z Z Z Z (Tf 57 Z Z Z Z Z (Tf 57 Z Z Z Z Z (qt (Bv false) Z (Pf Z Z Z) (qt (Bv false) Z (Mv Z) (Tf 62 Z Z Z Z Z (Tf 62 Z Z Z Z Z (Tf 62 Z Z Z Z Z (Tf 62 Z Z Z Z Z (Tf 62 Z Z Z Z Z ?_)))))))))))
 refine qt (Bv false) Z (Pf Z Z Z) (qt (Bv false) Z (Mv Z) (Tf 69 Z Z Z Z Z (Tg 69 Z Z Z Z Z ⟨(Sl Z), ?_⟩ ?_)))
 refine Tf 69 Z Z Z Z Z (qt (Bv false) Z (Pf Z Z Z) (qt (Bv false) Z (Mv Z) (Tf 74 Z Z Z Z Z (Tf 74 Z Z Z Z Z (Tg 74 Z Z Z Z Z ⟨(Sk 1 Z (St (Sf 74 Z Z Z Z Z) (Sl Z))), ?_⟩ ?_)))))
 refine Tg 74 Z Z Z Z Z ⟨(Sl Z), ?_⟩ ?_
 refine qt (Bv false) Z (Pf Z Z Z) (qt (Bv false) Z (Ag Z) (Ti (Qa (Dr (Qa (Dr (Qa (Dr (Qa (Dr (Qb ?_)))))))))))
 refine Qb ?_
 obtain rfl:=oi h
 exact Tj ⟨f7,Z,Z⟩
 exact Tz
 exact Tz
 exact Tz
 exact Tz
 exact Tz
 exact Tz
 refine Tf 47 Z Z Z i Z (Tg 47 Z Z Z i Z ⟨(St (Sf 47 Z Z Z i Z) (Sl Z)), ?_⟩ ?_)
 refine Tg 47 Z Z Z i Z ⟨(Sl Z), ?_⟩ ?_
 refine Tf 47 Z Z Z i Z (qt (Bv false) Z (Pf Z i Z) (qt (Bv false) Z (Mv Z) (Tf 53 Z Z Z Z Z (Tg 53 Z Z Z Z Z ⟨(Sl Z), ?_⟩ ?_))))
 refine qt (Bv false) Z (Pf Z Z Z) (qt (Bv false) Z (Mv Z) (Tf 57 Z Z Z Z Z (Tf 57 Z Z Z Z Z (Tf 57 Z Z Z Z Z (qt (Bv false) Z (Pf Z Z Z) (qt (Bv false) Z (Mv Z) (Tf 62 Z Z Z Z Z (Tf 62 Z Z Z Z Z (Tf 62 Z Z Z Z Z (Tf 62 Z Z Z Z Z (Tf 62 Z Z Z Z Z ?_)))))))))))
 refine qt (Bv false) Z (Pf Z Z Z) (qt (Bv false) Z (Mv Z) (Tf 69 Z Z Z Z Z (Tg 69 Z Z Z Z Z ⟨(Sl Z), ?_⟩ ?_)))
 refine Tf 69 Z Z Z Z Z (qt (Bv false) Z (Pf Z Z Z) (qt (Bv false) Z (Mv Z) (Tf 74 Z Z Z Z Z (Tf 74 Z Z Z Z Z (Tg 74 Z Z Z Z Z ⟨(Sk 1 Z (St (Sf 74 Z Z Z Z Z) (Sl Z))), ?_⟩ ?_)))))
 refine Tg 74 Z Z Z Z Z ⟨(Sl Z), ?_⟩ ?_
 refine qt (Bv false) Z (Pf Z Z Z) (qt (Bv false) Z (Ag Z) (Ti (Qa (Dr (Qa (Dr (Qa (Dr (Qb (Qb ?_))))))))))
 obtain rfl:=oi h
 exact Tj ⟨a3,Z,Z⟩
 exact Tz
 exact Tz
 exact Tz
 exact Tz
 exact Tz
 exact Tz
 exact Tz
 refine Tf 42 Z Z Z r Z (Tf 42 Z Z Z r Z (Tg 42 Z Z Z r Z ⟨(Sl Z), ?_⟩ ?_))
 refine qt (Bv false) Z (Pf Z r Z) (qt (Bv false) Z (Mv Z) (Tf 47 Z Z Z Z Z (Tg 47 Z Z Z Z Z ⟨(St (Sf 47 Z Z Z Z Z) (Sl Z)), ?_⟩ ?_)))
 refine Tg 47 Z Z Z Z Z ⟨(Sl Z), ?_⟩ ?_
 refine Tf 47 Z Z Z Z Z (qt (Bv false) Z (Pf Z Z Z) (qt (Bv false) Z (Mv Z) (Tf 53 Z Z Z Z Z (Tg 53 Z Z Z Z Z ⟨(Sl Z), ?_⟩ ?_))))
 refine qt (Bv false) Z (Pf Z Z Z) (qt (Bv false) Z (Mv Z) (Tf 57 Z Z Z Z Z (Tf 57 Z Z Z Z Z (Tf 57 Z Z Z Z Z (qt (Bv false) Z (Pf Z Z Z) (qt (Bv false) Z (Mv Z) (Tf 62 Z Z Z Z Z (Tf 62 Z Z Z Z Z (Tf 62 Z Z Z Z Z (Tf 62 Z Z Z Z Z (Tf 62 Z Z Z Z Z ?_)))))))))))
 refine qt (Bv false) Z (Pf Z Z Z) (qt (Bv false) Z (Mv Z) (Tf 69 Z Z Z Z Z (Tg 69 Z Z Z Z Z ⟨(Sl Z), ?_⟩ ?_)))
 refine Tf 69 Z Z Z Z Z (qt (Bv false) Z (Pf Z Z Z) (qt (Bv false) Z (Mv Z) (Tf 74 Z Z Z Z Z (Tf 74 Z Z Z Z Z (Tg 74 Z Z Z Z Z ⟨(Sk 1 Z (St (Sf 74 Z Z Z Z Z) (Sl Z))), ?_⟩ ?_)))))
 refine Tg 74 Z Z Z Z Z ⟨(Sl Z), ?_⟩ ?_
 refine qt (Bv false) Z (Pf Z Z Z) (qt (Bv false) Z (Ag Z) (Ti (Dr (Dr (Dr (Qa (Qb (Qb ?_))))))))
 obtain rfl:=oi h
 exact Tj ⟨lr,Z,Z⟩
 exact Tz
 exact Tz
 exact Tz
 exact Tz
 exact Tz
 exact Tz
 exact Tz
 refine Tf 38 Z Z Z t Z (Tf 38 Z Z Z t Z (qt (Bv false) Z (Pf Z t Z) (qt (Bv false) Z (Mv Z) (Tf 42 Z Z Z Z Z (Tf 42 Z Z Z Z Z (Tg 42 Z Z Z Z Z ⟨(Sl Z), ?_⟩ ?_))))))
 refine qt (Bv false) Z (Pf Z Z Z) (qt (Bv false) Z (Mv Z) (Tf 47 Z Z Z Z Z (Tg 47 Z Z Z Z Z ⟨(St (Sf 47 Z Z Z Z Z) (Sl Z)), ?_⟩ ?_)))
 refine Tg 47 Z Z Z Z Z ⟨(Sl Z), ?_⟩ ?_
 refine Tf 47 Z Z Z Z Z (qt (Bv false) Z (Pf Z Z Z) (qt (Bv false) Z (Mv Z) (Tf 53 Z Z Z Z Z (Tg 53 Z Z Z Z Z ⟨(Sl Z), ?_⟩ ?_))))
 refine qt (Bv false) Z (Pf Z Z Z) (qt (Bv false) Z (Mv Z) (Tf 57 Z Z Z Z Z (Tf 57 Z Z Z Z Z (Tf 57 Z Z Z Z Z (qt (Bv false) Z (Pf Z Z Z) (qt (Bv false) Z (Mv Z) (Tf 62 Z Z Z Z Z (Tf 62 Z Z Z Z Z (Tf 62 Z Z Z Z Z (Tf 62 Z Z Z Z Z (Tf 62 Z Z Z Z Z ?_)))))))))))
 refine qt (Bv false) Z (Pf Z Z Z) (qt (Bv false) Z (Mv Z) (Tf 69 Z Z Z Z Z (Tg 69 Z Z Z Z Z ⟨(Sl Z), ?_⟩ ?_)))
 refine Tf 69 Z Z Z Z Z (qt (Bv false) Z (Pf Z Z Z) (qt (Bv false) Z (Mv Z) (Tf 74 Z Z Z Z Z (Tf 74 Z Z Z Z Z (Tg 74 Z Z Z Z Z ⟨(Sk 1 Z (St (Sf 74 Z Z Z Z Z) (Sl Z))), ?_⟩ ?_)))))
 refine Tg 74 Z Z Z Z Z ⟨(Sl Z), ?_⟩ ?_
 refine qt (Bv false) Z (Pf Z Z Z) (qt (Bv false) Z (Ag Z) (Ti (Dr (Dr (Dr (Qa (Qb (Qb ?_))))))))
 obtain rfl:=oi h
 exact Tj ⟨lr,Z,Z⟩
 exact Tz
 exact Tz
 exact Tz
 exact Tz
 exact Tz
 exact Tz
 exact Tz
 rintro j7 j8 j9 ⟨d0,rfl,b6⟩
 exact Cr (Dr (Dr (Dr (Rf h [] Z (Rs Z b6) (((((((((J.trans K).trans y).trans z).trans N).trans A).trans B).trans X).trans O).trans d0) ⟨Z,Z⟩))))
noncomputable def f_ref06_Split_l0 (a0:Int) (a1:Int) (a2:Int) (a3:(List T_api_Record)) (e:((List T_api_Batch)×Int)):Option (((List T_api_Batch)×Int)⊕(List T_api_Batch)):=
 match e with
 |(c,b)=>
 (((if(decide (b<(a3.length:Int)))=true then(some (decide ((0:Int)<a2)))else(some false)):Option Bool).bind fun d=>(if d=true then(((grd (a2≠0) (if(decide ((b.tmod a2)=(0:Int)))=true then(grd (a2≠0) (grd (c.length+[(⟨a0,i64.wrap (a1+(i64.wrap (b.tdiv a2))),[]⟩:T_api_Batch)].length≤274877906944) (some (c++[(⟨a0,i64.wrap (a1+(i64.wrap (b.tdiv a2))),[]⟩:T_api_Batch)]))))else(some c))):Option (List T_api_Batch)).bind fun a=>(grd (0≤i64.wrap ((a.length:Int)- (1:Int))∧i64.wrap ((a.length:Int)- (1:Int))<a.length) (grd (0≤b∧b<a3.length) (grd (((rd a (i64.wrap ((a.length:Int)- (1:Int)))).Records).length+[(rd a3 b)].length≤274877906944) (grd (0≤i64.wrap ((a.length:Int)- (1:Int))∧i64.wrap ((a.length:Int)- (1:Int))<a.length) (some (inl (a.set (i64.wrap ((a.length:Int)- (1:Int))).toNat (⟨(rd a (i64.wrap ((a.length:Int)- (1:Int)))).Term,(rd a (i64.wrap ((a.length:Int)- (1:Int)))).Base,((rd a (i64.wrap ((a.length:Int)- (1:Int)))).Records)++[(rd a3 b)]⟩:T_api_Batch),i64.wrap (b+(1:Int))))))))))else(some (inr c))))
noncomputable def f_ref06_Split (a0:Int) (a1:Int) (a2:Int) (a3:(List T_api_Record)):Option (List T_api_Batch):=
 ((((iter (f_ref06_Split_l0 a0 a1 a2 a3) ([],(0:Int))).bind (fun(a:(List T_api_Batch))=>(some a))):Option (List T_api_Batch)).bind fun b=>(some b))
def f_ref06_Split_post (a0:Int) (a1:Int) (a2:Int) (a3:(List T_api_Record)) (f:Value):(List T_api_Batch)→Value→IM→HL→Prop:=
 fun(c:(List T_api_Batch)) (v:Value) (d:IM) (e:HL)=>∃ a b,a=v∧e=[b]∧OwnS kd_api_Batch d a c b
/-- A batch, and the row that stands in it. -/
def kdBV : Kd (T_api_Batch × Value) := ⟨kd_api_Batch.sz, fun M cs x => kd_api_Batch.rc M cs x.1 ∧ cs[2]? = some x.2, fun hle _ _ h => ⟨kd_api_Batch.mono hle h.1, h.2⟩, fun h => kd_api_Batch.len h.1, fun h => kd_api_Batch.one h.1⟩
/-- A row of batches, the row inside the last of which is still appended to. -/
def BVs (M : IM) (v : Value) (xs : List T_api_Batch) (cO cL : Chunk) : Prop :=
  ∃ ps : List (T_api_Batch × Value), ps.map (·.1) = xs ∧ OwnS kdBV M v ps cO ∧ ((ps = [] ∧ cL = []) ∨ ∃ p0 b w, ps = p0 ++ [(b, w)] ∧ OwnSh kd_api_Record M w b.Records cL) ∧ xs.length ≤ 274877906944
theorem BVs.nil (M : IM) : BVs M (.slice none 0 0) [] [] [] := ⟨[], rfl, OwnS.nil _ _, .inl ⟨rfl, rfl⟩, Nat.zero_le _⟩
theorem BVs.mono {M M' : IM} {v : Value} {xs : List T_api_Batch} {cO cL : Chunk} (h : BVs M v xs cO cL) (hle : M.le M') : BVs M' v xs cO cL := by
  obtain ⟨ps, h1, h2, h3, h4⟩ := h
  exact ⟨ps, h1, h2.mono hle, h3.imp id fun ⟨p0, b, w, e, k⟩ => ⟨p0, b, w, e, k.mono hle⟩, h4⟩
theorem BVs.own {M : IM} {v : Value} {xs : List T_api_Batch} {cO cL : Chunk} (h : BVs M v xs cO cL) : OwnS kd_api_Batch M v xs cO := by
  obtain ⟨ps, rfl, ⟨a, n, cap, e1, e2, e3, e4⟩, _⟩ := h
  refine ⟨a, n, cap, e1, by rw [e2, List.length_map], e3, e4.imp id ?_⟩
  rintro ⟨g, off, arr, T, fr, q1, q2, q3, q4, q5⟩
  refine ⟨g, off, arr, T, fr, q1, q2, q3, q4, fun i hi => ?_⟩
  obtain ⟨cs, r, m⟩ := q5 i (by simpa using hi)
  exact ⟨cs, by rw [List.getElem_map]; exact r.1, m⟩
theorem BVs.last {M : IM} {v : Value} {xs : List T_api_Batch} {cO cL : Chunk} (h : BVs M v xs cO cL) {i : Int} (hi : i = IntKind.i64.wrap ((xs.length : Int) - (1 : Int))) (h0 : 0 ≤ i) (h1 : i < xs.length) :
    ∃ w p, At v 3 xs.length i p ∧ RS kd_api_Record M w (rd xs i).Records ∧ chunkHas cO p (l31 (rd xs i) w) ∧ OwnSh kd_api_Record M w (rd xs i).Records cL ∧
      ∀ {M' : IM}, M.le M' → ∃ ps, OwnS kdBV M' v ps cO ∧ ps.length = xs.length ∧ ∀ {b' : T_api_Batch} {w' : Value} {cO' cL' : Chunk}, OwnS kdBV M' v (ps.set i.toNat (b', w')) cO' → OwnSh kd_api_Record M' w' b'.Records cL' → BVs M' v (xs.set i.toNat b') cO' cL' := by
  obtain ⟨ps, hps, hO, hL, hN⟩ := h
  have hl : ps.length = xs.length := by rw [← hps, List.length_map]
  rcases hL with ⟨rfl, _⟩ | ⟨p0, b, w, e, hS⟩
  · rw [← hl] at h1; simp at h1; omega
  have hn : xs.length = p0.length + 1 := by rw [← hl, e]; simp
  have hi2 : i = (p0.length : Int) := by rw [hi, w_i64 (by omega) (by omega)]; omega
  have hx : xs = p0.map (·.1) ++ [b] := by rw [← hps, e]; simp
  have hrp : rd ps i = (b, w) := by rw [e, hi2]; simp [rd]
  have hrx : rd xs i = b := by rw [hx, hi2]; simp [rd]
  obtain ⟨p, cs, hat, hrc, hh⟩ := hO.at h0 (by omega)
  rw [hrp] at hrc
  obtain ⟨w', rfl, hw⟩ := kd_api_Batch_open hrc.1
  have hww : w' = w := by simpa using hrc.2
  subst hww
  rw [hrx]
  refine ⟨w', p, by rw [← hl]; exact hat, hw, hh, hS, fun hle => ⟨ps, hO.mono hle, hl, fun {b' w2 cO' cL'} k1 k2 => ⟨_, ?_, k1, .inr ⟨p0, b', w2, ?_, k2⟩, by simpa using hN⟩⟩⟩
  · rw [List.map_set, hps]
  · rw [e, hi2]; simp
theorem f_ref06_Split_ok (a0 : Int) (a1 : Int) (a2 : Int) (a3 : (List T_api_Record)) (M : IM) (v3 : Value) (h3 : RS kd_api_Record M v3 a3) (res : (List T_api_Batch)) (h : f_ref06_Split a0 a1 a2 a3 = some res) :
    Tri Tryd.prog 8 #[(.int .i64 a0), (.int .i64 a1), (.int .i64 a2), v3] M [] (f_ref06_Split_post a0 a1 a2 a3 v3 res) := by
 unfold f_ref06_Split at h
 refine Tri.enter (fn := Tryd.f8) Tryd.func8 rfl (Nat.le_of_ble_eq_true rfl) ?_
 intro F ρ hρ
 refine Sr ?_
 refine Pa (.slice none 0 0) rfl rfl ?_
 refine Ns ?_
 refine Pa (.slice none 0 0) rfl rfl ?_
 refine Nt ?_
 obtain ⟨x21, hj22, h⟩ := bnd h
 refine WC.joinF (fun (x21 : (List T_api_Batch)) ρ' M' H' => ∃ vx21 cx21, M.le M' ∧ cx21 :: F = H' ∧ ρ' 9 = vx21 ∧ OwnS kd_api_Batch M' vx21 x21 cx21) x21 ?_ ?_
 have h322 := h
 have h := hj22
 refine Sr ?_
 refine Pa (.int .i64 0) rfl rfl ?_
 refine Nt ?_
 refine WC.block ?_
 refine WC.e0 ?_
 refine WC.e0 ?_
 obtain ⟨e23, he23, hK23⟩ := bnd h
 clear h
 refine WC.loop he23 (fun (p_ : ((List T_api_Batch) × Int)) ρ' M' H' => match p_ with | (x24, x25) => ∃ vx24 cx24 cl24, M.le M' ∧ cx24 :: cl24 :: F = H' ∧ ρ' 0 = (.int .i64 a0) ∧ ρ' 1 = (.int .i64 a1) ∧ ρ' 2 = (.int .i64 a2) ∧ ρ' 3 = v3 ∧ ρ' 9 = vx24 ∧ ρ' 10 = (.int .i64 x25) ∧ BVs M' vx24 x24 cx24 cl24) ?_ ?_
 exact ⟨(.slice none 0 0), [], [], (IM.le.refl _), rfl, (hρ 0), (hρ 1), (hρ 2), (hρ 3), rfl, rfl, BVs.nil _⟩
 rintro ⟨x24, x25⟩ o23 ρ23 M23 H23 h ⟨vx24, cx24, cl24, hle23, rfl, hs23_0, hs23_1, hs23_2, hs23_3, hs23_9, hs23_10, hx24⟩
 unfold f_ref06_Split_l0 at h
 have h3 := h3.mono hle23
 refine WC.seq ?_
 obtain ⟨x28, hj29, h⟩ := bnd h
 refine WC.joinF (fun (x28 : Bool) ρ' M' H' => M23.le M' ∧ cx24 :: cl24 :: F = H' ∧ ρ' 0 = (.int .i64 a0) ∧ ρ' 1 = (.int .i64 a1) ∧ ρ' 2 = (.int .i64 a2) ∧ ρ' 3 = v3 ∧ ρ' 9 = vx24 ∧ ρ' 10 = (.int .i64 x25) ∧ ρ' 19 = (.bool x28)) x28 ?_ ?_
 have h329 := h
 have h := hj29
 refine WC.region ?_
 refine Pm (.int .i64 x25) hs23_10 rfl ?_
 refine Pm v3 hs23_3 rfl ?_
 refine Pu (.int .i64 (a3.length : Int)) (PO.lenS Tryd.underlying23 rfl h3.len) rfl ?_
 refine Pu (.bool (decide (x25 < (a3.length : Int)))) (PO.lss rfl rfl) rfl ?_
 refine Pm (.bool (decide (x25 < (a3.length : Int)))) rfl rfl ?_
 rcases Bool.eq_false_or_eq_true (decide (x25 < (a3.length : Int))) with hb30 | hb30
 have h := ite_t hb30 h
 refine On 16 rfl rfl hb30 ?_
 refine Pm (.int .i64 a2) hs23_2 rfl ?_
 refine On 16 rfl rfl hb30 ?_
 refine Pu (.bool (decide ((0 : Int) < a2))) (PO.gtr rfl rfl) rfl ?_
 refine Pu (.bool (decide ((0 : Int) < a2))) (PO.pickT rfl hb30 rfl) rfl ?_
 refine WL.nil ?_
 obtain rfl := Option.some.inj h
 refine WQ.thenJ ?_
 exact ⟨(IM.le.refl _), rfl, hs23_0, hs23_1, hs23_2, hs23_3, hs23_9, hs23_10, rfl⟩
 have h := ite_f hb30 h
 iterate 2 refine Of 16 rfl rfl hb30 rfl ?_
 refine Pu (.bool false) (PO.pickF rfl hb30 rfl) rfl ?_
 refine WL.nil ?_
 obtain rfl := Option.some.inj h
 refine WQ.thenJ ?_
 exact ⟨(IM.le.refl _), rfl, hs23_0, hs23_1, hs23_2, hs23_3, hs23_9, hs23_10, rfl⟩
 rintro ρ29 M29 H29 ⟨hle29, rfl, hs29_0, hs29_1, hs29_2, hs29_3, hs29_9, hs29_10, hs29_19⟩
 have h3 := h3.mono hle29
 have hx24 := hx24.mono hle29
 refine WC.cond (b := x28) hs29_19 (fun hb31 => ?_) (fun hb31 => ?_)
 have h := ite_t hb31 h
 refine WC.skip ?_
 refine WQ.thenC ?_
 refine WC.seq ?_
 refine WC.block ?_
 obtain ⟨x32, hj33, h⟩ := bnd h
 refine WC.joinF (fun (x32 : (List T_api_Batch)) ρ' M' H' => ∃ vx32 cx32 cl32, M29.le M' ∧ cx32 :: cl32 :: F = H' ∧ ρ' 0 = (.int .i64 a0) ∧ ρ' 1 = (.int .i64 a1) ∧ ρ' 2 = (.int .i64 a2) ∧ ρ' 3 = v3 ∧ ρ' 9 = vx32 ∧ ρ' 10 = (.int .i64 x25) ∧ BVs M' vx32 x32 cx32 cl32) x32 ?_ ?_
 have h333 := h
 have h := hj33
 refine Sr ?_
 refine Pm (.int .i64 x25) hs29_10 rfl ?_
 refine Pm (.int .i64 a2) hs29_2 rfl ?_
 obtain ⟨hg34, h⟩ := grd_i h
 refine Pu (.int .i64 (x25.tmod a2)) (PO.rem rfl rfl hg34) rfl ?_
 refine Pu (.bool (decide ((x25.tmod a2) = 0))) (PO.eql rfl rfl) rfl ?_
 refine Nt ?_
 refine WC.cond (b := decide ((x25.tmod a2) = 0)) rfl (fun hb35 => ?_) (fun hb35 => ?_)
 have h := ite_t hb35 h
 refine WC.region ?_
 refine Pm vx24 hs29_9 rfl ?_
 refine Pm (.int .i64 a0) hs29_0 rfl ?_
 refine Pm (.int .i64 a1) hs29_1 rfl ?_
 refine Pm (.int .i64 x25) hs29_10 rfl ?_
 refine Pm (.int .i64 a2) hs29_2 rfl ?_
 obtain ⟨hg36, h⟩ := grd_i h
 refine Pu (.int .i64 (IntKind.i64.wrap (x25.tdiv a2))) (PO.quo rfl rfl hg36) rfl ?_
 refine Pu (.int .i64 (IntKind.i64.wrap (a1 + (IntKind.i64.wrap (x25.tdiv a2))))) (PO.add rfl rfl) rfl ?_
 refine Pu (.agg #[(.int .i64 a0), (.int .i64 (IntKind.i64.wrap (a1 + (IntKind.i64.wrap (x25.tdiv a2))))), (.slice none 0 0)]) (PO.buildL (cl := [(.int .i64 a0), (.int .i64 (IntKind.i64.wrap (a1 + (IntKind.i64.wrap (x25.tdiv a2))))), (.slice none 0 0)]) ze31 fp31 (Parts.cons (congrArg Value.cells (show ev _ _ = (.int .i64 a0) from rfl)) (Parts.cons (congrArg Value.cells (show ev _ _ = (.int .i64 (IntKind.i64.wrap (a1 + (IntKind.i64.wrap (x25.tdiv a2))))) from rfl)) Parts.nil)) rfl) rfl ?_
 refine WL.eff (EO.buildSliceL (cl := [(.int .i64 a0), (.int .i64 (IntKind.i64.wrap (a1 + (IntKind.i64.wrap (x25.tdiv a2))))), (.slice none 0 0)]) Tryd.underlying26 iz31 rfl (Parts.cons (congrArg Value.cells (show ev _ _ = (.agg #[(.int .i64 a0), (.int .i64 (IntKind.i64.wrap (a1 + (IntKind.i64.wrap (x25.tdiv a2))))), (.slice none 0 0)]) from rfl)) Parts.nil) rfl) rfl ?_
 rintro _ _ _ - ⟨rfl, g37, rfl, rfl⟩
 obtain ⟨ps, hps, hO, hL, hN⟩ := hx24
 have h39 : OwnS kdBV M29 (.slice (some ⟨g37, 0, none⟩) 1 1) [((⟨a0, IntKind.i64.wrap (a1 + (IntKind.i64.wrap (x25.tdiv a2))), []⟩ : T_api_Batch), (.slice none 0 0))] [(g37, .cells #[(.int .i64 a0), (.int .i64 (IntKind.i64.wrap (a1 + (IntKind.i64.wrap (x25.tdiv a2))))), (.slice none 0 0)] 31 (0, 0))] := OwnS.rows (css := [[(.int .i64 a0), (.int .i64 (IntKind.i64.wrap (a1 + (IntKind.i64.wrap (x25.tdiv a2))))), (.slice none 0 0)]]) (Rows.cons ⟨kd_api_Batch_mk (x := (⟨a0, IntKind.i64.wrap (a1 + (IntKind.i64.wrap (x25.tdiv a2))), []⟩ : T_api_Batch)) (RS.nil _ _), rfl⟩ Rows.nil) rfl rfl
 obtain ⟨hg43, h⟩ := grd_i h
 refine WL.f1 ?_
 refine WL.eff (EO.append (dd := kdBV) (xs := ps) (ys := [((⟨a0, IntKind.i64.wrap (a1 + (IntKind.i64.wrap (x25.tdiv a2))), []⟩ : T_api_Batch), (.slice none 0 0))]) Tryd.underlying26 Tryd.underlying26 in31 rfl (appB (by decide) (by rw [← hps, List.length_map] at hg43; exact hg43)) (by decide) rfl rfl hO (h39.src 1 rfl)) rfl ?_
 rintro v42 _ _ - ⟨rfl, c40, rfl, h41⟩
 refine Pa v42 rfl rfl ?_
 refine WL.nil ?_
 refine WQ.f1 ?_
 refine WQ.drop ?_
 refine WQ.f1 ?_
 refine WQ.drop ?_
 refine WQ.e0 ?_
 refine WQ.f1 ?_
 obtain rfl := Option.some.inj h
 refine WQ.thenJ ?_
 exact ⟨v42, c40, [], (IM.le.refl _), rfl, hs29_0, hs29_1, hs29_2, hs29_3, rfl, hs29_10, _, by rw [List.map_append, hps]; rfl, h41, .inr ⟨ps, _, _, rfl, OwnSh.nil _ _⟩, by simpa using hg43⟩
 have h := ite_f hb35 h
 refine WC.skip ?_
 obtain rfl := Option.some.inj h
 refine WQ.thenJ ?_
 exact ⟨vx24, cx24, cl24, (IM.le.refl _), rfl, hs29_0, hs29_1, hs29_2, hs29_3, hs29_9, hs29_10, hx24⟩
 rintro ρ33 M33 H33 ⟨vx32, cx32, cl32, hle33, rfl, hs33_0, hs33_1, hs33_2, hs33_3, hs33_9, hs33_10, hx32⟩
 have h3 := h3.mono hle33
 refine Sr ?_
 refine Pm vx32 hs33_9 rfl ?_
 refine Pm vx32 hs33_9 rfl ?_
 refine Pu (.int .i64 (x32.length : Int)) (PO.lenS Tryd.underlying26 rfl hx32.own.len) rfl ?_
 refine Pu (.int .i64 (IntKind.i64.wrap ((x32.length : Int) - (1 : Int)))) (PO.sub rfl rfl) rfl ?_
 obtain ⟨hg44, h⟩ := grd_i h
 obtain ⟨vw50_2, p45, hat47, hw50_2, hhas49, hS50, hset⟩ := hx32.last rfl hg44.1 hg44.2
 refine Pu (.pointer (some p45)) (PO.indexAddr (n := x32.length) Tryd.underlying26 sz31 rfl rfl hg44.1 hg44.2 hat47) rfl ?_
 refine Pu (a31_ (rd x32 (IntKind.i64.wrap ((x32.length : Int) - (1 : Int)))) vw50_2) (PO.loadCA (cs := (l31 (rd x32 (IntKind.i64.wrap ((x32.length : Int) - (1 : Int)))) vw50_2)) 0 ag31 sz31 rfl rfl hhas49) rfl ?_
 refine WL.eff (EO.alloc ze31 rfl) rfl ?_
 rintro _ _ _ - ⟨rfl, g51, rfl, rfl⟩
 refine WL.eff (EO.storeL (v := (a31_ (rd x32 (IntKind.i64.wrap ((x32.length : Int) - (1 : Int)))) vw50_2)) (vl := (l31 (rd x32 (IntKind.i64.wrap ((x32.length : Int) - (1 : Int)))) vw50_2)) (arr' := (l31 (rd x32 (IntKind.i64.wrap ((x32.length : Int) - (1 : Int)))) vw50_2)) rfl sz31 rfl rfl (onesOf (Ones.cons rfl (Ones.cons rfl (Ones.cons (RS.one hw50_2) Ones.nil)))) rfl rfl rfl) rfl ?_
 rintro _ _ _ - ⟨rfl, rfl⟩
 refine Nt ?_
 refine WC.seq ?_
 refine WC.draw [0, 1, 0, 0, 12, 28, 60, 127, 255, 511] (.pure 0 (.pure 1 (.pure 2 (.pure 3 (.pure 4 (.pure 5 (.alt 6 (.alt 7 (.pure 8 (.alt 9 .done .none)) .none) .none))))))) mixed (by kernel_rfl) ?_
 refine Tp (pt g51 2) rfl (PO.fieldAddr fo31_2 rfl rfl) rfl ?_
 refine Tp vw50_2 rfl (PO.loadB 0 pl23 rfl rfl rfl) rfl ?_
 refine Tp v3 rfl (PO.move hs33_3) rfl ?_
 refine Tp (.int .i64 x25) rfl (PO.move hs33_10) rfl ?_
 obtain ⟨hg52, h⟩ := grd_i h
 obtain ⟨p53, cs54, hat55, hrc56, hhas57⟩ := h3.at hg52.1 hg52.2 (by decide)
 obtain ⟨vw58_14, vw58_15, vw58_16, vw58_17, rfl, hw58_14, hw58_15, hw58_16, hw58_17⟩ := kd_api_Record_open hrc56
 refine Tp (.pointer (some p53)) rfl (PO.indexAddr (n := a3.length) Tryd.underlying23 sz36 rfl rfl hg52.1 hg52.2 hat55) rfl ?_
 refine Tp (a36_ (rd a3 x25) vw58_14 vw58_15 vw58_16 vw58_17) rfl (PO.loadMA (cs := (l36 (rd a3 x25) vw58_14 vw58_15 vw58_16 vw58_17)) ag36 sz36 rfl hhas57) rfl ?_
 refine WT.alt rfl (EO.buildSliceL (cl := (l36 (rd a3 x25) vw58_14 vw58_15 vw58_16 vw58_17)) Tryd.underlying23 iz36 rfl (Parts.cons (congrArg Value.cells (show ev _ _ = (a36_ (rd a3 x25) vw58_14 vw58_15 vw58_16 vw58_17) from rfl)) Parts.nil) rfl) rfl ?_ ?_
 rintro _ _ _ - ⟨rfl, g59, rfl, rfl⟩
 have h61 : OwnS kd_api_Record M33 (.slice (some ⟨g59, 0, none⟩) 1 1) [(rd a3 x25)] [(g59, .cells (l36 (rd a3 x25) vw58_14 vw58_15 vw58_16 vw58_17).toArray 36 (0, 0))] := OwnS.rows (css := [(l36 (rd a3 x25) vw58_14 vw58_15 vw58_16 vw58_17)]) (Rows.cons (kd_api_Record_mk (x := (rd a3 x25)) hw58_14 hw58_15 hw58_16 hw58_17) Rows.nil) rfl rfl
 refine ⟨(StabL.anc rfl (StabL.anc rfl (StabL.anc rfl (StabL.anc rfl (StabL.st (StabA.of rfl (PO.loadB 1 pl23 rfl rfl rfl) rfl) (StabL.st (StabA.of rfl (PO.fieldAddr fo31_2 rfl rfl) rfl) trivial)))))), ?_⟩
 obtain ⟨hg64, h⟩ := grd_i h
 refine WT.f3 ?_
 refine WT.alt rfl (EO.appendSh (dd := kd_api_Record) (xs := (rd x32 (IntKind.i64.wrap ((x32.length : Int) - (1 : Int)))).Records) (ys := [(rd a3 x25)]) Tryd.underlying23 Tryd.underlying23 in36 rfl (appB (by decide) hg64) (by decide) rfl rfl hS50 (h61.src 1 rfl)) rfl ?_ ?_
 rintro v63 M65 _ hle66 ⟨c67, rfl, h62⟩
 have h3 := h3.mono hle66
 have hx32 := hx32.mono hle66
 have hw50_2 := hw50_2.mono hle66
 have hhas57 := hhas57.mono hle66
 have hw58_14 := hw58_14.mono hle66
 have hw58_15 := hw58_15.mono hle66
 have hw58_16 := hw58_16.mono hle66
 have hw58_17 := hw58_17.mono hle66
 have h61 := h61.mono hle66
 refine ⟨(StabL.anc rfl (StabL.anc rfl (StabL.anc rfl (StabL.anc rfl (StabL.anc rfl (StabL.anc rfl trivial)))))), ?_⟩
 refine WT.know (fun _ hs => h62.rs hs) (fun hr62 => ?_)
 refine Tp (pt g51 2) rfl (PO.fieldAddr fo31_2 rfl rfl) rfl ?_
 refine WT.f2 ?_
 refine WT.alt rfl (EO.storeL (v := v63) (vl := [v63]) (arr' := (l31 (rd x32 (IntKind.i64.wrap ((x32.length : Int) - (1 : Int)))) v63)) h62.cells sz23 rfl rfl (onesOf (Ones.cons (RS.one hr62) Ones.nil)) rfl rfl rfl) rfl ?_ ?_
 rintro _ _ _ - ⟨rfl, rfl⟩
 refine ⟨(StabL.anc rfl (StabL.anc rfl (StabL.anc rfl (StabL.anc rfl (StabL.anc rfl (StabL.anc rfl (StabL.anc rfl trivial))))))), ?_⟩
 refine WT.fin ?_
 refine WQ.thenC ?_
 refine WC.region ?_
 refine Pm vx32 hs33_9 rfl ?_
 refine Pm vx32 hs33_9 rfl ?_
 refine Pu (.int .i64 (x32.length : Int)) (PO.lenS Tryd.underlying26 rfl hx32.own.len) rfl ?_
 refine Pu (.int .i64 (IntKind.i64.wrap ((x32.length : Int) - (1 : Int)))) (PO.sub rfl rfl) rfl ?_
 refine Pu (a31_ (rd x32 (IntKind.i64.wrap ((x32.length : Int) - (1 : Int)))) v63) (PO.loadBA (cs := (l31 (rd x32 (IntKind.i64.wrap ((x32.length : Int) - (1 : Int)))) v63)) 0 ag31 sz31 rfl rfl rfl) rfl ?_
 obtain ⟨hg67, h⟩ := grd_i h
 refine Pu (.pointer (some p45)) (PO.indexAddr (n := x32.length) Tryd.underlying26 sz31 rfl rfl hg67.1 hg67.2 hat47) rfl ?_
 obtain ⟨ps, hO, hpl, hst⟩ := hset hle66
 refine WL.f3 ?_
 refine WL.eff (EO.storeOwn (dd := kdBV) (a := ((⟨(rd x32 (IntKind.i64.wrap ((x32.length : Int) - (1 : Int)))).Term, (rd x32 (IntKind.i64.wrap ((x32.length : Int) - (1 : Int)))).Base, ((rd x32 (IntKind.i64.wrap ((x32.length : Int) - (1 : Int)))).Records) ++ [(rd a3 x25)]⟩ : T_api_Batch), v63)) sz31 rfl hat47 hpl.symm hg67.1 (by rw [hpl]; exact hg67.2) rfl hO ⟨kd_api_Batch_mk (x := (⟨(rd x32 (IntKind.i64.wrap ((x32.length : Int) - (1 : Int)))).Term, (rd x32 (IntKind.i64.wrap ((x32.length : Int) - (1 : Int)))).Base, ((rd x32 (IntKind.i64.wrap ((x32.length : Int) - (1 : Int)))).Records) ++ [(rd a3 x25)]⟩ : T_api_Batch)) hr62, rfl⟩) rfl ?_
 rintro _ _ _ - ⟨rfl, c74, rfl, h75⟩
 refine WL.nil ?_
 refine WQ.blockN ?_
 refine WQ.thenC ?_
 refine WC.region ?_
 refine Pm (.int .i64 x25) hs33_10 rfl ?_
 refine Pu (.int .i64 (IntKind.i64.wrap (x25 + 1))) (PO.add rfl rfl) rfl ?_
 refine Pa (.int .i64 (IntKind.i64.wrap (x25 + 1))) rfl rfl ?_
 refine WL.nil ?_
 refine WQ.f1 ?_
 refine WQ.drop ?_
 refine WQ.f2 ?_
 refine WQ.drop ?_
 refine WQ.again (x32.set (IntKind.i64.wrap ((x32.length : Int) - (1 : Int))).toNat (⟨(rd x32 (IntKind.i64.wrap ((x32.length : Int) - (1 : Int)))).Term, (rd x32 (IntKind.i64.wrap ((x32.length : Int) - (1 : Int)))).Base, ((rd x32 (IntKind.i64.wrap ((x32.length : Int) - (1 : Int)))).Records) ++ [(rd a3 x25)]⟩ : T_api_Batch), IntKind.i64.wrap (x25 + 1)) (Option.some.inj h).symm ?_
 exact ⟨vx32, c74, c67, (((hle23.trans hle29).trans hle33).trans hle66), rfl, hs33_0, hs33_1, hs33_2, hs33_3, hs33_9, rfl, hst h75 h62⟩
 exact WT.no
 exact WT.no
 exact WT.no
 have h := ite_f hb31 h
 refine WC.exit ?_
 refine WQ.thenE ?_
 refine WQ.leaveE x24 (Option.some.inj h).symm (fun heq23 => ?_)
 subst heq23
 have h := hK23
 refine WQ.blockH ?_
 refine WQ.f1 ?_
 refine WQ.drop ?_
 obtain rfl := Option.some.inj h
 refine WQ.thenJ ?_
 exact ⟨vx24, cx24, (hle23.trans hle29), rfl, hs29_9, hx24.own⟩
 rintro ρ22 M22 H22 ⟨vx21, cx21, hle22, rfl, hs22_9, hx21⟩
 refine Sr ?_
 refine Pm vx21 hs22_9 rfl ?_
 refine Pa vx21 rfl rfl ?_
 refine Nt ?_
 refine WC.ret ?_
 exact WQ.returnsF h [cx21] rfl (results1 rfl rfl) hle22 ⟨vx21, cx21, rfl, rfl, hx21⟩
noncomputable def f_ref02_Ints_l0 (a0:(List Int)) (a1:(List Int)) (b:Int):Option (Int⊕(Unit⊕Unit)):=
 match b with
 |a=>
 (if(decide (a<(a0.length:Int)))=true then(grd (0≤a∧a<a0.length) (grd (0≤a∧a<a1.length) (if(decide ((rd a0 a)≠(rd a1 a)))=true then(some (inr (inr ())))else(some (inl (i64.wrap (a+(1:Int))))))))else(some (inr (inl ()))))
noncomputable def f_ref02_Ints (a0:(List Int)) (a1:(List Int)):Option Bool:=
 (if(decide ((a0.length:Int)≠(a1.length:Int)))=true then(some false)else((((iter (f_ref02_Ints_l0 a0 a1) (0:Int)).bind (Sum.elim (fun _=>(some (inl ()))) (fun _=>(((some false)).bind fun r=>some (inr r))))):Option (Unit⊕Bool)).bind (Sum.elim (fun _=>(some true)) some)))
def f_ref02_Ints_post (a0:(List Int)) (a1:(List Int)) (c d:Value):Bool→Value→IM→HL→Prop:=
 fun(a:Bool) (v:Value) (e:IM) (b:HL)=>(.bool a)=v∧b=[]
theorem f_ref02_Ints_ok (a0:(List Int)) (a1:(List Int)) (M:IM) (k r:Value) (s:RS (Kd.int .i64) M k a0) (A:RS (Kd.int .i64) M r a1) (t:Bool) (h:f_ref02_Ints a0 a1=some t):
 Tri prog 57 #[k,r] M [] (f_ref02_Ints_post a0 a1 k r t):=by
 unfold f_ref02_Ints at h
 refine Te func57 Z Z ?_
 intro F V B
 refine Sr (qa (Bv false) (Nt (Cs (Sr (qM k (B 0) (qu (Iv (a0.length:Int)) (lenS underlying34 Z s.len) (qM r (B 1) (qu (Iv (a1.length:Int)) (lenS underlying34 Z A.len) (qu (Bv (decide ((a0.length:Int)≠(a1.length:Int)))) (neq Z Z) (Nt (Ch h Z (fun u h=> ?_) (fun u h=> ?_))))))))))))
 exact Sr (qa (Bv false) (Nt (Cr (Tr (Rf h [] Z (Rs Z Z) lr ⟨Z,Z⟩)))))
 refine Ck (Tc ?_)
 obtain ⟨D,v,h⟩:=bnd h
 refine WC.joinE (fun(_:Unit) C E G=>M.le E∧F=G) D ?_ ?_
 have w:=h
 have h:=v
 refine Sr (qa (Iv 0) (Nt (Bk ?_)))
 obtain ⟨N,x,j⟩:=bnd h
 clear h
 refine WC.loop x (fun(a:Int) C E G=>M.le E∧F=G∧C 0=k∧C 1=r∧C 5=(Iv a)) ?_ ?_
 exact⟨lr,Z,(B 0),(B 1),Z⟩
 rintro a O P Q R h ⟨c,rfl,d,f,b⟩
 unfold f_ref02_Ints_l0 at h
 refine Cs (Sr (qM (Iv a) b (qM k d ?_)))
 have s:=s.mono c
 refine qu (Iv (a0.length:Int)) (lenS underlying34 Z s.len) (qu (Bv (decide (a<(a0.length:Int)))) (lss Z Z) (Nt (Ch h Z (fun y h=> ?_) (fun y h=> ?_))))
 refine Ck (Tc (Cs (Bk (Cs (WC.draw [0,0,3,7,0,0,48,112,255] (.pure 0 (.pure 1 (.pure 2 (.pure 3 (.pure 4 (.pure 5 (.pure 6 (.pure 7 (.pure 8 .done))))))))) mixed (by kernel_rfl) (qt k Z (Mv d) (qt (Iv a) Z (Mv b) ?_)))))))
 obtain ⟨g,h⟩:=grd_i h
 obtain ⟨I,K,l,m,hhas31⟩:=s.at g.1 g.2 (by decide)
 obtain rfl:=m
 refine qt (.pointer (some I)) Z (indexAddr (n:=a0.length) underlying34 sz3 Z Z g.1 g.2 l) (qt (Iv (rd a0 a)) Z (loadM pl3 Z (IM.has0 hhas31)) (qt r Z (Mv f) (qt (Iv a) Z (Mv b) ?_)))
 obtain ⟨i,h⟩:=grd_i h
 have A:=A.mono c
 obtain ⟨J,L,o,p,hhas38⟩:=A.at i.1 i.2 (by decide)
 obtain rfl:=p
 refine qt (.pointer (some J)) Z (indexAddr (n:=a1.length) underlying34 sz3 Z Z i.1 i.2 o) (qt (Iv (rd a1 a)) Z (loadM pl3 Z (IM.has0 hhas38)) (qt (Bv (decide ((rd a0 a)≠(rd a1 a)))) Z (neq Z Z) (Ti (Tc (Ch h Z (fun z h=> ?_) (fun z h=> ?_))))))
 refine Sr (qa (Bv false) (Nt (Cr (Br (Tr (WQ.leaveR (inr ()) (oi h).symm (fun e=> ?_)))))))
 subst e
 have h:=(elimR j)
 refine Br (Tr ?_)
 have h:=KK.early h w
 exact Rf h [] Z (Rs Z Z) c ⟨Z,Z⟩
 exact Ck (Bn (Tc (Cg (qM (Iv a) b (qu (Iv (i64.wrap (a+1))) (add Z Z) (qa (Iv (i64.wrap (a+1))) (Wz (WQ.again (i64.wrap (a+1)) (oi h).symm ⟨c,Z,d,f,Z⟩))))))))
 refine WC.exit (WQ.thenE (WQ.leaveE (inl ()) (oi h).symm (fun e=> ?_)))
 subst e
 have h:=elimL j
 exact WQ.blockH (WQ.thenFE h ⟨c,Z⟩)
 rintro _ S T U rfl ⟨q,rfl⟩
 have h:=(Sum.elim_inl _ _ _).symm.trans h
 exact Sr (qa (Bv true) (Nt (Cr (Rf h [] Z (Rs Z Z) q ⟨Z,Z⟩))))

end Go.Proofs.YtpmofealbmapiaaDoor.G
